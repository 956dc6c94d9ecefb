/- Part 3. -/
import Derived.Test.YtnagfmlifobdiaaGreatDoorNames2
import Derived.Below
import Derived.Carry
import Derived.ChangeOld
import Derived.MakeChecks
import Derived.OpenShut
set_option linter.all false
set_option maxHeartbeats 4000000
set_option maxRecDepth 10000
open List(range)
open List(replicate)
namespace Go.Proofs.Tryz.K
open Go.Abs
theorem kR{α:Sort _}{a b:α}(h:a=b:=by kernel_rfl):a=b:=h
instance:V (prog.cellsOf 1) 1:=⟨c1⟩
instance:V (bm prog 1) false:=⟨a1⟩
instance:V (aH prog 1) true:=⟨t1⟩
instance:V (prog.bytesOf 1) 8:=⟨b1⟩
instance:V (prog.cellsOf 2) 1:=⟨kR⟩
instance:V (prog.bytesOf 2) 8:=⟨b2⟩
instance:V (bm prog 2) false:=⟨a2⟩
instance:V (aH prog 2) true:=⟨t2⟩
instance:V (a6 prog 2) [.s (.int .i64 0)]:=⟨z2⟩
instance:V (prog.cellsOf 3) 1:=⟨c3⟩
instance:V (prog.bytesOf 3) 8:=⟨b3⟩
instance:V (bm prog 3) false:=⟨a3⟩
instance:V (aH prog 3) true:=⟨t3⟩
instance:V (a6 prog 3) [.s (.int .i64 0)]:=⟨z3⟩
instance:V (prog.cellsOf 4) 1:=⟨c4⟩
instance:V (prog.bytesOf 4) 1:=⟨b4⟩
instance:V (bm prog 4) false:=⟨a4⟩
instance:V (aH prog 4) true:=⟨t4⟩
instance:V (a6 prog 4) [.s (.bool false)]:=⟨z4⟩
instance:V (prog.cellsOf 5) 1:=⟨c5⟩
instance:V (prog.bytesOf 5) 1:=⟨b5⟩
instance:V (bm prog 5) false:=⟨a5⟩
instance:V (aH prog 5) true:=⟨t5⟩
instance:V (a6 prog 5) [.s (.int .u8 0)]:=⟨z5⟩
instance:V (prog.bytesOf 6) 1:=⟨b6⟩
instance:V (prog.bytesOf 7) 24:=⟨b7⟩
instance:V (prog.bytesOf 8) 24:=⟨b8⟩
instance:V (prog.cellsOf 9) 1:=⟨c9⟩
instance:V (prog.bytesOf 9) 16:=⟨b9⟩
instance:V (bm prog 9) false:=⟨a9⟩
instance:V (aH prog 9) true:=⟨t9⟩
instance:V (a6 prog 9) [.s (.string "".toUTF8)]:=⟨z9⟩
instance:V (fL prog 9) true:=⟨kR⟩
instance:V (prog.bytesOf 10) 16:=⟨ly⟩
instance:V (aD prog 15) 321:=⟨N8⟩
instance:V (aD prog 16) 324:=⟨N9⟩
instance:V (aD prog 17) 331:=⟨N3⟩
instance:V (prog.cellsOf 22) 1:=⟨kR⟩
instance:V (bm prog 22) false:=⟨kR⟩
instance:V (aH prog 22) true:=⟨kR⟩
instance:V (aD prog 22) 48:=⟨Eu⟩
instance:V (bi prog 22) true:=⟨DJ⟩
instance:V (prog.cellsOf 23) 1:=⟨kR⟩
instance:V (bm prog 23) false:=⟨kR⟩
instance:V (aH prog 23) true:=⟨kR⟩
instance:V (aD prog 23) 43:=⟨Vz⟩
instance:V (bi prog 23) true:=⟨Uo⟩
instance:V (prog.cellsOf 27) 1:=⟨BJ⟩
instance:V (bm prog 27) false:=⟨H3⟩
instance:V (aH prog 27) true:=⟨t27⟩
instance:V (a6 prog 27) [.s (.int .i64 0)]:=⟨kR⟩
instance:V (bm prog 31) false:=⟨a31⟩
instance:V (aH prog 31) true:=⟨t31⟩
instance:V (a6 prog 31) [.s .nilFunc]:=⟨z31⟩
instance:V (prog.cellsOf 34) 1:=⟨kR⟩
instance:V (bm prog 34) false:=⟨kR⟩
instance:V (aH prog 34) true:=⟨kR⟩
instance:V (aD prog 34) 9:=⟨rE⟩
instance:V (bi prog 34) true:=⟨ln⟩
instance:V (bm prog 37) false:=⟨a37⟩
instance:V (aH prog 37) true:=⟨t37⟩
instance:V (a6 prog 37) [.s .nilFunc]:=⟨z37⟩
instance:V (prog.cellsOf 43) 1:=⟨s6⟩
instance:V (prog.bytesOf 43) 24:=⟨Ej⟩
instance:V (bm prog 43) false:=⟨H2⟩
instance:V (aH prog 43) true:=⟨t43⟩
instance:V (a6 prog 43) [.z]:=⟨kR⟩
instance:V (aD prog 43) 3:=⟨zl⟩
instance:V (bi prog 43) true:=⟨AZ⟩
instance:V (prog.cellsOf 45) 1:=⟨kR⟩
instance:V (bm prog 45) false:=⟨kR⟩
instance:V (aH prog 45) true:=⟨kR⟩
instance:V (aD prog 45) 5:=⟨HR⟩
instance:V (bi prog 45) true:=⟨A2⟩
instance:V (prog.cellsOf 46) 1:=⟨kR⟩
instance:V (bm prog 46) false:=⟨a46⟩
instance:V (aH prog 46) true:=⟨t46⟩
instance:V (a6 prog 46) [.z]:=⟨z46⟩
instance:V (aD prog 46) 59:=⟨Nl⟩
instance:V (bi prog 46) true:=⟨L2⟩
instance:V (prog.cellsOf 48) 8:=⟨mg⟩
instance:V (prog.bytesOf 48) 136:=⟨H'⟩
instance:V (bm prog 48) true:=⟨wJ⟩
instance:V (aH prog 48) true:=⟨t48⟩
instance:V (a6 prog 48) [.s (.string "".toUTF8),.s (.bool false),.s (.int .i64 0),.s (.int .u8 0),.z,.z,.z,.z]:=⟨kR⟩
instance:V (bX prog 48 0) (some (0,9)):=⟨kR⟩
instance:V (bX prog 48 1) (some (1,4)):=⟨kR⟩
instance:V (bX prog 48 2) (some (2,3)):=⟨kR⟩
instance:V (bX prog 48 3) (some (3,5)):=⟨kR⟩
instance:V (bX prog 48 4) (some (4,45)):=⟨kR⟩
instance:V (bX prog 48 5) (some (5,45)):=⟨kR⟩
instance:V (bX prog 48 6) (some (6,34)):=⟨kR⟩
instance:V (bX prog 48 7) (some (7,46)):=⟨kR⟩
instance:V (bm prog 51) false:=⟨a51⟩
instance:V (aH prog 51) true:=⟨t51⟩
instance:V (a6 prog 51) [.s .nilFunc]:=⟨z51⟩
instance:V (prog.cellsOf 52) 1:=⟨kR⟩
instance:V (bm prog 52) false:=⟨kR⟩
instance:V (aH prog 52) true:=⟨kR⟩
instance:V (aD prog 52) 54:=⟨Vv⟩
instance:V (bi prog 52) true:=⟨Un⟩
instance:V (bm prog 53) true:=⟨a53⟩
instance:V (aH prog 53) true:=⟨t53⟩
instance:V (a6 prog 53) [.s (.int .u8 0),.s (.int .i64 0),.s (.int .i64 0),.s (.int .i64 0),.s (.int .i64 0),.z]:=⟨z53⟩
instance:V (prog.cellsOf 54) 6:=⟨Nk⟩
instance:V (prog.bytesOf 54) 64:=⟨Nj⟩
instance:V (bm prog 54) true:=⟨kR⟩
instance:V (aH prog 54) true:=⟨kR⟩
instance:V (a6 prog 54) [.s (.int .u8 0),.s (.int .i64 0),.s (.int .i64 0),.s (.int .i64 0),.s (.int .i64 0),.z]:=⟨kR⟩
instance:V (bX prog 54 0) (some (0,5)):=⟨kR⟩
instance:V (bX prog 54 1) (some (1,3)):=⟨kR⟩
instance:V (bX prog 54 2) (some (2,3)):=⟨kR⟩
instance:V (bX prog 54 3) (some (3,3)):=⟨kR⟩
instance:V (bX prog 54 4) (some (4,3)):=⟨kR⟩
instance:V (bX prog 54 5) (some (5,43)):=⟨kR⟩
instance:V (prog.cellsOf 55) 1:=⟨kR⟩
instance:V (bm prog 55) false:=⟨kR⟩
instance:V (aH prog 55) true:=⟨kR⟩
instance:V (aD prog 55) 79:=⟨Ng⟩
instance:V (bi prog 55) true:=⟨DF⟩
instance:V (prog.cellsOf 57) 15:=⟨NI⟩
instance:V (bm prog 57) true:=⟨VP⟩
instance:V (aH prog 57) true:=⟨t57⟩
instance:V (a6 prog 57) [.s (.int .u8 0),.s (.int .i64 0),.s (.int .i64 0),.s (.int .i64 0),.s (.int .i64 0),.s (.string "".toUTF8),.s (.int .u8 0),.s (.int .i64 0),.s (.int .i64 0),.s (.int .i64 0),.s (.int .i64 0),.z,.z,.z,.s (.int .i64 0)]:=⟨kR⟩
instance:V (bX prog 57 0) (some (0,5)):=⟨kR⟩
instance:V (bX prog 57 1) (some (1,3)):=⟨kR⟩
instance:V (bX prog 57 2) (some (2,3)):=⟨kR⟩
instance:V (bX prog 57 3) (some (3,3)):=⟨kR⟩
instance:V (bX prog 57 4) (some (4,3)):=⟨kR⟩
instance:V (bX prog 57 5) (some (5,9)):=⟨kR⟩
instance:V (bX prog 57 6) (some (6,54)):=⟨kR⟩
instance:V (bX prog 57 7) (some (12,43)):=⟨kR⟩
instance:V (bX prog 57 8) (some (13,55)):=⟨kR⟩
instance:V (bX prog 57 9) (some (14,3)):=⟨kR⟩
instance:V (prog.cellsOf 59) 16:=⟨Eh⟩
instance:V (prog.bytesOf 59) 200:=⟨HT⟩
instance:V (bm prog 59) true:=⟨kR⟩
instance:V (aH prog 59) true:=⟨kR⟩
instance:V (a6 prog 59) [.z,.s (.int .u8 0),.s (.int .i64 0),.s (.int .i64 0),.s (.int .i64 0),.s (.int .i64 0),.s (.string "".toUTF8),.s (.int .u8 0),.s (.int .i64 0),.s (.int .i64 0),.s (.int .i64 0),.s (.int .i64 0),.z,.z,.z,.s (.int .i64 0)]:=⟨z59⟩
instance:V (bX prog 59 0) (some (0,52)):=⟨kR⟩
instance:V (bX prog 59 1) (some (1,57)):=⟨kR⟩
instance:V (bm prog 70) true:=⟨a70⟩
instance:V (aH prog 70) true:=⟨t70⟩
instance:V (a6 prog 70) [.s (.int .u8 0),.s (.int .i64 0)]:=⟨z70⟩
instance:V (bm prog 72) true:=⟨a72⟩
instance:V (aH prog 72) true:=⟨t72⟩
instance:V (a6 prog 72) [.s (.int .u8 0),.s (.string "".toUTF8),.s (.int .u8 0),.s (.int .i64 0),.z,.s (.int .i64 0)]:=⟨z72⟩
instance:V (bm prog 75) false:=⟨a75⟩
instance:V (aH prog 75) true:=⟨t75⟩
instance:V (a6 prog 75) [.s .nilFunc]:=⟨z75⟩
instance:V (bm prog 76) false:=⟨a76⟩
instance:V (aH prog 76) true:=⟨t76⟩
instance:V (a6 prog 76) [.s .nilFunc]:=⟨z76⟩
instance:V (prog.cellsOf 79) 2:=⟨HS⟩
instance:V (prog.bytesOf 79) 24:=⟨Vu⟩
instance:V (bm prog 79) true:=⟨kR⟩
instance:V (aH prog 79) true:=⟨kR⟩
instance:V (a6 prog 79) [.s (.string "".toUTF8),.s (.int .i64 0)]:=⟨kR⟩
instance:V (bX prog 79 0) (some (0,9)):=⟨kR⟩
instance:V (bX prog 79 1) (some (1,3)):=⟨kR⟩
instance:V (prog.cellsOf 82) 3:=⟨mT⟩
instance:V (bm prog 82) true:=⟨s5⟩
instance:V (aH prog 82) true:=⟨t82⟩
instance:V (a6 prog 82) [.z,.z,.z]:=⟨kR⟩
instance:V (bX prog 82 0) (some (0,22)):=⟨kR⟩
instance:V (bX prog 82 1) (some (1,34)):=⟨kR⟩
instance:V (bX prog 82 2) (some (2,23)):=⟨kR⟩
instance:V (prog.cellsOf 86) 4:=⟨wO⟩
instance:V (bm prog 86) true:=⟨BD⟩
instance:V (aH prog 86) true:=⟨t86⟩
instance:V (a6 prog 86) [.z,.z,.z,.z]:=⟨kR⟩
instance:V (bX prog 86 0) (some (0,82)):=⟨kR⟩
instance:V (bX prog 86 1) (some (3,43)):=⟨kR⟩
instance:V (prog.cellsOf 92) 1:=⟨kR⟩
instance:V (bm prog 92) false:=⟨kR⟩
instance:V (aH prog 92) true:=⟨kR⟩
instance:V (a6 prog 92) [.z]:=⟨kR⟩
instance:V (aD prog 92) 4:=⟨Es⟩
instance:V (bi prog 92) true:=⟨DH⟩
instance:V (prog.cellsOf 93) 1:=⟨kR⟩
instance:V (bm prog 93) false:=⟨kR⟩
instance:V (aH prog 93) true:=⟨kR⟩
instance:V (a6 prog 93) [.s (.map none)]:=⟨kR⟩
instance:V (prog.cellsOf 105) 1:=⟨kR⟩
instance:V (bm prog 105) false:=⟨kR⟩
instance:V (aH prog 105) true:=⟨kR⟩
instance:V (a6 prog 105) [.s (.map none)]:=⟨kR⟩
instance:V (prog.cellsOf 111) 1:=⟨kR⟩
instance:V (bm prog 111) false:=⟨kR⟩
instance:V (aH prog 111) true:=⟨kR⟩
instance:V (prog.cellsOf 113) 10:=⟨UY⟩
instance:V (bm prog 113) true:=⟨UX⟩
instance:V (aH prog 113) true:=⟨t113⟩
instance:V (a6 prog 113) [.s (.string "".toUTF8),.s (.bool false),.s (.int .i64 0),.s (.int .u8 0),.z,.z,.z,.z,.s (.map none),.s (.map none)]:=⟨kR⟩
instance:V (bX prog 113 0) (some (0,48)):=⟨kR⟩
instance:V (bX prog 113 1) (some (8,111)):=⟨kR⟩
instance:V (bX prog 113 2) (some (9,111)):=⟨kR⟩
instance:V (prog.cellsOf 121) 2:=⟨L6⟩
instance:V (bm prog 121) true:=⟨kR⟩
instance:V (aH prog 121) true:=⟨t121⟩
instance:V (a6 prog 121) [.s (.int .i64 0),.s (.int .i64 0)]:=⟨Ho⟩
instance:V (bX prog 121 0) (some (0,3)):=⟨kR⟩
instance:V (bX prog 121 1) (some (1,3)):=⟨kR⟩
instance:V (bm prog 127) false:=⟨a127⟩
instance:V (aH prog 127) true:=⟨t127⟩
instance:V (a6 prog 127) [.s .nilFunc]:=⟨z127⟩
instance:V (bm prog 164) false:=⟨a164⟩
instance:V (aH prog 164) true:=⟨t164⟩
instance:V (a6 prog 164) [.s .nilFunc]:=⟨z164⟩
instance:V (bm prog 171) false:=⟨a171⟩
instance:V (aH prog 171) true:=⟨t171⟩
instance:V (a6 prog 171) [.s .nilFunc]:=⟨z171⟩
instance:V (bm prog 173) true:=⟨a173⟩
instance:V (aH prog 173) true:=⟨t173⟩
instance:V (a6 prog 173) [.s (.int .i64 0),.s (.int .i64 0),.z]:=⟨z173⟩
instance:V (prog.cellsOf 174) 3:=⟨uy⟩
instance:V (prog.bytesOf 174) 40:=⟨Uz⟩
instance:V (bm prog 174) true:=⟨Uu⟩
instance:V (aH prog 174) true:=⟨t174⟩
instance:V (a6 prog 174) [.s (.int .i64 0),.s (.int .i64 0),.z]:=⟨Hn⟩
instance:V (bX prog 174 0) (some (0,121)):=⟨kR⟩
instance:V (bX prog 174 1) (some (2,43)):=⟨kR⟩
instance:V (aD prog 175) 174:=⟨A'⟩
instance:V (bi prog 175) true:=⟨AM⟩
instance:V (prog.cellsOf 183) 2:=⟨kR⟩
instance:V (aH prog 183) true:=⟨kR⟩
instance:V (a6 prog 183) [.s (.pointer none),.z]:=⟨kR⟩
instance:V (bX prog 183 1) (some (1,45)):=⟨kR⟩
instance:V (aD prog 196) 201:=⟨kR⟩
instance:V (bi prog 196) true:=⟨kR⟩
instance:V (prog.cellsOf 199) 1:=⟨kR⟩
instance:V (bm prog 199) false:=⟨kR⟩
instance:V (aH prog 199) true:=⟨kR⟩
instance:V (prog.cellsOf 201) 20:=⟨rj⟩
instance:V (prog.bytesOf 201) 160:=⟨UQ⟩
instance:V (bm prog 201) true:=⟨a201⟩
instance:V (aH prog 201) true:=⟨t201⟩
instance:V (a6 prog 201) [.s (.int .u64 0),.s (.int .u64 0),.s (.int .u64 0),.s (.int .u64 0),.s (.int .u64 0),.s (.int .u64 0),.s (.int .u64 0),.s (.int .u64 0),.s (.int .u64 0),.s (.int .u64 0),.s (.int .u64 0),.s (.int .u64 0),.s (.int .u64 0),.s (.int .u64 0),.s (.int .u64 0),.s (.int .u64 0),.s (.int .u64 0),.s (.int .u64 0),.s (.int .u64 0),.s (.int .u64 0)]:=⟨z201⟩
instance:V (aD prog 201) 199:=⟨kR⟩
instance:V (nM prog 201) true:=⟨kR⟩
instance:V (oq prog 201) 20:=⟨kR⟩
instance:V (bm prog 212) true:=⟨a212⟩
instance:V (aH prog 212) true:=⟨t212⟩
instance:V (a6 prog 212) [.s (.pointer none),.z]:=⟨z212⟩
instance:V (prog.cellsOf 213) 2:=⟨kR⟩
instance:V (bm prog 213) true:=⟨a213⟩
instance:V (aH prog 213) true:=⟨t213⟩
instance:V (a6 prog 213) [.s (.pointer none),.z]:=⟨z213⟩
instance:V (bX prog 213 0) (some (0,183)):=⟨kR⟩
instance:V (bm prog 232) false:=⟨a232⟩
instance:V (aH prog 232) true:=⟨t232⟩
instance:V (a6 prog 232) [.s .nilFunc]:=⟨z232⟩
instance:V (bm prog 233) false:=⟨a233⟩
instance:V (aH prog 233) true:=⟨t233⟩
instance:V (a6 prog 233) [.s .nilFunc]:=⟨z233⟩
instance:V (prog.cellsOf 237) 6:=⟨kR⟩
instance:V (bm prog 237) true:=⟨Mo⟩
instance:V (aH prog 237) true:=⟨kR⟩
instance:V (a6 prog 237) [.s (.int .i64 0),.s (.int .i64 0),.s (.int .i64 0),.s (.int .i64 0),.s (.int .i64 0),.s (.int .i64 0)]:=⟨Mp⟩
instance:V (bX prog 237 0) (some (0,3)):=⟨kR⟩
instance:V (bX prog 237 1) (some (1,3)):=⟨kR⟩
instance:V (bX prog 237 2) (some (2,3)):=⟨kR⟩
instance:V (bX prog 237 3) (some (3,3)):=⟨kR⟩
instance:V (bX prog 237 4) (some (4,3)):=⟨kR⟩
instance:V (bX prog 237 5) (some (5,3)):=⟨kR⟩
instance:V (prog.underlying 2) (some (.int .i64)):=⟨kR⟩
instance:V (prog.underlying 3) (some (.int .i64)):=⟨u3⟩
instance:V (prog.underlying 5) (some (.int .u8)):=⟨u5⟩
instance:V (prog.underlying 8) (some (.struct (dU prog 8))):=⟨u8⟩
instance:V (prog.underlying 21) (some (.int .i32)):=⟨kR⟩
instance:V (prog.underlying 45) (some (.slice 5)):=⟨kR⟩
instance:V (prog.underlying 48) (some (.struct (dU prog 48))):=⟨kR⟩
instance:V (((dU prog 48).toList.map fun f=>(f.offset,prog.cellsOf f.type))) [(0,1),(1,1),(2,1),(3,1),(4,1),(5,1),(6,1),(7,1)]:=⟨kR⟩
instance:V (((dU prog 48).toList.all fun f=>(prog.info? f.type).isSome)) true:=⟨kR⟩
instance:V (prog.underlying 54) (some (.struct (dU prog 54))):=⟨kR⟩
instance:V (((dU prog 54).toList.map fun f=>(f.offset,prog.cellsOf f.type))) [(0,1),(1,1),(2,1),(3,1),(4,1),(5,1)]:=⟨kR⟩
instance:V (((dU prog 54).toList.all fun f=>(prog.info? f.type).isSome)) true:=⟨kR⟩
instance:V (prog.underlying 69) (some (.int .u64)):=⟨kR⟩
instance:V (prog.underlying 70) (some (.struct (dU prog 70))):=⟨Vj⟩
instance:V (prog.underlying 72) (some (.struct (dU prog 72))):=⟨Vi⟩
instance:V (prog.underlying 82) (some (.struct (dU prog 82))):=⟨kR⟩
instance:V (((dU prog 82).toList.map fun f=>(f.offset,prog.cellsOf f.type))) [(0,1),(1,1),(2,1)]:=⟨kR⟩
instance:V (((dU prog 82).toList.all fun f=>(prog.info? f.type).isSome)) true:=⟨kR⟩
instance:V (prog.underlying 86) (some (.struct (dU prog 86))):=⟨kR⟩
instance:V (((dU prog 86).toList.map fun f=>(f.offset,prog.cellsOf f.type))) [(0,3),(3,1)]:=⟨kR⟩
instance:V (((dU prog 86).toList.all fun f=>(prog.info? f.type).isSome)) true:=⟨kR⟩
instance:V (ez prog 93) 3:=⟨A8⟩
instance:V (fI prog 93) true:=⟨A9⟩
instance:V (ez prog 105) 9:=⟨Lh⟩
instance:V (fI prog 105) true:=⟨Li⟩
instance:V (ez prog 111) 5:=⟨kR⟩
instance:V (fI prog 111) true:=⟨kR⟩
instance:V (lh prog 111) 237:=⟨Lo⟩
instance:V (prog.underlying 113) (some (.struct (dU prog 113))):=⟨kR⟩
instance:V (((dU prog 113).toList.map fun f=>(f.offset,prog.cellsOf f.type))) [(0,8),(8,1),(9,1)]:=⟨kR⟩
instance:V (((dU prog 113).toList.all fun f=>(prog.info? f.type).isSome)) true:=⟨kR⟩
instance:V (prog.underlying 121) (some (.struct (dU prog 121))):=⟨Ux⟩
instance:V (((dU prog 121).toList.map fun f=>(f.offset,prog.cellsOf f.type))) [(0,1),(1,1)]:=⟨TD⟩
instance:V (((dU prog 121).toList.all fun f=>(prog.info? f.type).isSome)) true:=⟨TE⟩
instance:V (ez prog 144) 9:=⟨Dh⟩
instance:V (fI prog 144) true:=⟨Di⟩
instance:V (ez prog 172) 121:=⟨Ld⟩
instance:V (fI prog 172) true:=⟨Le⟩
instance:V (prog.underlying 174) (some (.struct (dU prog 174))):=⟨Uy⟩
instance:V (((dU prog 174).toList.map fun f=>(f.offset,prog.cellsOf f.type))) [(0,2),(2,1)]:=⟨TG⟩
instance:V (((dU prog 174).toList.all fun f=>(prog.info? f.type).isSome)) true:=⟨TH⟩
instance:V (ez prog 194) 3:=⟨Lk⟩
instance:V (fI prog 194) true:=⟨Ll⟩
instance:V (prog.underlying 213) (some (.struct (dU prog 213))):=⟨kR⟩
instance:V (((dU prog 213).toList.map fun f=>(f.offset,prog.cellsOf f.type))) [(0,2)]:=⟨kR⟩
instance:V (((dU prog 213).toList.all fun f=>(prog.info? f.type).isSome)) true:=⟨kR⟩
instance:V (prog.underlying 237) (some (.struct (dU prog 237))):=⟨kR⟩
instance:V (((dU prog 237).toList.map fun f=>(f.offset,prog.cellsOf f.type))) [(0,1),(1,1),(2,1),(3,1),(4,1),(5,1)]:=⟨kR⟩
instance:V (((dU prog 237).toList.all fun f=>(prog.info? f.type).isSome)) true:=⟨kR⟩
end Go.Proofs.Tryz.K
namespace Go.Abs
open Go.Argus
section
variable{P:Program}{Y:ea}{ops:Array Oper}{dr:Bool}{cf:List (Nat×Nat)}{Q:Exit->St->Prop}{r:List Oper}{v:Env}{m:Mem}{n:Nat}{q:jL}{x:Oper}{s:St}{e:List Nat×List Nat}
theorem lx{p:Prop}(h:p:=by first|rfl|exact bC rfl|(simp;done)|(simp;omega)|omega):p:=h
theorem HL{p:Prop}(h:p:=by first|omega|exact bC rfl|(simp;done)|(simp;omega)):p:=h
theorem nS{p:Prop}(h:p:=by first|(simp;done)|exact⟨rfl,bC rfl⟩|(simp;omega)):p:=h
theorem M0{p:Prop}(h:p:=by first|rfl|exact nF _|(simp[nF];done)|exact aaO):p:=h
theorem Eb{p:Prop}(h:p:=by first|(simp;done)|omega|exact bC rfl):p:=h
theorem HM{p:Prop}(h:p:=by unfold maxLen;first|omega|(simp;omega)):p:=h
theorem M1{p:Prop}(h:p:=by first|rfl|(simp;done)|(simp;omega)):p:=h
theorem M3{p:Prop}(h:p:=by first|(simp;done)|(simp;omega)):p:=h
theorem rB{p:Prop}(h:p:=by first|(simp;done)|fail):p:=h
theorem Bw{p:Prop}(h:p:=by first|decide|simp):p:=h
def oT(x:Oper):Nat:=2*(match x.op with
 | .move ..=>1
 | .assign ..=>2
 | .pick ..=>3
 | .alloc ..=>4
 | .box ..=>5
 | .build ..=>6
 | .buildSlice ..=>7
 | .insert ..=>8
 | .load ..=>9
 | .store ..=>10
 | .nilCheck ..=>11
 | .unOp ..=>12
 | .convert ..=>13
 | .makeFunc ..=>14
 | .makeMap ..=>15
 | .makeSlice ..=>16
 | .slice ..=>17
 | .fieldAddr ..=>18
 | .field ..=>19
 | .indexAddr ..=>20
 | .index ..=>21
 | .lookup ..=>22
 | .mapUpdate ..=>23
 | .extract ..=>24
 | .call ..=>25
 | .binOp .add ..=>26
 | .binOp .sub ..=>27
 | .binOp .mul ..=>28
 | .binOp .quo ..=>29
 | .binOp .rem ..=>30
 | .binOp .and ..=>31
 | .binOp .or ..=>32
 | .binOp .xor ..=>33
 | .binOp .shl ..=>34
 | .binOp .shr ..=>35
 | .binOp .andNot ..=>36
 | .binOp .eql ..=>37
 | .binOp .neq ..=>38
 | .binOp .lss ..=>39
 | .binOp .leq ..=>40
 | .binOp .gtr ..=>41
 | .binOp .geq ..=>42
 |_=>0)+(match x.guard with
 |none=>0
 |_=>1)
theorem SS2(ht:oT x=2:=by exact rfl)(h:SO P Y ops dr x v m n s e:=by intro _ _ _ _ k;first|exact au (cV (v:=.s (.int _ _)) rfl) ak trivial k|exact au (cV (v:=.s (.bool _)) rfl) ak trivial k|exact au (cV (v:=.sl _ _) rfl) ak trivial k|exact au (cV (v:=.rs _ _ _) rfl) ak trivial k|exact au (cV (v:=.fn _ _ _) rfl) ak trivial k|exact au (cV (v:=.s (.string _)) rfl) ak trivial k|exact au (cV (v:=.rp _ _) rfl) ak trivial k|exact au (cV (v:=_) rfl) ak trivial k|exact au (cV (v:=.mp _) rfl) ak trivial k|exact au (cV (v:=.im _) rfl) ak trivial k|fail):SO P Y ops dr x v m n s e:=h
theorem SS4(ht:oT x=4:=by exact rfl)(h:SO P Y ops dr x v m n s e:=by intro _ _ _ _ k;first|exact au (jx (v:=.s (.bool _)) rfl) ak trivial k|exact au (jx (v:=.s (.int _ _)) rfl) ak trivial k|exact au (jx (v:=.sl _ _) rfl) ak trivial k|exact au (jx (v:=.rs _ _ _) rfl) ak trivial k|exact au (jx (v:=.z) rfl) ak trivial k|exact au (jx (v:=.s (.string _)) rfl) ak trivial k|exact au (jx (v:=.mp _) rfl) ak trivial k|exact au (jx (v:=_) rfl) ak trivial k|fail):SO P Y ops dr x v m n s e:=h
theorem ahi(ht:oT x=18:=by exact rfl)(h:SO P Y ops dr x v m n s e:=by intro _ _ _ _ k;first|exact au (j6 (vs:=aM _) rfl V.h V.h rfl) ak (j9 V.h V.h rB) k|exact au (j6 (vs:=aW _ _ _) rfl V.h V.h rfl) ak (j9 V.h V.h rB) k|exact au (j6 (vs:=bH _) rfl V.h V.h rfl) ak (j9 V.h V.h rB) k|exact au (j6 rfl V.h V.h rfl) ak (j9 V.h V.h rB) k|exact au (j6 (vs:=cv _) rfl V.h V.h rfl) ak (j9 V.h V.h rB) k|exact au (eL rfl rfl V.h V.h (np lx)) ak (eM V.h V.h lx) k|exact au (j6 (vs:=bw _) rfl V.h V.h rfl) ak (j9 V.h V.h rB) k|exact au (eL (vs:=cv _) rfl (ah _ _ _) V.h V.h rfl) ak (eM V.h V.h Eb) k|exact au (j6 (vs:=gR _) rfl V.h V.h rfl) ak (j9 V.h V.h rB) k|exact au (eL (vs:=bw _) rfl rfl V.h V.h rfl) ak (eM V.h V.h Eb) k|exact au (eL rfl (ag oG rfl) V.h V.h (np lx)) ak (eM V.h V.h lx) k|exact au (eL (vs:=aM _) rfl ap V.h V.h rfl) ak (eM V.h V.h Eb) k|exact au (eL rfl rfl V.h V.h rfl) ak (eM V.h V.h Eb) k|exact au (Sj rfl V.h) ak (Sl V.h V.h) k|exact au (j7 rfl rfl kd V.h) ak (j8 V.h V.h kd) k|exact au (j7 rfl ap kd V.h) ak (j8 V.h V.h kd) k|exact au (j7 rfl (ah _ _ _) kd V.h) ak (j8 V.h V.h kd) k|exact au (j7 rfl rfl rfl V.h) ak (j8 V.h V.h rfl) k|exact au (j7 rfl ap rfl V.h) ak (j8 V.h V.h rfl) k|fail):SO P Y ops dr x v m n s e:=h
theorem ahj(ht:oT x=36:=by exact rfl)(h:SO P Y ops dr x v m n s e:=by intro _ _ _ _ k;first|exact au (Rr rfl V.h) ak (pQ V.h) k|exact au (rN rfl rfl V.h) ak (pQ V.h) k|exact au (rN rfl ap V.h) ak (pQ V.h) k|exact au (rN rfl (ah _ _ _) V.h) ak (pQ V.h) k|fail):SO P Y ops dr x v m n s e:=h
theorem ahk(ht:oT x=19:=by exact rfl)(h:SO P Y ops dr x v m n s e:=by intro _ _ _ _ k;first|exact bd rfl rfl (Sj rfl V.h) (fun hc=>⟨ak,(Sl V.h V.h)⟩) k|exact bd rfl rfl (j6 (vs:=aW _ _ _) rfl V.h V.h rfl) (fun hc=>⟨ak,(j9 V.h V.h rB)⟩) k|exact bd rfl rfl (j7 rfl rfl rfl V.h) (fun hc=>⟨ak,(j8 V.h V.h rfl)⟩) k|exact bd rfl rfl (j6 (vs:=bw _) rfl V.h V.h rfl) (fun hc=>⟨ak,(j9 V.h V.h rB)⟩) k|exact bd rfl rfl (j7 rfl (ah _ _ _) rfl V.h) (fun hc=>⟨ak,(j8 V.h V.h rfl)⟩) k|exact bd rfl rfl (eL rfl (ag oG rfl) V.h V.h (np lx)) (fun hc=>⟨ak,(eM V.h V.h lx)⟩) k|exact bd rfl rfl (j6 (vs:=aM _) rfl V.h V.h rfl) (fun hc=>⟨ak,(j9 V.h V.h rB)⟩) k|exact bd rfl rfl (j6 rfl V.h V.h rfl) (fun hc=>⟨ak,(j9 V.h V.h rB)⟩) k|exact bd rfl rfl (eL rfl rfl V.h V.h rfl) (fun hc=>⟨ak,(eM V.h V.h Eb)⟩) k|fail):SO P Y ops dr x v m n s e:=h
theorem SS6(ht:oT x=6:=by exact rfl)(h:SO P Y ops dr x v m n s e:=by intro _ _ _ _ k;first|exact Ju rfl rfl (by first|exact trivial|exact rfl) k|exact Jv rfl rfl (by first|exact trivial|exact rfl) k|exact JY rfl rfl rfl (fun h=>by first|exact trivial|exact rfl|exact h|(show Eq _ _;rw[h];rfl)|(show Eq _ _;simp[h];done)|(show Eq _ _;simp_all;done)|fail) (fun h=>by first|exact trivial|exact rfl|exact h|(show Eq _ _;rw[h];rfl)|(show Eq _ _;simp[h];done)|(show Eq _ _;simp_all;done)|fail) k|fail):SO P Y ops dr x v m n s e:=h
theorem ahl(ht:oT x=37:=by exact rfl)(h:SO P Y ops dr x v m n s e:=by intro _ _ _ _ k;first|exact bd rfl rfl (Rr rfl V.h) (fun hc=>⟨ak,(pQ V.h)⟩) k|exact bd rfl rfl (rN rfl rfl V.h) (fun hc=>⟨ak,(pQ V.h)⟩) k|exact bd rfl rfl (rN rfl (ah _ _ _) V.h) (fun hc=>⟨ak,(pQ V.h)⟩) k|fail):SO P Y ops dr x v m n s e:=h
theorem ahm(ht:oT x=20:=by exact rfl)(h:SO P Y ops dr x v m n s e:=by intro _ _ _ _ k;first|exact bM (fk (cs':=bH _) rfl rfl (ah _ _ _) rfl) ak (bU V.h V.h nS (by rfl)) k|exact bM (eg (d:=.s (.string _)) (cs':=_) rfl rfl rfl rfl rfl) ak (bU V.h V.h nS rfl) k|exact bM (fk rfl rfl rfl (J0 lx lx)) ak (Cg lx lx M0) k|exact bM (fk (cs':=cv _) rfl rfl (ah _ _ _) rfl) ak (bU V.h V.h nS (by rfl)) k|exact bM (fk rfl rfl (ah _ _ _) (J0 lx lx)) ak (Cg lx lx M0) k|exact bM (fk (cs':=aM _) rfl rfl rfl rfl) ak (bU V.h V.h nS (by rfl)) k|exact bM (fk (cs':=aM _) rfl rfl (ah _ _ _) rfl) ak (bU V.h V.h nS (by rfl)) k|exact bM (fk (cs':=gR _) rfl rfl (ah _ _ _) rfl) ak (bU V.h V.h nS (by rfl)) k|exact bM (fk rfl rfl rfl rfl) ak (bU V.h V.h nS (by rfl)) k|exact bM (fk rfl rfl (ah _ _ _) rfl) ak (bU V.h V.h nS (by rfl)) k|exact bM (eg (d:=.s (.int _ _)) (cs':=[_]) rfl rfl rfl rfl rfl) ak (bU V.h V.h nS rfl) k|exact bM (eg (d:=.s (.int _ _)) (cs':=_) rfl rfl rfl rfl rfl) ak (bU V.h V.h nS rfl) k|exact bM (eg (d:=.s (.int _ _)) (cs':=_) rfl rfl (ah _ _ _) rfl rfl) ak (bU V.h V.h nS rfl) k|exact bM (fk rfl rfl (ag oG rfl) (J0 lx lx)) ak (Cg lx lx M0) k|exact bM (fk rfl rfl rfl (Ti (by decide) (by assumption) (by assumption) (by first|assumption|(simp;omega)|(simp;done)|fail))) ak (Cg (by first|(simp;omega)|(simp;done)|fail) (yc (by assumption) (by assumption)) (nF _)) k|exact bM (eg (d:=.sl _ _) (cs':=_) rfl rfl rfl rfl rfl) ak (bU V.h V.h nS rfl) k|exact bM (eg (d:=.sl _ _) (cs':=_) rfl rfl ap rfl rfl) ak (bU V.h V.h nS rfl) k|exact bM (eg (d:=.rs _ _ _) (cs':=_) rfl rfl ap rfl rfl) ak (bU V.h V.h nS rfl) k|exact bM (eg (d:=.z) (cs':=_) rfl rfl rfl rfl rfl) ak (bU V.h V.h nS rfl) k|fail):SO P Y ops dr x v m n s e:=h
theorem ahn(ht:oT x=40:=by exact rfl)(h:SO P Y ops dr x v m n s e:=by intro _ _ _ _ k;first|exact au (Gf rfl rfl V.h V.h (by assumption)) ak (Sk V.h (by assumption)) k|exact au (sd rfl rfl V.h V.h (u6) (by assumption)) ak (se V.h (u6) (by assumption)) k|exact au (sd rfl rfl V.h V.h (u7) (by assumption)) ak (se V.h (u7) (by assumption)) k|exact au (ack rfl rfl rfl V.h V.h V.h) ak ⟨V.h,by omega⟩ k|exact au (sd rfl rfl V.h V.h (PM) (by assumption)) ak (se V.h (PM) (by assumption)) k|exact au (sd rfl rfl V.h V.h (IX) (by assumption)) ak (se V.h (IX) (by assumption)) k|exact au (mr rfl rfl ap V.h V.h) ak ⟨V.h,by omega⟩ k|exact au (mr rfl rfl (ah _ _ _) V.h V.h) ak ⟨V.h,by omega⟩ k|exact au (Ct rfl rfl rfl V.h V.h) ak ⟨V.h,by omega⟩ k|exact au (acm rfl rfl (ah _ _ _) V.h V.h) ak ⟨V.h,by omega⟩ k|fail):SO P Y ops dr x v m n s e:=h
theorem aho(ht:oT x=50:=by exact rfl)(h:SO P Y ops dr x v m n s e:=by intro _ _ _ _ k;first|exact au (Da rfl) ak V.h k|exact au (Ko rfl) ak V.h k|exact au (vw rfl ap) ak V.h k|exact iC (iw rfl (ag oG ap) rfl V.h V.h (j5 (ah _ _ _) rfl) rfl) ak ⟨V.h,rfl,HL,(by decide),M1,HM,(by rw[b9];first|omega|(simp;omega)),M3⟩ k|exact iC (iw rfl (ag oG ap) rfl V.h V.h (j5 (ah _ _ _) rfl) rfl) ak ⟨V.h,rfl,HL,(by decide),M1,HM,(by rw[b3];first|omega|(simp;omega)),M3⟩ k|exact iC (iw rfl (ag oG gn) rfl V.h V.h (j5 (ah _ _ _) rfl) rfl) ak ⟨V.h,rfl,HL,(by decide),M1,HM,(by rw[b3];first|omega|(simp;omega)),M3⟩ k|exact eA (Ak rfl rfl V.h V.h (j5 (ah _ _ _) rfl)) ak ⟨V.h,HL,(by decide),HM,(by rw[b3];first|omega|(simp;omega))⟩ k|fail):SO P Y ops dr x v m n s e:=h
theorem ahp(ht:oT x=74:=by exact rfl)(h:SO P Y ops dr x v m n s e:=by intro _ _ _ _ k;first|exact au (CL rfl rfl nG) ak rfl k|exact au (GN rfl rfl) ak rfl k|exact au (Kn rfl rfl) ak trivial k|fail):SO P Y ops dr x v m n s e:=h
theorem SS3(ht:oT x=3:=by exact rfl)(h:SO P Y ops dr x v m n s e:=by intro _ _ _ _ k;first|exact bd rfl rfl (cV (v:=.s (.int _ _)) rfl) (fun hc=>⟨ak,trivial⟩) k|exact bd rfl rfl (cV (v:=.s (.bool _)) rfl) (fun hc=>⟨ak,trivial⟩) k|exact bd rfl rfl (cV (v:=.sl _ _) rfl) (fun hc=>⟨ak,trivial⟩) k|exact bd rfl rfl (cV (v:=.fn _ _ _) rfl) (fun hc=>⟨ak,trivial⟩) k|exact bd rfl rfl (cV (v:=.rs _ _ _) rfl) (fun hc=>⟨ak,trivial⟩) k|fail):SO P Y ops dr x v m n s e:=h
theorem ahq(ht:oT x=52:=by exact rfl)(h:SO P Y ops dr x v m n s e:=by intro _ _ _ _ k;first|exact au (GO rfl rfl oG) ak rfl k|fail):SO P Y ops dr x v m n s e:=h
theorem ahr(ht:oT x=48:=by exact rfl)(h:SO P Y ops dr x v m n s e:=by intro _ _ _ _ k;first|exact au (qD (v:=.s (.int _ _)) rfl rfl) ak Bw k|exact au (qD (v:=.s (.bool _)) rfl rfl) ak Bw k|exact au (qD (v:=.sl _ _) rfl rfl) ak Bw k|exact au (qD (v:=.z) rfl rfl) ak Bw k|exact au (qD (v:=.agg (aM _)) rfl rfl) ak Bw k|exact au (qD (v:=.agg _) rfl rfl) ak Bw k|fail):SO P Y ops dr x v m n s e:=h
theorem SS8(ht:oT x=8:=by exact rfl)(h:SO P Y ops dr x v m n s e:=by intro _ _ _ _ k;first|exact eA (Fs V.h) ak V.h k|fail):SO P Y ops dr x v m n s e:=h
theorem ahs(ht:oT x=78:=by exact rfl)(h:SO P Y ops dr x v m n s e:=by intro _ _ _ _ k;first|exact au (GL rfl rfl) ak rfl k|fail):SO P Y ops dr x v m n s e:=h
theorem aht(ht:oT x=14:=by exact rfl)(h:SO P Y ops dr x v m n s e:=by intro _ _ _ _ k;first|exact eA (tq (cs:=[_]) V.h V.h V.h rfl rfl) ak ⟨rfl,by decide,V.h,by decide⟩ k|exact eA (tq (cs:=[]) V.h V.h V.h rfl rfl) ak ⟨rfl,by decide,V.h,by decide⟩ k|exact eA (tq (cs:=[_,_]) V.h V.h V.h rfl rfl) ak ⟨rfl,by decide,V.h,by decide⟩ k|exact eA (tq V.h V.h V.h rfl rfl) ak ⟨rfl,by decide,V.h,by decide⟩ k|fail):SO P Y ops dr x v m n s e:=h
theorem ahu(ht:oT x=10:=by exact rfl)(h:SO P Y ops dr x v m n s e:=by intro _ _ _ _ k;first|exact eA (r9 (cs:=aW _ _ _) rfl) ak (by first|rfl|exact rO eB bN|exact nF _|exact ud rC) k|exact eA (r9 (cs:=aM _) rfl) ak (by first|rfl|exact rO eB bN|exact nF _|exact ud rC) k|exact eA (r9 rfl) ak (by first|rfl|exact rO eB bN|exact nF _|exact ud rC) k|exact eA (r9 (cs:=bw _) rfl) ak (by first|rfl|exact rO eB bN|exact nF _|exact ud rC) k|exact eA (r9 (cs:=cv _) rfl) ak (by first|rfl|exact rO eB bN|exact nF _|exact ud rC) k|fail):SO P Y ops dr x v m n s e:=h
theorem ahv(ht:oT x=75:=by exact rfl)(h:SO P Y ops dr x v m n s e:=by intro _ _ _ _ k;first|exact bd rfl rfl (CL rfl rfl nG) (fun hc=>⟨ak,rfl⟩) k|exact bd rfl rfl (CL rfl rfl Dc) (fun hc=>⟨ak,rfl⟩) k|exact bd rfl rfl (GN rfl rfl) (fun hc=>⟨ak,rfl⟩) k|fail):SO P Y ops dr x v m n s e:=h
theorem ahw(ht:oT x=76:=by exact rfl)(h:SO P Y ops dr x v m n s e:=by intro _ _ _ _ k;first|exact au (Sv rfl rfl um) ak rfl k|exact au (KT rfl rfl) ak rfl k|exact au (adg rfl rfl) ak trivial k|fail):SO P Y ops dr x v m n s e:=h
theorem ahx(ht:oT x=12:=by exact rfl)(h:SO P Y ops dr x v m n s e:=by intro _ _ _ _ k;first|exact au (E5 (cs:=aW _ _ _) V.h V.h V.h rfl rfl) ak ⟨V.h,V.h⟩ k|exact au (E5 V.h V.h V.h rfl rfl) ak ⟨V.h,V.h⟩ k|fail):SO P Y ops dr x v m n s e:=h
theorem ahy(ht:oT x=51:=by exact rfl)(h:SO P Y ops dr x v m n s e:=by intro _ _ _ _ k;first|exact bd rfl rfl (Da rfl) (fun hc=>⟨ak,V.h⟩) k|fail):SO P Y ops dr x v m n s e:=h
theorem ahz(ht:oT x=24:=by exact rfl)(h:SO P Y ops dr x v m n s e:=by intro _ _ _ _ k;first|exact au (S3 rfl) ak trivial k|fail):SO P Y ops dr x v m n s e:=h
theorem ahA(ht:oT x=25:=by exact rfl)(h:SO P Y ops dr x v m n s e:=by intro _ _ _ _ k;first|exact bd rfl rfl (S3 rfl) (fun hc=>⟨ak,trivial⟩) k|fail):SO P Y ops dr x v m n s e:=h
theorem ahB(ht:oT x=16:=by exact rfl)(h:SO P Y ops dr x v m n s e:=by intro _ _ _ _ k;first|exact bM (aaP rfl rfl rfl rfl V.h) ak ⟨V.h,by kernel_rfl,by kernel_rfl⟩ k|fail):SO P Y ops dr x v m n s e:=h
theorem ahC(ht:oT x=83:=by exact rfl)(h:SO P Y ops dr x v m n s e:=by intro _ _ _ _ k;first|exact bd rfl rfl (Ky rfl rfl uo) (fun hc=>⟨ak,rfl⟩) k|exact bd rfl rfl (GM rfl rfl) (fun hc=>⟨ak,rfl⟩) k|fail):SO P Y ops dr x v m n s e:=h
theorem SS7(ht:oT x=7:=by exact rfl)(h:SO P Y ops dr x v m n s e:=by intro _ _ _ _ k;first|exact B9 rfl rfl rfl rfl (by first|exact fun _=>trivial|exact fun _=>rfl|exact fun hc=>hc) (by first|exact fun _=>trivial|exact fun _=>rfl|exact fun hc=>hc) k|exact Cf rfl rfl rfl rfl rfl (by first|exact fun _=>trivial|exact fun _=>rfl|exact fun hc=>hc) (fun hc h=>by first|exact trivial|exact rfl|exact hc|(show Eq _ _;rw[hc,h];rfl)|(show Eq _ _;rw[h,hc];rfl)|(show Eq _ _;simp[hc,h];done)|(show Eq _ _;simp_all;done)|fail) (fun hc h=>by first|exact trivial|exact rfl|exact hc|(show Eq _ _;rw[hc,h];rfl)|(show Eq _ _;rw[h,hc];rfl)|(show Eq _ _;simp[hc,h];done)|(show Eq _ _;simp_all;done)|fail) k|fail):SO P Y ops dr x v m n s e:=h
theorem ahD(ht:oT x=82:=by exact rfl)(h:SO P Y ops dr x v m n s e:=by intro _ _ _ _ k;first|exact au (Ky rfl rfl uo) ak rfl k|exact au (GM rfl rfl) ak rfl k|fail):SO P Y ops dr x v m n s e:=h
theorem ahE(ht:oT x=77:=by exact rfl)(h:SO P Y ops dr x v m n s e:=by intro _ _ _ _ k;first|exact bd rfl rfl (KT rfl rfl) (fun hc=>⟨ak,rfl⟩) k|fail):SO P Y ops dr x v m n s e:=h
theorem ahF(ht:oT x=41:=by exact rfl)(h:SO P Y ops dr x v m n s e:=by intro _ _ _ _ k;first|exact bd rfl rfl (Gf rfl rfl V.h V.h (by assumption)) (fun hc=>⟨ak,(Sk V.h (by assumption))⟩) k|fail):SO P Y ops dr x v m n s e:=h
theorem ahG(ht:oT x=54:=by exact rfl)(h:SO P Y ops dr x v m n s e:=by intro _ _ _ _ k;first|exact au (Sw rfl rfl wa) ak rfl k|exact au (KU rfl rfl oG) ak rfl k|fail):SO P Y ops dr x v m n s e:=h
theorem ahH(ht:oT x=28:=by exact rfl)(h:SO P Y ops dr x v m n s e:=by intro _ _ _ _ k;first|exact au (Kp rfl rfl) ak trivial k|fail):SO P Y ops dr x v m n s e:=h
theorem ahI(ht:oT x=81:=by exact rfl)(h:SO P Y ops dr x v m n s e:=by intro _ _ _ _ k;first|exact bd rfl rfl (Gm rfl rfl yz) (fun hc=>⟨ak,rfl⟩) k|exact bd rfl rfl (C0 rfl rfl) (fun hc=>⟨ak,rfl⟩) k|fail):SO P Y ops dr x v m n s e:=h
theorem ahJ(ht:oT x=84:=by exact rfl)(h:SO P Y ops dr x v m n s e:=by intro _ _ _ _ k;first|exact au (C' rfl rfl) ak rfl k|fail):SO P Y ops dr x v m n s e:=h
theorem ahK(ht:oT x=30:=by exact rfl)(h:SO P Y ops dr x v m n s e:=by intro _ _ _ _ k;first|exact eA ad6 ak trivial k|fail):SO P Y ops dr x v m n s e:=h
theorem ahM(ht:oT x=79:=by exact rfl)(h:SO P Y ops dr x v m n s e:=by intro _ _ _ _ k;first|exact bd rfl rfl (GL rfl rfl) (fun hc=>⟨ak,rfl⟩) k|fail):SO P Y ops dr x v m n s e:=h
theorem ahN(ht:oT x=85:=by exact rfl)(h:SO P Y ops dr x v m n s e:=by intro _ _ _ _ k;first|exact bd rfl rfl (C' rfl rfl) (fun hc=>⟨ak,rfl⟩) k|fail):SO P Y ops dr x v m n s e:=h
theorem ahO(ht:oT x=26:=by exact rfl)(h:SO P Y ops dr x v m n s e:=by intro _ _ _ _ k;first|exact au (adi rfl V.h) ak V.h k|fail):SO P Y ops dr x v m n s e:=h
theorem ahP(ht:oT x=22:=by exact rfl)(h:SO P Y ops dr x v m n s e:=by intro _ _ _ _ k;first|exact au (Gd rfl ap) ak trivial k|fail):SO P Y ops dr x v m n s e:=h
theorem ahQ(ht:oT x=80:=by exact rfl)(h:SO P Y ops dr x v m n s e:=by intro _ _ _ _ k;first|exact au (C0 rfl rfl) ak rfl k|fail):SO P Y ops dr x v m n s e:=h
theorem ahR(ht:oT x=15:=by exact rfl)(h:SO P Y ops dr x v m n s e:=by intro _ _ _ _ k;first|exact Kx rfl rfl (tq (cs:=[_]) V.h V.h V.h rfl rfl) ak ⟨rfl,by decide,V.h,by decide⟩ k|fail):SO P Y ops dr x v m n s e:=h
theorem ahS(ht:oT x=55:=by exact rfl)(h:SO P Y ops dr x v m n s e:=by intro _ _ _ _ k;first|exact bd rfl rfl (Sw rfl rfl wa) (fun hc=>⟨ak,rfl⟩) k|fail):SO P Y ops dr x v m n s e:=h
theorem SS(K:aq P Y ops dr cf Q r s (q++[e]))(h:SO P Y ops dr x v m n s e:=by first|exact SS2|exact SS4|exact ahi|exact ahj|exact ahk|exact SS6|exact ahl|exact ahm|exact ahn|exact aho|exact ahp|exact SS3|exact ahq|exact ahr|exact SS8|exact ahs|exact aht|exact ahu|exact ahv|exact ahw|exact ahx|exact ahy|exact ahz|exact ahA|exact ahB|exact ahC|exact SS7|exact ahD|exact ahE|exact ahF|exact ahG|exact ahH|exact ahI|exact ahJ|exact ahK|exact ahM|exact ahN|exact ahO|exact ahP|exact ahQ|exact ahR|exact ahS):aq P Y ops dr cf Q (x::r) ⟨v,m,n⟩ q:=h _ _ _ _ K
variable{x2 x3 x4 x5 x6 x7 x8 x9:Oper}{e2 e3 e4 e5 e6 e7 e8 e9:List Nat×List Nat}
theorem ab(K:aq P Y ops dr cf Q r s (q++[e]++[e2]))(h:∀ cf Q r q,aq P Y ops dr cf Q r s (q++[e]++[e2])->aq P Y ops dr cf Q (x::x2::r) ⟨v,m,n⟩ q:=by intro _ _ _ _ k;(iterate 2 refine SS ?_);exact k):aq P Y ops dr cf Q (x::x2::r) ⟨v,m,n⟩ q:=h _ _ _ _ K
theorem ax(K:aq P Y ops dr cf Q r s (q++[e]++[e2]++[e3]))(h:∀ cf Q r q,aq P Y ops dr cf Q r s (q++[e]++[e2]++[e3])->aq P Y ops dr cf Q (x::x2::x3::r) ⟨v,m,n⟩ q:=by intro _ _ _ _ k;(iterate 3 refine SS ?_);exact k):aq P Y ops dr cf Q (x::x2::x3::r) ⟨v,m,n⟩ q:=h _ _ _ _ K
theorem aZ(K:aq P Y ops dr cf Q r s (q++[e]++[e2]++[e3]++[e4]))(h:∀ cf Q r q,aq P Y ops dr cf Q r s (q++[e]++[e2]++[e3]++[e4])->aq P Y ops dr cf Q (x::x2::x3::x4::r) ⟨v,m,n⟩ q:=by intro _ _ _ _ k;(iterate 4 refine SS ?_);exact k):aq P Y ops dr cf Q (x::x2::x3::x4::r) ⟨v,m,n⟩ q:=h _ _ _ _ K
theorem bu(K:aq P Y ops dr cf Q r s (q++[e]++[e2]++[e3]++[e4]++[e5]))(h:∀ cf Q r q,aq P Y ops dr cf Q r s (q++[e]++[e2]++[e3]++[e4]++[e5])->aq P Y ops dr cf Q (x::x2::x3::x4::x5::r) ⟨v,m,n⟩ q:=by intro _ _ _ _ k;(iterate 5 refine SS ?_);exact k):aq P Y ops dr cf Q (x::x2::x3::x4::x5::r) ⟨v,m,n⟩ q:=h _ _ _ _ K
theorem cr(K:aq P Y ops dr cf Q r s (q++[e]++[e2]++[e3]++[e4]++[e5]++[e6]))(h:∀ cf Q r q,aq P Y ops dr cf Q r s (q++[e]++[e2]++[e3]++[e4]++[e5]++[e6])->aq P Y ops dr cf Q (x::x2::x3::x4::x5::x6::r) ⟨v,m,n⟩ q:=by intro _ _ _ _ k;(iterate 6 refine SS ?_);exact k):aq P Y ops dr cf Q (x::x2::x3::x4::x5::x6::r) ⟨v,m,n⟩ q:=h _ _ _ _ K
theorem iu(K:aq P Y ops dr cf Q r s (q++[e]++[e2]++[e3]++[e4]++[e5]++[e6]++[e7]))(h:∀ cf Q r q,aq P Y ops dr cf Q r s (q++[e]++[e2]++[e3]++[e4]++[e5]++[e6]++[e7])->aq P Y ops dr cf Q (x::x2::x3::x4::x5::x6::x7::r) ⟨v,m,n⟩ q:=by intro _ _ _ _ k;(iterate 7 refine SS ?_);exact k):aq P Y ops dr cf Q (x::x2::x3::x4::x5::x6::x7::r) ⟨v,m,n⟩ q:=h _ _ _ _ K
theorem dG(K:aq P Y ops dr cf Q r s (q++[e]++[e2]++[e3]++[e4]++[e5]++[e6]++[e7]++[e8]))(h:∀ cf Q r q,aq P Y ops dr cf Q r s (q++[e]++[e2]++[e3]++[e4]++[e5]++[e6]++[e7]++[e8])->aq P Y ops dr cf Q (x::x2::x3::x4::x5::x6::x7::x8::r) ⟨v,m,n⟩ q:=by intro _ _ _ _ k;(iterate 8 refine SS ?_);exact k):aq P Y ops dr cf Q (x::x2::x3::x4::x5::x6::x7::x8::r) ⟨v,m,n⟩ q:=h _ _ _ _ K
theorem bt(K:aq P Y ops dr cf Q r s (q++[e]++[e2]++[e3]++[e4]++[e5]++[e6]++[e7]++[e8]++[e9]))(h:∀ cf Q r q,aq P Y ops dr cf Q r s (q++[e]++[e2]++[e3]++[e4]++[e5]++[e6]++[e7]++[e8]++[e9])->aq P Y ops dr cf Q (x::x2::x3::x4::x5::x6::x7::x8::x9::r) ⟨v,m,n⟩ q:=by intro _ _ _ _ k;(iterate 9 refine SS ?_);exact k):aq P Y ops dr cf Q (x::x2::x3::x4::x5::x6::x7::x8::x9::r) ⟨v,m,n⟩ q:=h _ _ _ _ K
end
end Go.Abs
namespace Go.Abs
open Go.ChangeShapes Go.WideShapes
inductive Ar:List Sh->List D->Prop
 |nil:Ar [] []
 |cons {s:Sh} {l:List Sh} {ds:List D} (x:s.val) (hx:s.ok x) (h:Ar l ds):Ar (s::l) (s.arg x::ds)
def wu(P:Program)(n:Nat):List TypeId->Option (List Sh)
 |[]=>some []
 |t::ts=>match tc P n t,wu P n ts with
  |some s,some l=>some (s::l)
  |_,_=>none
theorem Z'{P:Program}{n:Nat}{t:TypeId}{ts:List TypeId}{l:List Sh}(h:wu P n (t::ts)=some l):∃ s C,tc P n t=some s/\wu P n ts=some C/\l=s::C:=by
 simp only[wu] at h;split at h
 .rename_i s C h1 h2;simp only[aG] at h;exact⟨s,C,h1,h2,h.symm⟩
 .cases h
section
variable{P:Program}{H:Type}{ec:TypeId×Value->H}{w w':World}{base b0:Nat}{r:Reach}{F:Nat->Prop}
theorem SW(J:Ds F w){n:Nat}:∀ {ts:List TypeId} {C:List Sh} {vs:List Value} {ds:List (DataW H)} {ps:List MemPlace},wu P n ts=some C->C.all Sh.rL=true->
 (∀ (j:Nat) t v,ts[j]? =some t->vs[j]? =some v->Value.okWide P w r b0 t v)->DataW.TrodAll ec P w base (fun _=>true) true ts vs ds ps->
 ∃ aS,Ar C aS/\aS.length=vs.length/\∀ (k:Nat) (d:D) (v:Value),aS[k]? =some d->vs[k]? =some v->R F gA w d v
 |[],C,[],[],_,hs,_,_,_=>by
  simp only[wu,aG] at hs;subst hs;exact⟨[],.nil,rfl,oS⟩
 |t::ts,C,v::vs,d::ds,ps,hs,rM,bL,h=>by
  obtain⟨p,q,h1,h2,_⟩:=h;obtain⟨s,l',M,U,rfl⟩:=Z' hs;simp only[List.all_cons,bf] at rM;obtain⟨x,X,hx⟩:=ag0 J M rM.1 (bL 0 t v rfl rfl) h1;obtain⟨aS,a1,a2,a3⟩:=SW J U rM.2 (fun j t v hj hv=>bL (j+1) t v (by simpa using hj) (by simpa using hv)) h2;refine⟨s.arg x::aS,.cons x X a1,by simp[a2],fun k d v hd hv=>?_⟩;cases k with
  |zero=>
   simp only[List.getElem?_cons_zero,aG] at hd hv;subst hd hv;exact hx
  |succ k=>exact a3 k d v (by simpa using hd) (by simpa using hv)
 |[],_,_::_,_,_,_,_,_,h=>by simp[DataW.TrodAll] at h
 |[],_,[],_::_,_,_,_,_,h=>by simp[DataW.TrodAll] at h
 |_::_,_,[],_,_,_,_,_,h=>by simp[DataW.TrodAll] at h
 |_::_,_,_::_,[],_,_,_,_,h=>by simp[DataW.TrodAll] at h
theorem Kept.same(h:Kept w w'){p:MemPlace}(hp:p.block<w.heap.size):w.sameAt w' p:=by
 cases p with
 |cell b o=>exact Go.World.cell?_of_block (w:=w) (h.2.1 b hp)
 |map b=>exact h.2.1 b hp
theorem Kept.frame(h:Kept w w')(C:MemPlace->Prop):w.keptBut w' C:=by
 refine⟨h.2.2.1,h.2.2.2,fun i hi=>?_⟩;rw[h.2.1 i hi];split<;>simp_all
theorem Oi(hl:laidOutB P=true)(h:Kept w w'):∀ {ts:List TypeId} {vs:List Value} {ds:List (DataW H)} {ps:List MemPlace},(ts.all fun t=>P.readableRec t&&decide (t<P.types.size))=true->
 DataW.TrodAll ec P w 0 (fun _=>true) true ts vs ds ps->DataW.TrodAll ec P w' 0 (fun b=>decide (b<w.heap.size)) true ts vs ds ps
 |[],[],[],_,_,h0=>h0
 |t::ts,v::vs,d::ds,ps,ht,h0=>by
  obtain⟨p,q,h1,h2,rfl⟩:=h0;simp only[List.all_cons,bf,decide_eq_true_eq] at ht;have af:∀ x∈p,x.block<w.heap.size:=by obtain⟨m,hm⟩:=h1;exact DataW.trod_lt m _ _ _ hm
  exact⟨p,q,WideElems.Trod_stays hl ht.1.1 ht.1.2 h1 (fun x hx=>h.same (af x hx)) (fun x hx=>by simpa using af x hx),Oi hl h (by simpa using ht.2) h2,rfl⟩
 |[],_::_,_,_,_,h0=>by simp[DataW.TrodAll] at h0
 |[],[],_::_,_,_,h0=>by simp[DataW.TrodAll] at h0
 |_::_,[],_,_,_,h0=>by simp[DataW.TrodAll] at h0
 |_::_,_::_,[],_,_,h0=>by simp[DataW.TrodAll] at h0
theorem OQ:∀ {ts:List TypeId} {vs:List Value} {ds:List (DataW H)} {ps:List MemPlace},DataW.TrodAll ec P w 0 (fun _=>true) true ts vs ds ps->ds.length=ts.length
 |[],[],[],_,_=>rfl
 |t::ts,v::vs,d::ds,ps,h0=>by
  obtain⟨p,q,h1,h2,rfl⟩:=h0;simp[OQ h2]
 |[],_::_,_,_,h0=>by simp[DataW.TrodAll] at h0
 |[],[],_::_,_,h0=>by simp[DataW.TrodAll] at h0
 |_::_,[],_,_,h0=>by simp[DataW.TrodAll] at h0
 |_::_,_::_,[],_,h0=>by simp[DataW.TrodAll] at h0
theorem Rf{J:String}{d:DataW Unit}:∀ {l:List (String×DataW Unit)} {ps:List MemPlace},DataW.LaidVars P w l ps->(J,d)∈l->
 ∃ g t cs eb p,P.globalNamed J=some g/\(P.globals[g]?).map (·.type)=some t/\w.var? P J=some cs/\DataW.trod (fun _=>()) P w 0 (fun _=>true) false eb t cs.toList=some (d,p)/\∀ x∈MemPlace.row ⟨g,0,none⟩ cs.size,x∈ps
 |[],_,_,h=>by simp at h
 |(n,e)::r,ps,hv,h=>by
  obtain⟨g,t,cs,eb,p,q,h1,h2,M,U,X,rfl⟩:=hv;rcases List.mem_cons.1 h with h|h
  .cases h;exact⟨g,t,cs,eb,p,h1,h2,M,U,fun x hx=>List.mem_append_left _ (List.mem_append_left _ hx)⟩
  .obtain⟨g',t',cs',C,p',k1,k2,k3,k4,k5⟩:=Rf X h;exact⟨g',t',cs',C,p',k1,k2,k3,k4,fun x hx=>List.mem_append_right _ (k5 x hx)⟩
theorem Qf{e:TypeId}{m:Nat}{spare:Nat->Bool}{held:Bool}(he:P.underlying e=some (.int .u64))(hc:P.cellsOf e=1):∀ {cs:List Value} {l:List Int} {xs:List (DataW H×List MemPlace)},cs.length=l.length->xs.map (·.1)=l.map (fun n=>DataW.lit (.int .u64 n))->
 (∀ i,i<l.length->DataW.trod ec P w base spare held m e ((cs.drop i).take 1)=xs[i]?)->cs=l.map (Value.int .u64 ·)
 |[],[],_,_,_,_=>rfl
 |c::cs,n::l,[],_,hx,_=>by simp at hx
 |c::cs,n::l,x::xs,hl,hx,h=>by
  have h0:=h 0 oS;simp only[List.drop_zero,List.take_succ_cons,List.take_zero,List.getElem?_cons_zero] at h0;obtain⟨b,hb,C,_⟩:=DataW.trod_int he h0;simp only[List.map_cons,List.cons.injEq] at hx;have e1:x.1=DataW.lit (.int .u64 b):=by rw[C]
  rw[hx.1] at e1;simp only[DataW.lit.injEq,Lit.int.injEq,true_and] at e1;subst e1;simp only[List.cons.injEq,and_true] at hb;subst hb;rw[List.map_cons,Qf he hc (cs:=cs) (l:=l) (xs:=xs) (by simpa using hl) hx.2 fun i hi=>by simpa using h (i+1) (by simpa using hi)]
 |[],_::_,_,hl,_,_=>by simp at hl
 |_::_,[],_,hl,_,_=>by simp at hl
theorem Yy{laid:List (String×DataW Unit)}{J:String}{g t e:Nat}{l:List Int}(h:laidMet P laid w)(hm:(J,DataW.agg (l.map fun n=>DataW.lit (.int .u64 n)))∈laid)(hg:P.globalNamed J=some g)
 (ht:(P.globals[g]?).map (·.type)=some t) (hu:P.underlying t=some (.array l.length e)) (hs:P.cellsOf t=l.length) (he:P.underlying e=some (.int .u64)) (hc:P.cellsOf e=1) (aE:0<l.length):
 ∃ ty,w.heap[g]? =some (.cells (l.map (Value.int .u64 ·)).toArray ty (0,0)):=by
 obtain⟨ps,hv,_,hp⟩:=h;obtain⟨g',t',cs,eb,p,h1,h2,C,U,X⟩:=Rf hv hm;obtain rfl:g=g':=Option.some.inj (hg.symm.trans h1);obtain rfl:t=t':=Option.some.inj (ht.symm.trans h2);obtain⟨xs,m,_,e2,e3,e4,e5⟩:=DataW.trod_array hu U
 have M:cs.toList=l.map (Value.int .u64 ·):=by
  refine Qf (ec:=fun _=>()) (w:=w) (base:=0) (spare:=fun _=>true) (held:=false) (m:=m) (xs:=xs) he hc (by rw[e3,hs]) ?_ fun i hi=>?_
  .simp only[bP,DataW.agg.injEq] at e2;exact e2.1.symm
  .have:=e5 i hi
   rwa[hc,Nat.mul_one] at this
 have bB:0<cs.size:=by
  have:cs.toList.length=l.length:=by rw[M];simp
  simp at this;omega
 obtain⟨⟨c,ty,hh⟩,_⟩:=hp g 0 (X _ (by
  unfold MemPlace.row;refine List.mem_map.2 ⟨0,by simpa using bB,?_⟩
  simp[Addr.add]))
 refine⟨ty,?_⟩;simp only[World.var?,hg,Option.bind_some,hh,aG] at C;subst C;rw[hh, <- M]
end
theorem W3{C:Checked}{f:FuncId}{fn:Func}{s:ChangeSpec}{H:Type}{ec:TypeId×Value->H}{n:Nat}{uX:List Sh}{tb:TypeId}{F:Nat->Prop}
 (T0:s.vars=[]) (hs:∀ ds:List (DataW H),ds.length=fn.params.size->s.fn H ds={ results:=[.lit (.bool true)],args:=ds })
 (J:laidOutB C.prog=true) (M:(fn.params.toList.all fun t=>C.prog.readableRec t&&decide (t<C.prog.types.size))=true) (nw:fn.resultTypes= #[tb]) (hb:C.prog.underlying tb=some .bool)
 (mf:wu C.prog n fn.params.toList=some uX) (rM:uX.all Sh.rL=true) (h:∀ aS,Ar uX aS->aA C.prog f aS (.s (.bool true)))
 (W:World) (base:Nat) (args:Array Value) (ds gs:List (DataW H)) (before:List MemPlace) (MN:FB F W) (hU:Ds F W)
 (DT:∀ (j:Nat) t v,fn.params[j]? =some t->args[j]? =some v->Value.okWide C.prog W .any base t v)
 (hW:DataW.Whole ec C.prog fn.params.toList s.vars false W args.toList ds gs before):
 Calls C.prog f args W fun e W'=>∃ v,e=.returned v/\s.post ec C.prog fn false true false false W args v W':=by
 have hW':=hW;obtain⟨p,q,U,X,rfl,hfz,dY⟩:=hW;rw[T0] at X
 have hg:gs=[]/\q=[]:=by
  cases gs with
  |nil=>exact⟨rfl,X⟩
  |cons g gs=>exact X.elim
 obtain⟨rfl,rfl⟩:=hg;obtain⟨aS,a1,a2,a3⟩:=SW hU mf rM (fun j t v hj hv=>DT j t v (by simpa using hj) (by simpa using hv)) U;refine((h aS a1).2.2 F W args MN ⟨by simpa using a2.symm,fun k d v hd hv=>a3 k d v hd (by simpa using hv)⟩).mono ?_;rintro e W' ⟨v,rfl,hv,hk⟩;obtain⟨rfl,_⟩:=hv.cX;have hlen:ds.length=fn.params.size:=by simpa using OQ U
 refine⟨_,rfl,ds,[],_,[],p,[],hW',?_,?_,?_,hk.frame _,fun h=>by cases h⟩
 .rw[List.append_nil,hs ds hlen,nw];exact⟨[],[],⟨1,by simp[DataW.trod,Value.cells,hb]⟩,rfl,rfl⟩
 .rw[List.append_nil,hs ds hlen];exact Oi J hk M U
 .rw[List.append_nil,hs ds hlen,T0];rfl
end Go.Abs
section
open Go Go.Abs Go.Proofs Go.Argus
namespace Go.Proofs.Tryz.K
theorem LP{l:List Int}{g:FuncId}{fs cs:List D}{p:Int->Bool}(ht:Tr (.fn (.func g) fs cs))(hg:∀ x∈l,aA prog g (fs++[U8 x]++cs) (B (p x))):aA prog 226 [iK l,.fn (.func g) fs cs] (I (mH p l)):=by
 refine mo Tj.he (.cons (oW _) (.cons ht .nil)) fun C=>?_;have hlen:=(C (iK l) oS).sl.1;unfold maxLen at hlen;refine bj Tj (.cons (oW _) (.cons ht .nil)) (Tr.s _) ?_;rw[aek];refine ws ?_;refine SS ?_;refine aa (aB (aw ?_));refine ax ?_
 refine aa (bY (fun s=>aI prog s ⟨ay [],fun _=>none,0⟩/\∀ (j:Nat) y,l[j]? =some y->p y=false) (cy (α:=Nat) (fun k=>⟨ay [(0,iK l),(1,.fn (.func g) fs cs),(7,I l.length),(8,I k)],fun _=>none,0⟩)
  (fun k=>k<=l.length/\∀ j y,j<k->l[j]? =some y->p y=false) (fun k=>l.length - k) 0 (av eH) ⟨oG,fun j y hj=>by omega⟩ ?_) ?_)
 .rintro k ⟨hk,hinv⟩;refine SS ?_;refine aa ⟨_,rfl,fun h=>?_,fun h=>?_⟩
  .have af:k<l.length:=by simpa using h
   have hx:l[k]? =some l[k]:=by simp[af]
   generalize l[k]=x at hx;have J:=hg x (bD hx);refine ws ?_;refine ab ?_;refine er ?_;refine bu ?_;refine cl J ?_;refine aa (aO rfl (fun hp=>?_) fun hp=>?_)
   .refine ws ?_;refine ab ?_;refine aa (bJ (cu (bE (aF rfl ?_))));rw[tu hx hp hinv];rfl
   .refine cT ?_;refine ab ?_;refine aa (bg (k+1) (av eH) ⟨oG,fun j y hj hy=>?_⟩ oG);by_cases e:j=k
    .subst e;rw[hx] at hy;cases hy;exact hp
    .exact hinv j y oG hy
  .have U:¬ k<l.length:=by simpa using h
   exact⟨.forget _ _ _ _ fun _=>.inr rfl,fun j y hy=>hinv j y (by have:=(bK.1 hy).1;omega) hy⟩
 .rintro s ⟨hg,M⟩;refine⟨_,hg,aj ?_⟩;refine SS ?_;refine aa (aF rfl ?_);rw[w9 M];rfl
theorem uq{l:List Int}{g:FuncId}{fs cs:List D}{p:Int->Bool}(ht:Tr (.fn (.func g) fs cs))(hg:∀ x∈l,aA prog g (fs++[U8 x]++cs) (B (p x))):aA prog 163 [iK l,.fn (.func g) fs cs] (B (l.any p)):=by
 have LP:=LP ht hg;refine bj ael (.cons (oW _) (.cons ht .nil)) (Tr.s _) ?_;rw[aem];refine ws ?_;refine SS ?_;refine er ?_;refine ab ?_;refine cl LP ?_;refine ab ?_;refine aa (aF rfl ?_);rw[<- zW];rfl
theorem LQ{l:List ByteArray}{g:FuncId}{fs cs:List D}{p:ByteArray->Bool}(ht:Tr (.fn (.func g) fs cs))(hg:∀ x∈l,aA prog g (fs++[S x]++cs) (B (p x))):aA prog 166 [bI l,.fn (.func g) fs cs] (I (mH p l)):=by
 refine mo Tk.he (.cons (fS _) (.cons ht .nil)) fun C=>?_;have hlen:=(C (bI l) oS).sl.1;unfold maxLen at hlen;refine bj Tk (.cons (fS _) (.cons ht .nil)) (Tr.s _) ?_;rw[aen];refine ws ?_;refine SS ?_;refine aa (aB (aw ?_));refine ax ?_
 refine aa (bY (fun s=>aI prog s ⟨ay [],fun _=>none,0⟩/\∀ (j:Nat) y,l[j]? =some y->p y=false) (cy (α:=Nat) (fun k=>⟨ay [(0,bI l),(1,.fn (.func g) fs cs),(7,I l.length),(8,I k)],fun _=>none,0⟩)
  (fun k=>k<=l.length/\∀ j y,j<k->l[j]? =some y->p y=false) (fun k=>l.length - k) 0 (av eH) ⟨oG,fun j y hj=>by omega⟩ ?_) ?_)
 .rintro k ⟨hk,hinv⟩;refine SS ?_;refine aa ⟨_,rfl,fun h=>?_,fun h=>?_⟩
  .have af:k<l.length:=by simpa using h
   have hx:l[k]? =some l[k]:=by simp[af]
   generalize l[k]=x at hx;have J:=hg x (bD hx);refine ws ?_;refine ab ?_;refine er ?_;refine bu ?_;refine cl J ?_;refine aa (aO rfl (fun hp=>?_) fun hp=>?_)
   .refine ws ?_;refine ab ?_;refine aa (bJ (cu (bE (aF rfl ?_))));rw[tu hx hp hinv];rfl
   .refine cT ?_;refine ab ?_;refine aa (bg (k+1) (av eH) ⟨oG,fun j y hj hy=>?_⟩ oG);by_cases e:j=k
    .subst e;rw[hx] at hy;cases hy;exact hp
    .exact hinv j y oG hy
  .have U:¬ k<l.length:=by simpa using h
   exact⟨.forget _ _ _ _ fun _=>.inr rfl,fun j y hy=>hinv j y (by have:=(bK.1 hy).1;omega) hy⟩
 .rintro s ⟨hg,M⟩;refine⟨_,hg,aj ?_⟩;refine SS ?_;refine aa (aF rfl ?_);rw[w9 M];rfl
theorem Hg{l:List ByteArray}{g:FuncId}{fs cs:List D}{p:ByteArray->Bool}(ht:Tr (.fn (.func g) fs cs))(hg:∀ x∈l,aA prog g (fs++[S x]++cs) (B (p x))):aA prog 126 [bI l,.fn (.func g) fs cs] (B (l.any p)):=by
 have LQ:=LQ ht hg;refine bj aeo (.cons (fS _) (.cons ht .nil)) (Tr.s _) ?_;rw[aep];refine ws ?_;refine SS ?_;refine er ?_;refine ab ?_;refine cl LQ ?_;refine ab ?_;refine aa (aF rfl ?_);rw[<- zW];rfl
theorem LR{l:List iR}{g:FuncId}{fs cs:List D}{p:iR->Bool}(ht:Tr (.fn (.func g) fs cs))(hg:∀ x∈l,aA prog g (fs++[.agg (gR x)]++cs) (B (p x))):aA prog 223 [lB l,.fn (.func g) fs cs] (I (mH p l)):=by
 refine mo Tl.he (.cons (jd _) (.cons ht .nil)) fun C=>?_;have hlen:=(C (lB l) oS).sl.1;unfold maxLen at hlen;refine bj Tl (.cons (jd _) (.cons ht .nil)) (Tr.s _) ?_;rw[aeq];refine ws ?_;refine SS ?_;refine aa (aB (aw ?_));refine ax ?_
 refine aa (bY (fun s=>aI prog s ⟨ay [],fun _=>none,0⟩/\∀ (j:Nat) y,l[j]? =some y->p y=false) (cy (α:=Nat) (fun k=>⟨ay [(0,lB l),(1,.fn (.func g) fs cs),(7,I l.length),(8,I k)],fun _=>none,0⟩)
  (fun k=>k<=l.length/\∀ j y,j<k->l[j]? =some y->p y=false) (fun k=>l.length - k) 0 (av eH) ⟨oG,fun j y hj=>by omega⟩ ?_) ?_)
 .rintro k ⟨hk,hinv⟩;refine SS ?_;refine aa ⟨_,rfl,fun h=>?_,fun h=>?_⟩
  .have af:k<l.length:=by simpa using h
   have hx:l[k]? =some l[k]:=by simp[af]
   generalize l[k]=x at hx;have J:=hg x (bD hx);refine ws ?_;refine ab ?_;refine er ?_;refine bu ?_;refine cl J ?_;refine aa (aO rfl (fun hp=>?_) fun hp=>?_)
   .refine ws ?_;refine ab ?_;refine aa (bJ (cu (bE (aF rfl ?_))));rw[tu hx hp hinv];rfl
   .refine cT ?_;refine ab ?_;refine aa (bg (k+1) (av eH) ⟨oG,fun j y hj hy=>?_⟩ oG);by_cases e:j=k
    .subst e;rw[hx] at hy;cases hy;exact hp
    .exact hinv j y oG hy
  .have U:¬ k<l.length:=by simpa using h
   exact⟨.forget _ _ _ _ fun _=>.inr rfl,fun j y hy=>hinv j y (by have:=(bK.1 hy).1;omega) hy⟩
 .rintro s ⟨hg,M⟩;refine⟨_,hg,aj ?_⟩;refine SS ?_;refine aa (aF rfl ?_);rw[w9 M];rfl
theorem DB{l:List iR}{g:FuncId}{fs cs:List D}{p:iR->Bool}(ht:Tr (.fn (.func g) fs cs))(hg:∀ x∈l,aA prog g (fs++[.agg (gR x)]++cs) (B (p x))):aA prog 228 [lB l,.fn (.func g) fs cs] (B (l.any p)):=by
 have LR:=LR ht hg;refine bj aer (.cons (jd _) (.cons ht .nil)) (Tr.s _) ?_;rw[aes];refine ws ?_;refine SS ?_;refine er ?_;refine ab ?_;refine cl LR ?_;refine ab ?_;refine aa (aF rfl ?_);rw[<- zW];rfl
theorem zj{l:List Int}{g:FuncId}{fs cs:List D}{p:Int->Bool}(ht:Tr (.fn (.func g) fs cs))(hg:∀ x∈l,aA prog g (fs++[I x]++cs) (B (p x))):aA prog 89 [aP l,.fn (.func g) fs cs] (I (mH p l)):=by
 refine mo Uc.he (.cons (du _) (.cons ht .nil)) fun C=>?_;have hlen:=(C (aP l) oS).sl.1;unfold maxLen at hlen;refine bj Uc (.cons (du _) (.cons ht .nil)) (Tr.s _) ?_;rw[ahU];refine ws ?_;refine SS ?_;refine aa (aB (aw ?_));refine ax ?_
 refine aa (bY (fun s=>aI prog s ⟨ay [],fun _=>none,0⟩/\∀ (j:Nat) y,l[j]? =some y->p y=false) (cy (α:=Nat) (fun k=>⟨ay [(0,aP l),(1,.fn (.func g) fs cs),(7,I l.length),(8,I k)],fun _=>none,0⟩)
  (fun k=>k<=l.length/\∀ j y,j<k->l[j]? =some y->p y=false) (fun k=>l.length - k) 0 (av eH) ⟨oG,fun j y hj=>by omega⟩ ?_) ?_)
 .rintro k ⟨hk,hinv⟩;refine SS ?_;refine aa ⟨_,rfl,fun h=>?_,fun h=>?_⟩
  .have af:k<l.length:=by simpa using h
   have hx:l[k]? =some l[k]:=by simp[af]
   generalize l[k]=x at hx;have J:=hg x (bD hx);refine ws ?_;refine ab ?_;refine er ?_;refine bu ?_;refine cl J ?_;refine aa (aO rfl (fun hp=>?_) fun hp=>?_)
   .refine ws ?_;refine ab ?_;refine aa (bJ (cu (bE (aF rfl ?_))));rw[tu hx hp hinv];rfl
   .refine cT ?_;refine ab ?_;refine aa (bg (k+1) (av eH) ⟨oG,fun j y hj hy=>?_⟩ oG);by_cases e:j=k
    .subst e;rw[hx] at hy;cases hy;exact hp
    .exact hinv j y oG hy
  .have U:¬ k<l.length:=by simpa using h
   exact⟨.forget _ _ _ _ fun _=>.inr rfl,fun j y hy=>hinv j y (by have:=(bK.1 hy).1;omega) hy⟩
 .rintro s ⟨hg,M⟩;refine⟨_,hg,aj ?_⟩;refine SS ?_;refine aa (aF rfl ?_);rw[w9 M];rfl
theorem Bx{l:List Int}{g:FuncId}{fs cs:List D}{p:Int->Bool}(ht:Tr (.fn (.func g) fs cs))(hg:∀ x∈l,aA prog g (fs++[I x]++cs) (B (p x))):aA prog 76 [aP l,.fn (.func g) fs cs] (B (l.any p)):=by
 have zj:=zj ht hg;refine bj ahV (.cons (du _) (.cons ht .nil)) (Tr.s _) ?_;rw[ahW];refine ws ?_;refine SS ?_;refine er ?_;refine ab ?_;refine cl zj ?_;refine ab ?_;refine aa (aF rfl ?_);rw[<- zW];rfl
theorem mj{n a b:Int}:aA prog 73 [I n,I a,I b] (B (ju n a b)):=by
 refine bj aj1 (by simp[Tr.s]) (Tr.s _) ?_;rw[aj2];refine ws ?_;refine SS ?_;refine er ?_;refine bt ?_;refine aa (aF (d:=.s (.bool _)) rfl ?_);simp[ju]
theorem aj3{b:Int}:aA prog 164 [U8 b] (B (Fh b)):=by
 refine bj afZ (by simp[Tr.s]) (Tr.s _) ?_;rw[af0];refine ws ?_;refine SS ?_;refine er ?_;refine iu ?_;refine aa (aF (d:=.s (.bool _)) rfl ?_);simp[Fh]
theorem aj4{b:Int}:aA prog 167 [U8 b] (B (Fi b)):=by
 refine bj af1 (by simp[Tr.s]) (Tr.s _) ?_;rw[af2];refine ws ?_;refine SS ?_;refine er ?_;refine bt ?_;refine cr ?_;refine aa (aF (d:=.s (.bool _)) rfl ?_);simp[Fi]
theorem rm{s:ByteArray}:aA prog 124 [S s] (B (n5 s)):=by
 refine bj af3 (by simp[Tr.s]) (Tr.s _) ?_;have uq:=uq (l:=qH s) (g:=164) (fs:=[]) (cs:=[]) (p:=Fh) (.fn oS oS) (fun x _=>aj3);rw[af4];refine ws ?_;refine SS ?_;refine er ?_;refine ab ?_;refine cl mj ?_;refine SS ?_;refine bd rfl rfl (cV (v:=.s (.string _)) rfl) (fun hc=>⟨ak,trivial⟩) ?_;refine bd rfl rfl (Ql rfl V.h V.h) (fun hc=>⟨ak,⟨V.h,by have:=kU.1 (by simpa using hc);unfold maxLen;omega⟩⟩) ?_;refine gc uq ?_;refine ax ?_;refine aa (aF (d:=.s (.bool _)) rfl ?_);simp[n5]
theorem DO{s:ByteArray}:aA prog 128 [S s] (B (isName s)):=by
 refine bj af5 (by simp[Tr.s]) (Tr.s _) ?_;have uq:=uq (l:=qH s) (g:=167) (fs:=[]) (cs:=[]) (p:=Fi) (.fn oS oS) (fun x _=>aj4);rw[af6];refine ws ?_;refine SS ?_;refine er ?_;refine ab ?_;refine cl mj ?_;refine SS ?_;refine bd rfl rfl (cV (v:=.s (.string _)) rfl) (fun hc=>⟨ak,trivial⟩) ?_;refine bd rfl rfl (Ql rfl V.h V.h) (fun hc=>⟨ak,⟨V.h,by have:=kU.1 (by simpa using hc);unfold maxLen;omega⟩⟩) ?_;refine gc uq ?_;refine ax ?_;refine aa (aF (d:=.s (.bool _)) rfl ?_);simp[isName]
theorem aj5{s:ByteArray}:aA prog 127 [S s] (B !(isName s)):=by
 refine bj af7 (by simp[Tr.s]) (Tr.s _) ?_;rw[af8];refine ws ?_;refine SS ?_;refine er ?_;refine SS ?_;refine cl DO ?_;refine ab ?_;refine aa (aF rfl rfl)
theorem aj6{b m:Int}:aA prog 165 [U8 b,.pt [U8 m]] (B (Ci m b)):=by
 refine bj af9 (.cons (.s _) (.cons (.pt (by simp[Tr.s])) .nil)) (Tr.s _) ?_;rw[af'];refine ws ?_;refine SS ?_;refine er ?_;refine dG ?_;refine aa (aF (d:=.s (.bool _)) rfl ?_);simp[Ci]
theorem Mj{l:List Int}{m:Int}:aA prog 125 [iK l,U8 m] (B (tJ l m)):=by
 refine bj aga (.cons (oW _) (.cons (.s _) .nil)) (Tr.s _) ?_;have uq:=uq (l:=l) (g:=165) (fs:=[]) (cs:=[.pt [U8 m]]) (p:=Ci m) (.fn oS (.cons (.pt (by simp[Tr.s])) .nil)) (fun x _=>aj6);rw[agb];refine aw ?_;refine eA (Gc (d:=.s (.int _ _)) rfl rfl) ak rfl ?_;refine SS ?_;refine aa (bG (dB [(0,[U8 m],5)] eH (l:=[(0,iK l),(3,.pt [U8 m])]) eH) (aj ?_));refine ab ?_;refine cl uq ?_;refine ab ?_;refine aa (aF rfl rfl)
theorem Jb{p q:D}{f:al}(h:Real (.agg (aW p q f))):f.aT.length<=maxLen/\f.cm.length<=maxLen/\f.signals.length<=maxLen/\f.blocks.length<=maxLen:=
 ⟨(h.agg (iK f.aT) (by simp[aW])).sl.1,(h.agg (iK f.cm) (by simp[aW])).sl.1,(h.agg (bI f.signals) (by simp[aW])).sl.1,(h.agg (cF f.blocks) (by simp[aW])).sl.1⟩
section
variable{p q:D}{f:al}(hp:Tr p)(hq:Tr q)(eB:p.one=true)(bN:q.one=true)
include hp hq eB bN
theorem jH{n:Int}:aA prog 168 [.agg (aW p q f),I n] (B (ju n 0 (f.blocks.length - 1))):=by
 have C:∀ a∈[D.agg (aW p q f),I n],Tr a:=.cons (kb hp hq f) (.cons (.s _) .nil);refine mo TQ.he C fun J=>?_;obtain⟨M,U,X,l4⟩:=Jb (J _ (List.mem_cons_self ..));unfold maxLen at*
 refine bj TQ C (Tr.s _) ?_;rw[agd];refine ws ?_;refine ab ?_;refine er ?_;refine cr ?_;refine cl mj ?_;refine SS ?_;refine aa (aF rfl rfl)
theorem eZ{r:Int}:aA prog 169 [.agg (aW p q f),I r] (U8 (dy f.aT r)):=by
 have C:∀ a∈[D.agg (aW p q f),I r],Tr a:=.cons (kb hp hq f) (.cons (.s _) .nil);refine mo TR.he C fun J=>?_;obtain⟨M,U,X,l4⟩:=Jb (J _ (List.mem_cons_self ..));unfold maxLen at*
 refine bj TR C (Tr.s _) ?_;rw[age];refine ws ?_;refine ab ?_;refine aa (aB (aj ?_));refine cr ?_;refine cl mj ?_;refine SS ?_;refine aa (cR rfl (fun h=>?_) fun h=>?_)
 .refine aB (aj ?_);refine SS ?_;refine aa (ed (aF rfl ?_));rw[P4 (fun hh=>by simp[ju] at h;omega)];rfl
 .have hh:0<=r/\r<f.aT.length:=by simp[ju] at h;omega
  obtain⟨i,rfl⟩:=kL hh.1;have af:i<f.aT.length:=by omega
  have hx:f.aT[i]? =some f.aT[i]:=by simp[af]
  generalize f.aT[i]=x at hx;refine cI (aj ?_);refine iu ?_;refine aa (aF rfl ?_);rw[JC hx];rfl
theorem ake{r:Int}:aA prog 230 [I r,.pt (aW p q f)] (B !(n6 f.aT r)):=by
 have C:∀ a∈[I r,D.pt (aW p q f)],Tr a:=.cons (.s _) (.cons (.pt (Cj hp hq f)) .nil);have eZ:=eZ (f:=f) (r:=r) hp hq eB bN;refine bj agf C (Tr.s _) ?_;rw[agh];refine ws ?_;refine SS ?_;refine er ?_;refine ab ?_;refine cl eZ ?_;refine aZ ?_;refine gc eZ ?_;refine ax ?_;refine aa (aF (d:=.s (.bool _)) rfl ?_);unfold n6;generalize dy f.aT r=k;show D.s (.bool _)=D.s (.bool _);simp only[bne];cases (k==1)<;>cases (k==2)<;>rfl
theorem ie{l:List Int}:aA prog 172 [.agg (aW p q f),aP l] (B (qO f.aT l)):=by
 have C:∀ a∈[D.agg (aW p q f),aP l],Tr a:=.cons (kb hp hq f) (.cons (du _) .nil);have Bx:=Bx (l:=l) (g:=230) (fs:=[]) (cs:=[.pt (aW p q f)]) (p:=fun r=> !(n6 f.aT r)) (.fn oS (.cons (.pt (Cj hp hq f)) .nil)) (fun x _=>ake hp hq eB bN);refine bj agi C (Tr.s _) ?_;rw[agj];refine aw ?_;refine ab ?_;refine aa (bG (dB [(0,aW p q f,113)] eH (l:=[(1,aP l),(2,.pt (aW p q f))]) eH) (aj ?_));refine ab ?_;refine cl Bx ?_;refine ab ?_;refine aa (aF (d:=.s (.bool _)) rfl ?_);simp[qO,List.all_eq_not_any_not]
theorem Hw{r n:Int}:aA prog 176 [.agg (aW p q f),I r,I n] (B (yk f.aT f.cm r n)):=by
 have J:∀ a∈[D.agg (aW p q f),I r,I n],Tr a:=.cons (kb hp hq f) (.cons (.s _) (.cons (.s _) .nil));refine mo TS.he J fun M=>?_;obtain⟨U,X,l3,l4⟩:=Jb (M _ (List.mem_cons_self ..));unfold maxLen at*
 have eZ:=eZ (f:=f) (r:=r) hp hq eB bN;refine bj TS J (Tr.s _) ?_;rw[agk];have mj:=mj (n:=n) (a:=0) (b:=f.cm.length - 1);by_cases hh:0<=n/\n<f.cm.length
 .obtain⟨i,rfl⟩:=kL hh.1;have af:i<f.cm.length:=by omega
  have hx:f.cm[i]? =some f.cm[i]:=by simp[af]
  generalize f.cm[i]=x at hx;have C:ju (i:Int) 0 (f.cm.length - 1)=true:=kU.2 oG;rw[C] at mj;refine ws ?_;refine ab ?_;refine aa (ep P5 ?_);refine cr ?_;refine cl mj ?_;refine SS ?_;refine bd rfl rfl (eL (vs:=aW _ _ _) rfl rfl V.h V.h rfl) (fun hc=>⟨ak,(eM V.h V.h (by first|(simp;done)|omega|exact bC rfl))⟩) ?_;refine SS ?_;refine gc eZ ?_;refine bt ?_;refine ct cG ?_;refine aF (d:=.s (.bool _)) rfl ?_;simp[yk,C,JC hx]
 .have C:ju n 0 (f.cm.length - 1)=false:=ZY.2 oG;rw[C] at mj;refine ws ?_;refine ab ?_;refine aa (ep P5 ?_);refine cr ?_;refine cl mj ?_;refine SS ?_;(iterate 10 refine z fun _ _=>?_);refine ab ?_;refine ct cG ?_;refine aF (d:=.s (.bool _)) rfl ?_;simp[yk,C]
end
section
variable{p q:D}{f:al}(hp:Tr p)(hq:Tr q)(eB:p.one=true)(bN:q.one=true)
include hp hq eB bN
theorem DR{r want kd:Int}:aA prog 227 [.agg (aW p q f),I r,I want,U8 kd] (B (o4 f.aT r want kd)):=by
 have J:∀ a∈[D.agg (aW p q f),I r,I want,U8 kd],Tr a:=.cons (kb hp hq f) (.cons (.s _) (.cons (.s _) (.cons (.s _) .nil)));have eZ:=eZ (f:=f) (r:=r) hp hq eB bN;refine bj agl J (Tr.s _) ?_;rw[agm];refine ws ?_;refine ab ?_;refine er ?_;refine au (eL (vs:=aW _ _ _) rfl rfl V.h V.h rfl) ak (eM V.h V.h (by first|(simp;done)|omega|exact bC rfl)) ?_;refine SS ?_;refine cl eZ ?_;refine SS ?_;refine aa (aB (aj ?_));refine SS ?_;refine aa (w7 (aj ?_));refine ab ?_;refine aa (aO rfl (fun h0=>?_) fun h0=>?_)
 .have h0:want=0:=by simpa using h0
  refine ws ?_;refine ax ?_;refine aa (bJ (eu (bE (aF (d:=.s (.bool _)) rfl ?_))));simp[o4,h0]
 have h0:¬ want=0:=by simpa using h0
 refine ws ?_;refine ab ?_;refine aa (aO rfl (fun h1=>?_) fun h1=>?_)
 .have h1:want=1:=by simpa using h1
  refine ws ?_;refine ax ?_;refine aa (bJ (eu (bE (aF (d:=.s (.bool _)) rfl ?_))));simp[o4,h1]
 have h1:¬ want=1:=by simpa using h1
 refine ws ?_;refine ab ?_;refine aa (aO rfl (fun h2=>?_) fun h2=>?_)
 .have h2:want=2:=by simpa using h2
  refine ws ?_;refine ax ?_;refine aa (bJ (eu (bE (aF (d:=.s (.bool _)) rfl ?_))));simp[o4,h2]
 have h2:¬ want=2:=by simpa using h2
 refine ws ?_;refine ab ?_;refine aa (aO rfl (fun C=>?_) fun C=>?_)
 .have C:want=3:=by simpa using C
  refine ws ?_;refine iu ?_;refine aa (bJ (eu (bE (aF (d:=.s (.bool _)) rfl ?_))));simp[o4,C,n6,ib]
 have C:¬ want=3:=by simpa using C
 refine vA (aj ?_);refine dG ?_;refine aa (aF (d:=.s (.bool _)) rfl ?_);simp[o4,h0,h1,h2,C,ib,bne]
theorem Bh{x:cW}{s:Shape}:aA prog 170 [.agg (aW p q f),.agg (cv x),.agg (jy s)] (B (vq f.aT x s)):=by
 have M:∀ a∈[D.agg (aW p q f),.agg (cv x),.agg (jy s)],Tr a:=.cons (kb hp hq f) (.cons (.agg (xj x)) (.cons (.agg (P6 s)) .nil));have eZ:=fun r=>eZ (f:=f) (r:=r) hp hq eB bN;have DR:= @DR p q f hp hq eB bN;have ie:=ie (f:=f) hp hq eB bN (l:=x.args);have J:=mj (n:=x.n) (a:=s.low) (b:=s.high);refine bj agn M (Tr.s _) ?_;rw[ago];refine aw ?_;refine ab ?_;refine eA (r9 (cs:=jy _) rfl) ak (by first|rfl|exact rO eB bN|exact nF _|exact ud rC) ?_;refine SS ?_;refine aa (bG (dB [(0,aW p q f,113),(1,cv x,54),(2,jy s,237)] eH (l:=[(3,.pt (aW p q f)),(4,.pt (cv x)),(5,.pt (jy s))]) eH) (aj ?_));have C:=eZ;have eZ:=eZ x.to;refine ax ?_;refine cl eZ ?_;refine SS ?_;refine aa ?_;refine iL (fun s'=>aI prog s' ⟨ay [(3,.pt (aW p q f)),(4,.pt (cv x)),(5,.pt (jy s)),(7,U8 (zZ f.aT x s))],fun _=>none,3⟩) (aj ?_) fun s' hg=>⟨_,hg,?_⟩
 .refine dG ?_;refine aa (aO rfl (fun h=>sf ?_) fun h=>cJ ?_)
  .have h:s.to=0\/s.to=1:=by simpa[ib] using h
   have eZ:=C x.a;refine ax ?_;refine cl eZ ?_;refine SS ?_;refine aa ?_;show aI _ _ _;refine av (l:=[(3,_),(4,_),(5,_),(7,_)]) ⟨rfl,rfl,rfl,?_,trivial⟩;simp only[zZ,if_pos h];rfl
  .have h:¬ (s.to=0\/s.to=1):=by simpa[ib] using h
   show aI _ _ _;refine av (l:=[(3,_),(4,_),(5,_),(7,_)]) ⟨rfl,rfl,rfl,?_,trivial⟩;simp only[zZ,if_neg h];rfl
 refine ws ?_;refine bu ?_;refine aa ?_;refine iL (fun s'=>aI prog s' ⟨ay [(3,.pt (aW p q f)),(4,.pt (cv x)),(5,.pt (jy s)),(7,U8 (zZ f.aT x s)),(8,B (wZ f.aT x s))],fun _=>none,3⟩) (aj ?_) fun s' hg=>⟨_,hg,?_⟩
 .refine ab ?_;refine aa (pA (aj ?_));refine ab ?_;refine aa (aO rfl (fun h=>n1 ?_) fun h=>aj ?_)
  .have h:s.args=5:=by simpa using h
   have mj:=mj (n:=x.args.length) (a:=1) (b:=6);refine ax ?_;refine cl mj ?_;refine aZ ?_;refine gc ie ?_;refine ab ?_;refine aa ?_;refine av ⟨rfl,rfl,rfl,rfl,?_,trivial⟩;show D.s (.bool _)=_;simp[wZ,h]
  .have U:¬ s.args=5:=by simpa using h
   refine ab ?_;refine aa (aO rfl (fun h=>n1 ?_) fun h=>Jn ?_)
   .have h:s.args=6:=by simpa using h
    refine dG ?_;refine gc ie ?_;refine ab ?_;refine aa ?_;refine av ⟨rfl,rfl,rfl,rfl,?_,trivial⟩;show D.s (.bool _)=_;simp[wZ,h,ib]
   .have X:¬ s.args=6:=by simpa using h
    refine av ⟨rfl,rfl,rfl,rfl,?_,trivial⟩;show D.s (.bool _)=_;simp[wZ,U,X,ib]
 refine ws ?_;refine bu ?_;refine cl DR ?_;refine iu ?_;refine gc DR ?_;refine dG ?_;refine gc DR ?_;refine bt ?_;refine ab ?_;refine gc mj ?_;refine ab ?_;refine aa (aF (d:=.s (.bool _)) rfl ?_);simp[vq,Bool.and_assoc]
end
theorem Mm{x:cW}:aA prog 231 [.agg (cv x)] (B (Gs x)):=by
 have C:∀ a∈[D.agg (cv x)],Tr a:=.cons (.agg (xj x)) .nil;refine bj agq C (Tr.s _) ?_;rw[agr];refine ws ?_;refine ab ?_;refine er ?_;refine bt ?_;refine bt ?_;refine bt ?_;refine ax ?_;refine aa (aF (d:=.s (.bool _)) rfl ?_);simp only[Gs,ib];cases decide (x.op=0)<;>cases decide (x.to=0)<;>cases decide (x.a=0)<;>cases decide (x.b=0)<;>cases decide (x.n=0)<;>rfl
theorem Mn{x:Argus.End}:aA prog 173 [.agg (bw x)] (B (vU x)):=by
 have C:∀ a∈[D.agg (bw x)],Tr a:=.cons (.agg (pB x)) .nil;have Mm:=Mm (x:=x.ins);refine bj ags C (Tr.s _) ?_;rw[agt];refine ws ?_;refine ab ?_;refine er ?_;refine bt ?_;refine bt ?_;refine dG ?_;refine bd rfl rfl (Kn rfl rfl) (fun hc=>⟨ak,trivial⟩) ?_;refine bt ?_;refine bt ?_;refine ab ?_;refine bd rfl rfl (eL (vs:=cv _) rfl rfl V.h V.h rfl) (fun hc=>⟨ak,(eM V.h V.h (by first|(simp;done)|omega|exact bC rfl))⟩) ?_;refine gc Mm ?_;refine ab ?_;refine aa (aF (d:=.s (.bool _)) rfl ?_);have:decide (x.name.toList=[])=x.name.toList.isEmpty:=by cases x.name.toList<;>rfl
 simp[vU,ib,Bool.and_assoc,this]
theorem akf{w v:iR}:aA prog 229 [.agg (gR v),.pt (gR w)] (B (v.name.toList==w.name.toList)):=by
 have C:∀ a∈[D.agg (gR v),.pt (gR w)],Tr a:=.cons (.agg (Fk v)) (.cons (.pt (Fk w)) .nil);refine bj agu C (Tr.s _) ?_;rw[agv];refine ws ?_;refine eA (r9 (cs:=gR _) rfl) ak (by first|rfl|exact rO eB bN|exact nF _|exact ud rC) ?_;refine SS ?_;refine er ?_;refine cr ?_;exact aa (aF rfl rfl)
section
variable{p q:D}{f:al}(hp:Tr p)(hq:Tr q)(eB:p.one=true)(bN:q.one=true)
include hp hq eB bN
theorem sQ{x:Argus.End}:aA prog 171 [.agg (aW p q f),.agg (bw x)] (B (nX f x)):=by
 have J:∀ a∈[D.agg (aW p q f),.agg (bw x)],Tr a:=.cons (kb hp hq f) (.cons (.agg (pB x)) .nil);refine mo TT.he J fun U=>?_;have hlen:x.aR.length<=maxLen:=((U _ (List.mem_cons_of_mem _ (List.mem_cons_self ..))).agg (lB x.aR) (by simp[bw])).sl.1;unfold maxLen at hlen;have jH:= @jH p q f hp hq eB bN;refine bj TT J (Tr.s _) ?_;rw[agw];refine aw ?_;refine ax ?_;refine aa (bG (dB [(0,aW p q f,113),(1,bw x,57)] eH (l:=[(2,.pt (aW p q f)),(3,.pt (bw x))]) eH) (aB (aw ?_)));refine aZ ?_
 refine aa (bY (fun s=>∃ n,aI prog s ⟨ay [(2,.pt (aW p q f)),(3,.pt (bw x))],fun _=>none,n⟩/\∀ (j:Nat) y,x.aR[j]? =some y->q7 f x.aR j y=true) (cy (α:=Nat) (fun k=>⟨ay [(2,.pt (aW p q f)),(3,.pt (bw x)),(8,lB x.aR),(9,I x.aR.length),(10,I k)],fun _=>none,2+k⟩)
  (fun k=>k<=x.aR.length/\∀ j y,j<k->x.aR[j]? =some y->q7 f x.aR j y=true) (fun k=>x.aR.length - k) 0 (av eH) ⟨oG,fun j y hj=>by omega⟩ ?_) ?_)
 .rintro k ⟨hk,hinv⟩;refine SS ?_;refine aa ⟨_,rfl,fun h=>?_,fun h=>?_⟩
  .have af:k<x.aR.length:=by simpa using h
   have hx:x.aR[k]? =some x.aR[k]:=by simp[af]
   generalize x.aR[k]=w at hx;refine aw ?_;refine cr ?_;refine aa (bG (dB [(2+k,gR w,79)] ⟨ah _ _ _,trivial⟩ (l:=[(2,.pt (aW p q f)),(3,.pt (bw x)),(5,I k),(6,.pt (gR w)),(8,lB x.aR),(9,I x.aR.length),(10,I k)]) ⟨rfl,rfl,rfl,lR (sz:=prog.cellsOf 79),rfl,rfl,rfl,trivial⟩) (aj ?_));have DO:=DO (s:=w.name);have DB:=DB (l:=x.aR.take k) (g:=229) (fs:=[]) (cs:=[.pt (gR w)]) (p:=fun v=>v.name.toList==w.name.toList) (.fn oS (.cons (.pt (Fk w)) .nil)) (fun v _=>akf);unfold lB at DB;rw[<- acS IX hk] at DB;refine ab ?_;refine cl DO ?_;refine bu ?_;refine gc jH ?_;refine cr ?_;refine bd rfl rfl (JM rfl V.h V.h rfl rfl rfl) (fun hc=>⟨ak,⟨V.h,oG,oG,oG⟩⟩) ?_;refine bd rfl rfl (Kp rfl rfl) (fun hc=>⟨ak,trivial⟩) ?_;refine gc DB ?_;refine SS ?_;have hb:((isName w.name&&(eh f w.to&& !(x.aR.take k).any fun v=>v.name.toList==w.name.toList)))=q7 f x.aR k w:=rfl;refine aa (aO rfl (fun hp=>?_) fun hp=>?_)
   .refine ws ?_;refine SS ?_;refine aa (bJ (cu (bE (aF (d:=.s (.bool _)) rfl ?_))))
    have C:q7 f x.aR k w=false:=by
     rw[<- hb];simp only[eh];revert hp;generalize isName w.name=a;generalize ju w.to 0 (f.blocks.length - 1)=b;generalize (List.any _ _)=c;cases a<;>cases b<;>cases c<;>simp
    simp[nX,W2 hx C]
   .refine cT ?_
    have C:q7 f x.aR k w=true:=by
     rw[<- hb];simp only[eh];revert hp;generalize isName w.name=a;generalize ju w.to 0 (f.blocks.length - 1)=b;generalize (List.any _ _)=c;cases a<;>cases b<;>cases c<;>simp
    refine ab ?_;refine aa (bg (k+1) (av eH) ⟨oG,fun j y hj hy=>?_⟩ oG);by_cases e:j=k
    .subst e;rw[hx] at hy;cases hy;exact C
    .exact hinv j y oG hy
  .have bl:¬ k<x.aR.length:=by simpa using h
   exact⟨2+k,.forget _ _ _ _ fun t=>pz (l:=[(2,.pt (aW p q f)),(3,.pt (bw x))]) ⟨rfl,rfl,trivial⟩ t,fun j y hy=>hinv j y (by have:=(bK.1 hy).1;omega) hy⟩
 .rintro s ⟨n,hg,M⟩;refine⟨_,hg,aj ?_⟩;refine bt ?_;refine ax ?_;refine gc jH ?_;refine ax ?_;refine aa (aF (d:=.s (.bool _)) rfl ?_);have X:=Xx M;simp[nX,eh,X,ib]
end
abbrev P0:D:=.im (qe n7)
abbrev Q0:D:=.im (qe ni)
theorem akg:aA prog 162 [] (.aL [P0,Q0]):=by
 refine bj agx Tr.nil (.aL (.cons (AP _) (.cons (AP _) .nil))) ?_;rw[agy];refine ws ?_;refine au (jx (v:=.s (.map none)) rfl) ak trivial ?_;refine au (jx (v:=.s (.map none)) rfl) ak trivial ?_;refine er ?_;refine bt ?_;refine bt ?_;refine bt ?_;refine cr ?_;refine er ?_;refine bt ?_;refine bt ?_;refine ax ?_;refine aa (aw ?_);refine aZ ?_;refine aa (bG (abF [(0,qe n7),(1,qe ni)] eH (l:=[(0,P0),(1,Q0)]) eH) ?_);exact gk rfl rfl rfl
abbrev q8(f:al):D:=.agg (aW P0 Q0 f)
theorem Ml{f:al}:aA prog 123 [.agg (aM f)] (q8 f):=by
 have C:∀ a∈[D.agg (aM f)],Tr a:=.cons (.agg (kQ f)) .nil;refine bj agz C (kb (AP _) (AP _) f) ?_;rw[agA];refine ws ?_;refine ab ?_;refine er ?_;refine cl akg ?_;refine SS ?_;refine au (qD (v:=.im _) rfl rfl) ak (by first|decide|simp) ?_;refine au (qD (v:=.im _) rfl rfl) ak (by first|decide|simp) ?_;refine au (jx (v:=.im _) rfl) ak trivial ?_;refine au (jx (v:=.im _) rfl) ak trivial ?_;refine er ?_;refine au (eL (vs:=aM _) rfl rfl V.h V.h rfl) ak (eM V.h V.h (by first|(simp;done)|omega|exact bC rfl)) ?_;refine ax ?_;refine bM (fk (cs':=aW _ _ _) rfl rfl rfl rfl) ak (bU V.h V.h (by first|(simp;done)|exact⟨rfl,bC rfl⟩|(simp;omega)) (by rfl)) ?_;refine aa (qT (gy rfl rfl UX UY rfl t113 oS) ?_);rfl
theorem lU:Tr P0:=AP _
theorem lV:Tr Q0:=AP _
section
variable{p q:D}{f:al}(hp:Tr p)(hq:Tr q)(eB:p.one=true)(bN:q.one=true)
include hp hq eB bN
theorem akh{r kd:Int}:aA prog 177 [I r,.pt (aW p q f),.pt [U8 kd]] (B !(dt (dy f.aT r) kd)):=by
 have C:∀ a∈[I r,.pt (aW p q f),.pt [U8 kd]],Tr a:=.cons (.s _) (.cons (.pt (Cj hp hq f)) (.cons (.pt (.cons (.s _) .nil)) .nil));have eZ:=eZ (f:=f) (r:=r) hp hq eB bN;refine bj agB C (Tr.s _) ?_;rw[agC];refine ws ?_;refine SS ?_;refine aa (ep ZZ ?_);refine ab ?_;refine cl eZ ?_;refine ax ?_;refine ct cG ?_;refine aF (d:=.s (.bool _)) rfl ?_;rfl
end
theorem Hu{f:al}{b ahead:Int}{x:cW}{phis:Bool}:aA prog 131 [q8 f,I b,.agg (cv x),B phis,I ahead] (B (k6 f b x phis ahead)):=by
 have U:∀ a∈[q8 f,I b,.agg (cv x),B phis,I ahead],Tr a:=.cons (kb lU lV f) (.cons (.s _) (.cons (.agg (xj x)) (.cons (.s _) (.cons (.s _) .nil))));have eZ:= @eZ P0 Q0 f lU lV rfl rfl;have Hw:= @Hw P0 Q0 f lU lV rfl rfl;have ie:= @ie P0 Q0 f lU lV rfl rfl;have Bh:= @Bh P0 Q0 f lU lV rfl rfl;refine bj agD U (Tr.s _) ?_;rw[agE];refine aw ?_;refine ax ?_;refine aa (bG (dB [(0,aW P0 Q0 f,113),(1,cv x,54)] eH (l:=[(1,I b),(3,B phis),(4,I ahead),(5,.pt (aW P0 Q0 f)),(7,.pt (cv x))]) eH) (aB (aj ?_)));refine ab ?_;refine aa (w7 (aj ?_));refine ab ?_;refine aa (aO rfl (fun h0=>?_) fun h0=>?_)
 .have h0:x.op=16:=by simpa using h0
  refine ws ?_;refine iu ?_;refine gc eZ ?_;refine bt ?_;refine dG ?_;refine ab ?_;refine aa (bJ (eu (bE (aF (d:=.s (.bool _)) rfl ?_))));simp[k6,h0,dt,tU,ib,Bool.and_assoc]
 have h0:¬ x.op=16:=by simpa using h0
 refine ws ?_;refine ab ?_;refine aa (aO rfl (fun h1=>?_) fun h1=>?_)
 .have h1:x.op=17:=by simpa using h1
  refine ws ?_;refine bt ?_;refine bt ?_;refine ab ?_;refine gc Hw ?_;refine ab ?_;refine aa (bJ (eu (bE (aF (d:=.s (.bool _)) rfl ?_))));simp[k6,h1,dt,tU,ib,Bool.and_assoc]
 have h1:¬ x.op=17:=by simpa using h1
 refine ws ?_;refine ab ?_;refine aa (aO rfl (fun h2=>?_) fun h2=>?_)
 .have h2:x.op=18:=by simpa using h2
  refine ws ?_;refine bt ?_;refine bt ?_;refine ab ?_;refine gc Hw ?_;refine ab ?_;refine aa (bJ (eu (bE (aF (d:=.s (.bool _)) rfl ?_))));simp[k6,h2,dt,tU,ib,Bool.and_assoc]
 have h2:¬ x.op=18:=by simpa using h2
 refine ws ?_;refine ab ?_;refine aa (aO rfl (fun C=>?_) fun C=>?_)
 .have C:x.op=19:=by simpa using C
  refine aw ?_;refine ax ?_;refine cl eZ ?_;refine ab ?_;refine aa (bG (dB [(2,[U8 (dy f.aT x.to)],5)] eH (l:=[(1,I b),(3,B phis),(4,I ahead),(5,.pt (aW P0 Q0 f)),(7,.pt (cv x)),(11,.pt [U8 (dy f.aT x.to)])]) eH) (aj ?_));have Bx:=Bx (l:=x.args) (g:=177) (fs:=[]) (cs:=[.pt (aW P0 Q0 f),.pt [U8 (dy f.aT x.to)]]) (p:=fun r=> !(dt (dy f.aT r) (dy f.aT x.to))) (.fn oS (.cons (.pt (Cj lU lV f)) (.cons (.pt (.cons (.s _) .nil)) .nil))) (fun r _=>akh lU lV rfl rfl);refine ax ?_;refine cl Bx ?_;refine SS ?_;refine er ?_;by_cases hb:phis=true/\0<b
  .obtain⟨rfl,hb⟩:=hb;have uo:decide (0<b)=true:=by simpa using hb
   have ie:=ie (l:=[x.to]);have M:∀ {m:Mem},m 3=some (.cells [I x.to] 3)->jn prog [3] m [q8 f,.rs 3 0 1] [q8 f,aP [x.to]]:=fun hm=>⟨cH (kb lU lV f),AF hm oS (by rw[c3];rfl) (.cons (.s _) .nil),trivial⟩
   refine dG ?_;refine ab ?_;refine sg ie rfl rfl rfl rfl (M rfl) ak ?_;refine bt ?_;refine bt ?_;refine dG ?_;refine ab ?_;refine aa (bJ (eu (bE (aF (d:=.s (.bool _)) rfl ?_))));simp[k6,C,hb,dt,tU,ib,Bool.and_assoc,qO]
  .have hf:k6 f b x phis ahead=false:=by
    cases phis with
    |false=>simp[k6,C]
    |true=>simp[k6,C,show ¬ 0<b by simpa using hb]
   have hf:D.s (.bool false)=B (k6 f b x phis ahead):=by rw[hf]
   cases phis with
   |false=>
    refine ab ?_;(iterate 2 refine z fun _ _=>?_);refine ab ?_;(iterate 5 refine z fun _ _=>?_);refine ab ?_;(iterate 3 refine z fun _ _=>?_);refine ab ?_;(iterate 3 refine z fun _ _=>?_);refine ab ?_;(iterate 3 refine z fun _ _=>?_);refine ab ?_;(iterate 5 refine z fun _ _=>?_);refine ab ?_;(iterate 2 refine z fun _ _=>?_);refine ab ?_;exact aa (bJ (eu (bE (aF (d:=.s (.bool _)) rfl hf))))
   |true=>
    have uo:decide (0<b)=false:=by simpa using hb
    refine cr ?_;(iterate 5 refine z fun _ _=>?_);refine ab ?_;(iterate 3 refine z fun _ _=>?_);refine ab ?_;(iterate 3 refine z fun _ _=>?_);refine ab ?_;(iterate 3 refine z fun _ _=>?_);refine ab ?_;(iterate 5 refine z fun _ _=>?_);refine ab ?_;(iterate 2 refine z fun _ _=>?_);refine ab ?_;exact aa (bJ (eu (bE (aF (d:=.s (.bool _)) rfl hf))))
 have C:¬ x.op=19:=by simpa using C
 refine vA (aj ?_);have X:fv prog 111 true (cN (.int .u8 x.op) (qe n7))=.aL [.agg (jy ((jz n7 x.op).getD Ae)),.s (.bool (jz n7 x.op).isSome)]:=SN rfl _ _ (by rw[Lo];unfold lN;rw[Mo,Mp];rfl);have J:=R1 (P:=prog) (kt:=5) u5 n7;refine aZ ?_;refine au (zM rfl rfl V.h X) ak ⟨V.h,by kernel_rfl,J⟩ ?_;refine SS ?_;refine au (qD (v:=.agg (jy _)) rfl rfl) ak (by first|decide|simp) ?_;refine ab ?_;refine bM (fk (cs':=jy _) rfl rfl rfl rfl) ak (bU V.h V.h (by first|(simp;done)|exact⟨rfl,bC rfl⟩|(simp;omega)) (by rfl)) ?_;refine SS ?_;refine er ?_;refine ax ?_;refine bd rfl rfl (j6 (vs:=cv _) rfl V.h V.h rfl) (fun hc=>⟨ak,(j9 V.h V.h oS)⟩) ?_;refine bd rfl rfl (eL (vs:=jy _) rfl rfl V.h V.h rfl) (fun hc=>⟨ak,(eM V.h V.h (by first|(simp;done)|omega|exact bC rfl))⟩) ?_;refine gc Bh ?_;refine ab ?_;refine aa (aF (d:=.s (.bool _)) rfl ?_);simp[k6,h0,h1,h2,C]
def TU(f:al)(x:Argus.End)(s:St):Prop:=∃ cells n,aI prog s ⟨ay [(2,.pt (aW P0 Q0 f)),(3,.pt (bw x)),(5,.rp 2 0),(6,B (eD f x).1)],up (fun _=>none) 2 (some (.cells cells 57)),n⟩/\cells.length=15/\∀ m,jn prog [2] m cells (bw (eD f x).2)
theorem vR{l:List Int}{r:Int}:qO l [r]=n6 l r:=by simp[qO]
theorem mL{f:al}{x r:Argus.End}{env:Env}{m:Mem}{nx:Nat}{cells:List D}{ok:Bool}(hr:eD f x=(ok,r))(he:kX [(2,.pt (aW P0 Q0 f)),(3,.pt (bw x)),(5,.rp 2 0),(6,B ok)] env)(hm:m 2=some (.cells cells 57))(hl:cells.length=15)
 (hs:∀ m,jn prog [2] m cells (bw r)):TU f x ⟨env,m,nx⟩:=by
 refine⟨cells,nx,?_,hl,?_⟩
 .rw[hr];exact Q5 he (aaK hm)
 .rw[hr];exact hs
theorem Ht{f:al}{x:Argus.End}:aA prog 129 [q8 f,.agg (bw x)] (B (jh f x)):=by
 have bh:∀ a∈[q8 f,.agg (bw x)],Tr a:=.cons (kb lU lV f) (.cons (.agg (pB x)) .nil);have jH:= @jH P0 Q0 f lU lV rfl rfl;have eZ:= @eZ P0 Q0 f lU lV rfl rfl;have ie:= @ie P0 Q0 f lU lV rfl rfl;have Bh:= @Bh P0 Q0 f lU lV rfl rfl;have sQ:= @sQ P0 Q0 f lU lV rfl rfl;refine bj agF bh (Tr.s _) ?_;rw[agG];refine aw ?_;refine ax ?_;refine aa (bG (dB [(0,aW P0 Q0 f,113),(1,bw x,57)] eH (l:=[(2,.pt (aW P0 Q0 f)),(3,.pt (bw x))]) eH) (aj ?_));refine ab ?_;refine bM (fk (cs':=bw _) rfl rfl rfl rfl) ak (bU V.h V.h (by first|(simp;done)|exact⟨rfl,bC rfl⟩|(simp;omega)) (by rfl)) ?_;refine SS ?_;refine er ?_;refine ab ?_;refine aa ?_;refine iL (TU f x) (aj ?_) fun s hs=>?_
 .refine ab ?_;refine aa (pA (aj ?_));refine ab ?_;refine aa (aO rfl (fun h=>?_) fun h=>?_)
  .have h:x.kind=1:=by simpa using h
   refine n1 ?_;refine ax ?_;refine cl jH ?_;refine ax ?_;refine aa ?_;exact mL (r:={ x with kind:=0,to:=0 }) (by simp[eD,h,dt,ib,Bool.and_assoc,eh]) ⟨rfl,rfl,rfl,rfl,trivial⟩ rfl rfl (fun m=>by repeat' (first|exact trivial|exact cH (Tr.s _)|exact cH (du _)|exact cH (jd _)|exact mM|refine And.intro ?_ ?_))
  have h1:¬ x.kind=1:=by simpa using h
  clear h;refine ws ?_;refine ab ?_;refine aa (aO rfl (fun h=>?_) fun h=>?_)
  .have h:x.kind=2:=by simpa using h
   refine n1 ?_;refine ax ?_;refine cl eZ ?_;refine bu ?_;refine gc jH ?_;refine bu ?_;refine gc jH ?_;refine dG ?_;refine aa ?_;exact mL (r:={ x with kind:=0,a:=0,to:=0,gN:=0 }) (by simp[eD,h,dt,ib,Bool.and_assoc,eh]) ⟨rfl,rfl,rfl,rfl,trivial⟩ rfl rfl (fun m=>by repeat' (first|exact trivial|exact cH (Tr.s _)|exact cH (du _)|exact cH (jd _)|exact mM|refine And.intro ?_ ?_))
  have h2:¬ x.kind=2:=by simpa using h
  clear h;refine ws ?_;refine ab ?_;refine aa (aO rfl (fun h=>?_) fun h=>?_)
  .have h:x.kind=3:=by simpa using h
   refine ws ?_;refine cr ?_;refine er ?_;refine dG ?_;refine ab ?_;refine aa (aO rfl (fun hr=>?_) fun hr=>?_)
   .have hr:f.result≠0/\f.iter=false:=by simpa[bne,ib] using hr
    refine QD Ys ?_;refine ax ?_;refine cl eZ ?_;refine bu ?_;refine ct cG ?_;exact mL (r:={ x with kind:=0,a:=0 }) (by simp[eD,h,dt,ib,Bool.and_assoc,hr.1,hr.2]) ⟨rfl,rfl,rfl,rfl,trivial⟩ rfl rfl (fun m=>by repeat' (first|exact trivial|exact cH (Tr.s _)|exact cH (du _)|exact cH (jd _)|exact mM|refine And.intro ?_ ?_))
   .have hr:¬ (f.result≠0/\f.iter=false):=by simpa[bne,ib] using hr
    refine Jn ?_;exact mL (r:={ x with kind:=0,a:=0 }) (by simp only[eD,h];simp only[if_neg hr];simp[dt,ib]) ⟨rfl,rfl,rfl,rfl,trivial⟩ rfl rfl (fun m=>by repeat' (first|exact trivial|exact cH (Tr.s _)|exact cH (du _)|exact cH (jd _)|exact mM|refine And.intro ?_ ?_))
  have h3:¬ x.kind=3:=by simpa using h
  clear h;refine ws ?_;refine ab ?_;refine aa (aO rfl (fun h=>?_) fun h=>?_)
  .have h:x.kind=4:=by simpa using h
   refine n1 ?_;refine ab ?_;refine cl DO ?_;refine ax ?_;refine aa ?_;exact mL (r:={ x with kind:=0,name:=.empty }) (by simp[eD,h,dt,ib,Bool.and_assoc]) ⟨rfl,rfl,rfl,rfl,trivial⟩ rfl rfl (fun m=>by repeat' (first|exact trivial|exact cH (Tr.s _)|exact cH (du _)|exact cH (jd _)|exact mM|refine And.intro ?_ ?_))
  have h4:¬ x.kind=4:=by simpa using h
  clear h;refine ws ?_;refine ab ?_;refine aa (aO rfl (fun h=>?_) fun h=>?_)
  .have h:x.kind=5:=by simpa using h
   refine ws ?_;have kg:fv prog 111 true (cN (.int .u8 x.ins.op) (qe ni))=.aL [.agg (jy ((jz ni x.ins.op).getD Ae)),.s (.bool (jz ni x.ins.op).isSome)]:=SN rfl _ _ (by rw[Lo];unfold lN;rw[Mo,Mp];rfl);have H8:=R1 (P:=prog) (kt:=5) u5 ni;refine bu ?_;refine au (zM rfl rfl V.h kg) ak ⟨V.h,by kernel_rfl,H8⟩ ?_;refine SS ?_;refine au (qD (v:=.agg (jy _)) rfl rfl) ak (by first|decide|simp) ?_;refine ab ?_;refine bM (fk (cs':=jy _) rfl rfl rfl rfl) ak (bU V.h V.h (by first|(simp;done)|exact⟨rfl,bC rfl⟩|(simp;omega)) (by rfl)) ?_;refine SS ?_;refine er ?_;refine aZ ?_;refine bd rfl rfl (j6 (vs:=cv _) rfl V.h V.h rfl) (fun hc=>⟨ak,(j9 V.h V.h oS)⟩) ?_;refine bd rfl rfl (eL (vs:=jy _) rfl rfl V.h V.h rfl) (fun hc=>⟨ak,(eM V.h V.h (by first|(simp;done)|omega|exact bC rfl))⟩) ?_;refine gc Bh ?_;refine bu ?_;refine gc jH ?_;refine aZ ?_;refine gc sQ ?_;refine ab ?_;refine aa (n1 ?_);refine bt ?_;refine aa ?_;exact mL (r:={ x with kind:=0,ins:=xH,to:=0,aR:=[],others:= -1 }) (by simp[eD,h,dt,ib,Bool.and_assoc,eh]) ⟨rfl,rfl,rfl,rfl,trivial⟩ rfl rfl (fun m=>by repeat' (first|exact trivial|exact cH (Tr.s _)|exact cH (du _)|exact cH (jd _)|exact mM|refine And.intro ?_ ?_))
  have h5:¬ x.kind=5:=by simpa using h
  clear h;refine ws ?_;refine ab ?_;refine aa (aO rfl (fun h=>?_) fun h=>?_)
  .have h:x.kind=6:=by simpa using h
   refine ws ?_;have rm:=rm (s:=x.name);have agH:=ie (l:=[x.a]);have ie:=ie (l:=x.args);have X:∀ {m:Mem},m 3=some (.cells [I x.a] 3)->jn prog [3] m [q8 f,.rs 3 0 1] [q8 f,aP [x.a]]:=fun hm=>⟨cH (kb lU lV f),AF hm oS (by rw[c3];rfl) (.cons (.s _) .nil),trivial⟩
   cases C:n5 x.name with
   |false=>
    rw[C] at rm;refine ab ?_;refine cl rm ?_;refine dG ?_;refine ab ?_;refine gc ie ?_;refine bt ?_;(iterate 3 refine z fun _ _=>?_);refine bu ?_;refine gc jH ?_;refine aZ ?_;refine gc sQ ?_;refine ab ?_;refine aa (n1 ?_);refine bt ?_;refine ax ?_;refine aa ?_;exact mL (r:={ x with kind:=0,name:=.empty,args:=[],a:=0,to:=0,aR:=[],others:= -1 }) (by simp[eD,h,dt,ib,Bool.and_assoc,eh,C]) ⟨rfl,rfl,rfl,rfl,trivial⟩ rfl rfl (fun m=>by repeat' (first|exact trivial|exact cH (Tr.s _)|exact cH (du _)|exact cH (jd _)|exact mM|refine And.intro ?_ ?_))
   |true=>
    rw[C] at rm;by_cases J:(x.args.length:Int)<=6
    rotate_left
    .have yz:decide ((x.args.length:Int)<=6)=false:=by simpa using J
     refine ab ?_;refine cl rm ?_;refine dG ?_;refine ab ?_;refine gc ie ?_;refine bt ?_;(iterate 3 refine z fun _ _=>?_);refine bu ?_;refine gc jH ?_;refine aZ ?_;refine gc sQ ?_;refine ab ?_;refine aa (n1 ?_);refine bt ?_;refine ax ?_;refine aa ?_;exact mL (r:={ x with kind:=0,name:=.empty,args:=[],a:=0,to:=0,aR:=[],others:= -1 }) (by simp[eD,h,dt,ib,Bool.and_assoc,eh,C,J]) ⟨rfl,rfl,rfl,rfl,trivial⟩ rfl rfl (fun m=>by repeat' (first|exact trivial|exact cH (Tr.s _)|exact cH (du _)|exact cH (jd _)|exact mM|refine And.intro ?_ ?_))
    have yz:decide ((x.args.length:Int)<=6)=true:=by simpa using J
    cases M:qO f.aT x.args with
    |false=>
     rw[M] at ie;refine ab ?_;refine cl rm ?_;refine dG ?_;refine ab ?_;refine gc ie ?_;refine bt ?_;(iterate 3 refine z fun _ _=>?_);refine bu ?_;refine gc jH ?_;refine aZ ?_;refine gc sQ ?_;refine ab ?_;refine aa (n1 ?_);refine bt ?_;refine ax ?_;refine aa ?_;exact mL (r:={ x with kind:=0,name:=.empty,args:=[],a:=0,to:=0,aR:=[],others:= -1 }) (by simp[eD,h,dt,ib,Bool.and_assoc,eh,C,J,M]) ⟨rfl,rfl,rfl,rfl,trivial⟩ rfl rfl (fun m=>by repeat' (first|exact trivial|exact cH (Tr.s _)|exact cH (du _)|exact cH (jd _)|exact mM|refine And.intro ?_ ?_))
    |true=>
     rw[M] at ie;by_cases U:x.a= -1
     .have nG:(x.a== -1)=true:=by simpa using U
      refine ab ?_;refine cl rm ?_;refine dG ?_;refine ab ?_;refine gc ie ?_;refine bt ?_;(iterate 2 refine z fun _ _=>?_);refine UP ?_;refine bu ?_;refine gc jH ?_;refine aZ ?_;refine gc sQ ?_;refine ab ?_;refine aa (n1 ?_);refine bt ?_;refine ax ?_;refine aa ?_;exact mL (r:={ x with kind:=0,name:=.empty,args:=[],a:=0,to:=0,aR:=[],others:= -1 }) (by simp[eD,h,dt,ib,Bool.and_assoc,eh,C,J,M,U]) ⟨rfl,rfl,rfl,rfl,trivial⟩ rfl rfl (fun m=>by repeat' (first|exact trivial|exact cH (Tr.s _)|exact cH (du _)|exact cH (jd _)|exact mM|refine And.intro ?_ ?_))
     .have nG:(x.a== -1)=false:=by simpa using U
      refine ab ?_;refine cl rm ?_;refine dG ?_;refine ab ?_;refine gc ie ?_;refine dG ?_;refine ab ?_;refine sg agH rfl rfl rfl rfl (X rfl) ak ?_;refine cr ?_;refine gc jH ?_;refine aZ ?_;refine gc sQ ?_;refine ab ?_;refine aa (n1 ?_);refine bt ?_;refine ax ?_;refine aa ?_;exact mL (r:={ x with kind:=0,name:=.empty,args:=[],a:=0,to:=0,aR:=[],others:= -1 }) (by simp[eD,h,dt,ib,Bool.and_assoc,eh,C,J,M,U,vR]) ⟨rfl,rfl,rfl,rfl,trivial⟩ rfl rfl (fun m=>by repeat' (first|exact trivial|exact cH (Tr.s _)|exact cH (du _)|exact cH (jd _)|exact mM|refine And.intro ?_ ?_))
  have h6:¬ x.kind=6:=by simpa using h
  clear h;refine ws ?_;refine ab ?_;refine aa (aO rfl (fun h=>?_) fun h=>?_)
  .have h:x.kind=7:=by simpa using h
   refine ws ?_;refine ab ?_;refine cl rm ?_;refine dG ?_;refine ab ?_;refine gc ie ?_;refine bu ?_;refine gc eZ ?_;refine cr ?_;refine gc jH ?_;refine ab ?_;refine aa (n1 ?_);refine dG ?_;refine aa ?_;exact mL (r:={ x with kind:=0,name:=.empty,args:=[],a:=0,to:=0 }) (by simp[eD,h,dt,ib,Bool.and_assoc,eh]) ⟨rfl,rfl,rfl,rfl,trivial⟩ rfl rfl (fun m=>by repeat' (first|exact trivial|exact cH (Tr.s _)|exact cH (du _)|exact cH (jd _)|exact mM|refine And.intro ?_ ?_))
  have h7:¬ x.kind=7:=by simpa using h
  clear h;refine ws ?_;refine ab ?_;refine aa (aO rfl (fun h=>?_) fun h=>?_)
  .have h:x.kind=8:=by simpa using h
   refine ws ?_;have ie:=ie (l:=[x.b]);have Ln:∀ {m:Mem},m 3=some (.cells [I x.b] 3)->jn prog [3] m [q8 f,.rs 3 0 1] [q8 f,aP [x.b]]:=fun hm=>⟨cH (kb lU lV f),AF hm oS (by rw[c3];rfl) (.cons (.s _) .nil),trivial⟩
   by_cases C:dy f.aT x.a=3
   .have nG:(dy f.aT x.a==3)=true:=by simpa using C
    refine ax ?_;refine cl eZ ?_;refine cr ?_;refine sg ie rfl rfl rfl rfl (Ln rfl) ak ?_;refine bu ?_;refine gc jH ?_;refine bu ?_;refine gc jH ?_;refine aZ ?_;refine gc sQ ?_;refine ab ?_;refine aa (n1 ?_);refine bt ?_;refine ax ?_;refine aa ?_;exact mL (r:={ x with kind:=0,a:=0,b:=0,to:=0,gN:=0,aR:=[],others:= -1 }) (by simp[eD,h,dt,ib,Bool.and_assoc,eh,C,vR]) ⟨rfl,rfl,rfl,rfl,trivial⟩ rfl rfl (fun m=>by repeat' (first|exact trivial|exact cH (Tr.s _)|exact cH (du _)|exact cH (jd _)|exact mM|refine And.intro ?_ ?_))
   .have nG:(dy f.aT x.a==3)=false:=by simpa using C
    refine ax ?_;refine cl eZ ?_;refine bu ?_;(iterate 2 refine z fun _ _=>?_);refine bu ?_;refine gc jH ?_;refine bu ?_;refine gc jH ?_;refine aZ ?_;refine gc sQ ?_;refine ab ?_;refine aa (n1 ?_);refine bt ?_;refine ax ?_;refine aa ?_;exact mL (r:={ x with kind:=0,a:=0,b:=0,to:=0,gN:=0,aR:=[],others:= -1 }) (by simp[eD,h,dt,ib,Bool.and_assoc,eh,C]) ⟨rfl,rfl,rfl,rfl,trivial⟩ rfl rfl (fun m=>by repeat' (first|exact trivial|exact cH (Tr.s _)|exact cH (du _)|exact cH (jd _)|exact mM|refine And.intro ?_ ?_))
  have h8:¬ x.kind=8:=by simpa using h
  clear h;refine ws ?_;refine ab ?_;refine aa (aO rfl (fun h=>?_) fun h=>?_)
  .have h:x.kind=9:=by simpa using h
   refine QD Yt ?_;refine iu ?_;refine gc eZ ?_;refine bt ?_;refine gc jH ?_;refine cr ?_;refine ct cG ?_;exact mL (r:={ x with kind:=0,a:=0,to:=0 }) (by simp[eD,h,dt,ib,Bool.and_assoc,eh]) ⟨rfl,rfl,rfl,rfl,trivial⟩ rfl rfl (fun m=>by repeat' (first|exact trivial|exact cH (Tr.s _)|exact cH (du _)|exact cH (jd _)|exact mM|refine And.intro ?_ ?_))
  .have h9:¬ x.kind=9:=by simpa using h
   refine Jn ?_;exact mL (r:={ x with kind:=0 }) (by simp[eD,h1,h2,h3,h4,h5,h6,h7,h8,h9]) ⟨rfl,rfl,rfl,rfl,trivial⟩ rfl rfl (fun m=>by repeat' (first|exact trivial|exact cH (Tr.s _)|exact cH (du _)|exact cH (jd _)|exact mM|refine And.intro ?_ ?_))
 .obtain⟨cells,n,hg,hl,hs⟩:=hs;refine⟨_,hg,aj ?_⟩;have gw:(cells.drop 0).take 15=cells:=by rw[List.drop_zero,df oG]
  have Mn:=Mn (x:=(eD f x).2);have agI:∀ {m:Mem},m 2=m 2->jn prog [2] m [.agg ((cells.drop 0).take 15)] [.agg (bw (eD f x).2)]:=fun {m} _=>⟨adR (by rw[gw];exact hs m),trivial⟩
  have he:jh f x=((eD f x).1&&vU (eD f x).2):=rfl;generalize (eD f x).1=ok at he;cases ok with
  |true=>
   refine ax ?_;refine sg Mn rfl rfl rfl rfl (agI rfl) ak ?_;refine ab ?_;refine aa (aF (d:=.s (.bool _)) rfl ?_);rw[he];simp
  |false=>
   refine ab ?_;(iterate 2 refine z fun _ _=>?_);refine ab ?_;refine aa (aF (d:=.s (.bool _)) rfl ?_);rw[he];simp
theorem uu{n:Int}(hn: -1000000<=n/\n<=1000000):aA prog 182 [I n] (I (mX n)):=by
 refine bj agJ (by simp[Tr.s]) (Tr.s _) ?_;rw[agK];refine ws ?_;refine SS ?_;refine er ?_;refine ax ?_;exact aa (aF rfl rfl)
theorem AY{x:cW}:aA prog 235 [.agg (cv x)] (I (ka x)):=by
 have bh:∀ a∈[D.agg (cv x)],Tr a:=.cons (.agg (xj x)) .nil;refine bj agL bh (Tr.s _) ?_;rw[agM];refine aw ?_;refine ab ?_;refine aa (bG (dB [(0,cv x,54)] eH (l:=[(1,.pt (cv x))]) eH) (aB (aj ?_)));refine ab ?_;refine aa (w7 ?_);refine iL (fun s=>aI prog s ⟨ay [(1,.pt (cv x)),(4,U8 x.op),(5,B (bO tC x.op))],fun _=>none,1⟩) (aj ?_) fun s hg=>⟨_,hg,?_⟩
 .refine ab ?_;refine aa (aO rfl (fun h=>cJ ?_) fun e1=>aj ?_)
  .have h:x.op=1:=by simpa using h
   refine av ⟨rfl,rfl,?_,trivial⟩;show D.s (.bool (x.op==1))=_;rw[h];rfl
  refine ab ?_;refine aa (aO rfl (fun h=>cJ ?_) fun e2=>aj ?_)
  .have h:x.op=2:=by simpa using h
   refine av ⟨rfl,rfl,?_,trivial⟩;show D.s (.bool (x.op==2))=_;rw[h];rfl
  refine ab ?_;refine aa (aO rfl (fun h=>cJ ?_) fun e3=>aj ?_)
  .have h:x.op=3:=by simpa using h
   refine av ⟨rfl,rfl,?_,trivial⟩;show D.s (.bool (x.op==3))=_;rw[h];rfl
  refine ab ?_;refine aa (aO rfl (fun h=>cJ ?_) fun e4=>aj ?_)
  .have h:x.op=4:=by simpa using h
   refine av ⟨rfl,rfl,?_,trivial⟩;show D.s (.bool (x.op==4))=_;rw[h];rfl
  refine ab ?_;refine aa (aO rfl (fun h=>cJ ?_) fun e5=>aj ?_)
  .have h:x.op=5:=by simpa using h
   refine av ⟨rfl,rfl,?_,trivial⟩;show D.s (.bool (x.op==5))=_;rw[h];rfl
  refine ab ?_;refine aa (aO rfl (fun h=>cJ ?_) fun e6=>aj ?_)
  .have h:x.op=6:=by simpa using h
   refine av ⟨rfl,rfl,?_,trivial⟩;show D.s (.bool (x.op==6))=_;rw[h];rfl
  refine ab ?_;refine aa (aO rfl (fun h=>cJ ?_) fun e7=>aj ?_)
  .have h:x.op=7:=by simpa using h
   refine av ⟨rfl,rfl,?_,trivial⟩;show D.s (.bool (x.op==7))=_;rw[h];rfl
  refine ab ?_;refine aa (aO rfl (fun h=>cJ ?_) fun e8=>aj ?_)
  .have h:x.op=8:=by simpa using h
   refine av ⟨rfl,rfl,?_,trivial⟩;show D.s (.bool (x.op==8))=_;rw[h];rfl
  refine ab ?_;refine aa (aO rfl (fun h=>cJ ?_) fun e9=>aj ?_)
  .have h:x.op=9:=by simpa using h
   refine av ⟨rfl,rfl,?_,trivial⟩;show D.s (.bool (x.op==9))=_;rw[h];rfl
  refine ab ?_;refine aa (aO rfl (fun h=>cJ ?_) fun C=>aj ?_)
  .have h:x.op=10:=by simpa using h
   refine av ⟨rfl,rfl,?_,trivial⟩;show D.s (.bool (x.op==10))=_;rw[h];rfl
  refine ab ?_;refine aa (aO rfl (fun h=>cJ ?_) fun NZ=>aj ?_)
  .have h:x.op=11:=by simpa using h
   refine av ⟨rfl,rfl,?_,trivial⟩;show D.s (.bool (x.op==11))=_;rw[h];rfl
  refine ab ?_;refine aa (aO rfl (fun h=>cJ ?_) fun M=>aj ?_)
  .have h:x.op=13:=by simpa using h
   refine av ⟨rfl,rfl,?_,trivial⟩;show D.s (.bool (x.op==13))=_;rw[h];rfl
  refine ab ?_;refine aa (aO rfl (fun h=>cJ ?_) fun U=>aj ?_)
  .have h:x.op=14:=by simpa using h
   refine av ⟨rfl,rfl,?_,trivial⟩;show D.s (.bool (x.op==14))=_;rw[h];rfl
  refine ab ?_;refine aa (aO rfl (fun h=>cJ ?_) fun N3=>sf ?_)
  .have h:x.op=17:=by simpa using h
   refine av ⟨rfl,rfl,?_,trivial⟩;show D.s (.bool (x.op==17))=_;rw[h];rfl
  refine ab ?_;refine aa ?_;refine av ⟨rfl,rfl,?_,trivial⟩;show D.s (.bool (x.op==19))=_;simp[bO,tC,e1,e2,e3,e4,e5,e6,e7,e8,e9,C,NZ,M,U,N3]
 refine aO rfl (fun h1=>?_) fun h1=>?_
 .refine ws ?_;refine ax ?_;refine aa (bJ (eu (bE (aF (d:=I x.to) rfl ?_))));simp[ka,h1]
 refine iL (fun s=>aI prog s ⟨ay [(1,.pt (cv x)),(4,U8 x.op),(23,B (bO xf x.op))],fun _=>none,1⟩) (aj ?_) fun s hg=>⟨_,hg,?_⟩
 .refine ab ?_;refine aa (aO rfl (fun h=>cJ ?_) fun X=>aj ?_)
  .have h:x.op=30:=by simpa using h
   refine av ⟨rfl,rfl,?_,trivial⟩;show D.s (.bool (x.op==30))=_;rw[h];rfl
  refine ab ?_;refine aa (aO rfl (fun h=>cJ ?_) fun N5=>aj ?_)
  .have h:x.op=31:=by simpa using h
   refine av ⟨rfl,rfl,?_,trivial⟩;show D.s (.bool (x.op==31))=_;rw[h];rfl
  refine ab ?_;refine aa (aO rfl (fun h=>cJ ?_) fun N6=>aj ?_)
  .have h:x.op=32:=by simpa using h
   refine av ⟨rfl,rfl,?_,trivial⟩;show D.s (.bool (x.op==32))=_;rw[h];rfl
  refine ab ?_;refine aa (aO rfl (fun h=>cJ ?_) fun N7=>aj ?_)
  .have h:x.op=33:=by simpa using h
   refine av ⟨rfl,rfl,?_,trivial⟩;show D.s (.bool (x.op==33))=_;rw[h];rfl
  refine ab ?_;refine aa (aO rfl (fun h=>cJ ?_) fun rE=>aj ?_)
  .have h:x.op=34:=by simpa using h
   refine av ⟨rfl,rfl,?_,trivial⟩;show D.s (.bool (x.op==34))=_;rw[h];rfl
  refine ab ?_;refine aa (aO rfl (fun h=>cJ ?_) fun J=>sf ?_)
  .have h:x.op=36:=by simpa using h
   refine av ⟨rfl,rfl,?_,trivial⟩;show D.s (.bool (x.op==36))=_;rw[h];rfl
  refine ab ?_;refine aa ?_;refine av ⟨rfl,rfl,?_,trivial⟩;show D.s (.bool (x.op==37))=_;simp[bO,xf,X,N5,N6,N7,rE,J]
 refine aO rfl (fun h2=>?_) fun h2=>?_
 .refine ws ?_;refine ax ?_;refine aa (bJ (eu (bE (aF (d:=I x.to) rfl ?_))));simp[ka,h2]
 refine vA (aj ?_);refine SS ?_;refine aa (aF (d:=I (-1)) rfl ?_);simp[ka,h1,h2]
theorem Mg{x:Argus.End}:aA prog 186 [.agg (bw x)] (I (jO x)):=by
 have J:∀ a∈[D.agg (bw x)],Tr a:=.cons (.agg (pB x)) .nil;have AY:=AY (x:=x.ins);refine bj agN J (Tr.s _) ?_;rw[agO];refine aw ?_;refine ab ?_;refine aa (bG (dB [(0,bw x,57)] eH (l:=[(1,.pt (bw x))]) eH) (aB (aj ?_)));refine ab ?_;refine aa (w7 (aj ?_));refine ab ?_;refine aa (aO rfl (fun h1=>?_) fun h1=>?_)
 .have h1:x.kind=5:=by simpa using h1
  refine ws ?_;refine ab ?_;refine cl AY ?_;refine SS ?_;refine aa (bJ (eu (bE (aF (d:=I (ka x.ins)) rfl ?_))));simp[jO,h1]
 have h1:¬ x.kind=5:=by simpa using h1
 refine iL (fun s=>aI prog s ⟨ay [(1,.pt (bw x)),(4,U8 x.kind),(10,B (bO [6,7] x.kind))],fun _=>none,1⟩) (aj ?_) fun s hg=>⟨_,hg,?_⟩
 .refine ab ?_;refine aa (aO rfl (fun h=>cJ ?_) fun e6=>sf ?_)
  .have h:x.kind=6:=by simpa using h
   refine av ⟨rfl,rfl,?_,trivial⟩;show D.s (.bool (x.kind==6))=_;rw[h];rfl
  refine ab ?_;refine aa ?_;refine av ⟨rfl,rfl,?_,trivial⟩;show D.s (.bool (x.kind==7))=_;simp[bO,e6]
 refine aO rfl (fun h2=>?_) fun h2=>?_
 .refine ws ?_;refine ax ?_;refine aa (bJ (eu (bE (aF (d:=I x.a) rfl ?_))));simp[jO,h1,h2]
 refine ws ?_;refine ab ?_;refine aa (aO rfl (fun C=>?_) fun C=>?_)
 .have C:x.kind=8:=by simpa using C
  refine ws ?_;refine ax ?_;refine aa (bJ (eu (bE (aF (d:=I x.b) rfl ?_))));simp[jO,h2,C];simp[bO]
 have C:¬ x.kind=8:=by simpa using C
 refine vA (aj ?_);refine SS ?_;refine aa (aF (d:=I (-1)) rfl ?_);simp[jO,h1,h2,C]
theorem rF{l:List Int}(hl:l.length<=100000):aA prog 93 [aP l] (aP l):=by
 have J:∀ a∈[aP l],Tr a:=.cons (du _) .nil;refine bj aki J (du _) ?_;rw[akj];have M:(l.map I).take (l.length*1)=l.map I:=df oS
 have last:AW prog cZ true (.seq (.region 3 (Z xI 3) false) .ret) (gY prog [.tmp 2] fun d x=>d=aP l) ⟨ay [(0,aP l)],fun _=>none,0⟩:=by
  refine aw ?_;refine ab ?_;refine iC (iw rfl rfl rfl V.h V.h (px M) rfl) ak ⟨V.h,rfl,(by first|omega|exact bC rfl|(simp;done)|(simp;omega)),oC,(by first|rfl|(simp;done)|(simp;omega)),(by unfold maxLen;first|omega|(simp;omega)),(by rw[b3];first|omega|(simp;omega)),(by first|(simp;done)|(simp;omega))⟩ ?_;refine SS ?_;refine aa (bG (dB [(1,l.map I,3)] eH (l:=[(2,aP l)]) ⟨?_,trivial⟩) (aF rfl rfl));show Bs _ [(1,l.map I,3)] (.rs 1 0 (0+l.length))=.sl (l.map I) l.length;rw[Nat.zero_add];exact vT c3 (df oS)
 refine ws ?_;refine SS ?_;refine aa ?_;refine iL (fun s=>aI prog s ⟨ay [(0,aP l)],fun _=>none,0⟩) (aj ?_) fun s hg=>⟨_,hg,last⟩
 cases l with
 |nil=>
  refine SS ?_;refine au (Gn rfl) ak V.h ?_;refine aa (RM rfl (aw ?_) (cJ (av eH)));refine SS ?_;exact aa (bG (xc (n0:=2) rfl) (bJ (bE (aF rfl rfl))))
 |cons a l=>
  have C:(a::l).length≠0:=by simp
  refine SS ?_;refine au (Gp rfl C) ak V.h ?_;exact aa (aO rfl (fun h=>oH) fun h=>cJ (av eH))
theorem Bd{x:cW}(hx:x.op=10\/x.op=38->x.args.length<=1000):aA prog 181 [.agg (cv x)] (aP (dZ x)):=by
 have bh:∀ a∈[D.agg (cv x)],Tr a:=.cons (.agg (xj x)) .nil;refine bj agP bh (du _) ?_;rw[agQ];refine aw ?_;refine ab ?_;refine aa (bG (dB [(0,cv x,54)] eH (l:=[(1,.pt (cv x))]) eH) (aB (aj ?_)));refine ab ?_;refine aa (w7 ?_);refine iL (fun s=>aI prog s ⟨ay [(1,.pt (cv x)),(4,U8 x.op),(5,B (bO tM x.op))],fun _=>none,1⟩) (aj ?_) fun s hg=>⟨_,hg,?_⟩
 .refine ab ?_;refine aa (aO rfl (fun h=>cJ ?_) fun e2=>aj ?_)
  .have h:x.op=2:=by simpa using h
   refine av ⟨rfl,rfl,?_,trivial⟩;show D.s (.bool (x.op==2))=_;rw[h];rfl
  refine ab ?_;refine aa (aO rfl (fun h=>cJ ?_) fun e8=>aj ?_)
  .have h:x.op=8:=by simpa using h
   refine av ⟨rfl,rfl,?_,trivial⟩;show D.s (.bool (x.op==8))=_;rw[h];rfl
  refine ab ?_;refine aa (aO rfl (fun h=>cJ ?_) fun NZ=>aj ?_)
  .have h:x.op=11:=by simpa using h
   refine av ⟨rfl,rfl,?_,trivial⟩;show D.s (.bool (x.op==11))=_;rw[h];rfl
  refine ab ?_;refine aa (aO rfl (fun h=>cJ ?_) fun N1=>aj ?_)
  .have h:x.op=13:=by simpa using h
   refine av ⟨rfl,rfl,?_,trivial⟩;show D.s (.bool (x.op==13))=_;rw[h];rfl
  refine ab ?_;refine aa (aO rfl (fun h=>cJ ?_) fun N2=>aj ?_)
  .have h:x.op=14:=by simpa using h
   refine av ⟨rfl,rfl,?_,trivial⟩;show D.s (.bool (x.op==14))=_;rw[h];rfl
  refine ab ?_;refine aa (aO rfl (fun h=>cJ ?_) fun N8=>aj ?_)
  .have h:x.op=15:=by simpa using h
   refine av ⟨rfl,rfl,?_,trivial⟩;show D.s (.bool (x.op==15))=_;rw[h];rfl
  refine ab ?_;refine aa (aO rfl (fun h=>cJ ?_) fun N9=>aj ?_)
  .have h:x.op=16:=by simpa using h
   refine av ⟨rfl,rfl,?_,trivial⟩;show D.s (.bool (x.op==16))=_;rw[h];rfl
  refine ab ?_;refine aa (aO rfl (fun h=>cJ ?_) fun U=>sf ?_)
  .have h:x.op=18:=by simpa using h
   refine av ⟨rfl,rfl,?_,trivial⟩;show D.s (.bool (x.op==18))=_;rw[h];rfl
  refine ab ?_;refine aa ?_;refine av ⟨rfl,rfl,?_,trivial⟩;show D.s (.bool (x.op==36))=_;simp[bO,tM,e2,e8,NZ,N1,N2,N8,N9,U]
 refine aO rfl (fun h1=>?_) fun h1=>?_
 .refine aw ?_;refine aZ ?_;refine aa (bG (dB [(1,([x.a]).map I,3)] eH (l:=[(2,aP ([x.a]))]) ⟨vT c3 rfl,trivial⟩) (bJ (eu (bE (aF (d:=aP ([x.a])) rfl ?_)))));exact congrArg aP (by unfold dZ;rw[if_pos h1])
 refine iL (fun s=>aI prog s ⟨ay [(1,.pt (cv x)),(4,U8 x.op),(18,B (bO xr x.op))],fun _=>none,1⟩) (aj ?_) fun s hg=>⟨_,hg,?_⟩
 .refine ab ?_;refine aa (aO rfl (fun h=>cJ ?_) fun e3=>aj ?_)
  .have h:x.op=3:=by simpa using h
   refine av ⟨rfl,rfl,?_,trivial⟩;show D.s (.bool (x.op==3))=_;rw[h];rfl
  refine ab ?_;refine aa (aO rfl (fun h=>cJ ?_) fun e4=>aj ?_)
  .have h:x.op=4:=by simpa using h
   refine av ⟨rfl,rfl,?_,trivial⟩;show D.s (.bool (x.op==4))=_;rw[h];rfl
  refine ab ?_;refine aa (aO rfl (fun h=>cJ ?_) fun e5=>aj ?_)
  .have h:x.op=5:=by simpa using h
   refine av ⟨rfl,rfl,?_,trivial⟩;show D.s (.bool (x.op==5))=_;rw[h];rfl
  refine ab ?_;refine aa (aO rfl (fun h=>cJ ?_) fun e6=>aj ?_)
  .have h:x.op=6:=by simpa using h
   refine av ⟨rfl,rfl,?_,trivial⟩;show D.s (.bool (x.op==6))=_;rw[h];rfl
  refine ab ?_;refine aa (aO rfl (fun h=>cJ ?_) fun e7=>aj ?_)
  .have h:x.op=7:=by simpa using h
   refine av ⟨rfl,rfl,?_,trivial⟩;show D.s (.bool (x.op==7))=_;rw[h];rfl
  refine ab ?_;refine aa (aO rfl (fun h=>cJ ?_) fun M=>aj ?_)
  .have h:x.op=12:=by simpa using h
   refine av ⟨rfl,rfl,?_,trivial⟩;show D.s (.bool (x.op==12))=_;rw[h];rfl
  refine ab ?_;refine aa (aO rfl (fun h=>cJ ?_) fun N4=>aj ?_)
  .have h:x.op=30:=by simpa using h
   refine av ⟨rfl,rfl,?_,trivial⟩;show D.s (.bool (x.op==30))=_;rw[h];rfl
  refine ab ?_;refine aa (aO rfl (fun h=>cJ ?_) fun N5=>aj ?_)
  .have h:x.op=31:=by simpa using h
   refine av ⟨rfl,rfl,?_,trivial⟩;show D.s (.bool (x.op==31))=_;rw[h];rfl
  refine ab ?_;refine aa (aO rfl (fun h=>cJ ?_) fun N6=>aj ?_)
  .have h:x.op=32:=by simpa using h
   refine av ⟨rfl,rfl,?_,trivial⟩;show D.s (.bool (x.op==32))=_;rw[h];rfl
  refine ab ?_;refine aa (aO rfl (fun h=>cJ ?_) fun N7=>aj ?_)
  .have h:x.op=33:=by simpa using h
   refine av ⟨rfl,rfl,?_,trivial⟩;show D.s (.bool (x.op==33))=_;rw[h];rfl
  refine ab ?_;refine aa (aO rfl (fun h=>cJ ?_) fun rE=>aj ?_)
  .have h:x.op=34:=by simpa using h
   refine av ⟨rfl,rfl,?_,trivial⟩;show D.s (.bool (x.op==34))=_;rw[h];rfl
  refine ab ?_;refine aa (aO rfl (fun h=>cJ ?_) fun X=>sf ?_)
  .have h:x.op=35:=by simpa using h
   refine av ⟨rfl,rfl,?_,trivial⟩;show D.s (.bool (x.op==35))=_;rw[h];rfl
  refine ab ?_;refine aa ?_;refine av ⟨rfl,rfl,?_,trivial⟩;show D.s (.bool (x.op==37))=_;simp[bO,xr,e3,e4,e5,e6,e7,M,N4,N5,N6,N7,rE,X]
 refine aO rfl (fun h2=>?_) fun h2=>?_
 .refine aw ?_;refine cr ?_;refine aa (bG (dB [(1,([x.a,x.b]).map I,3)] eH (l:=[(2,aP ([x.a,x.b]))]) ⟨vT c3 rfl,trivial⟩) (bJ (eu (bE (aF (d:=aP ([x.a,x.b])) rfl ?_)))));exact congrArg aP (by unfold dZ;rw[if_neg (by simp[h1]),if_pos h2])
 refine ws ?_;refine ab ?_;refine aa (aO rfl (fun C=>?_) fun C=>?_)
 .have C:x.op=10:=by simpa using C
  have rF:=rF (l:=x.args) (by have:=hx (.inl C);omega);refine ws ?_;refine ab ?_;refine cl rF ?_;refine SS ?_;refine aa (bJ (eu (bE (aF (d:=aP x.args) rfl ?_))));exact congrArg aP (by unfold dZ;rw[if_neg (by simp[h1]),if_neg (by simp[h2]),if_pos C])
 have C:¬ x.op=10:=by simpa using C
 refine ws ?_;refine ab ?_;refine aa (aO rfl (fun J=>?_) fun J=>?_)
 .have J:x.op=38:=by simpa using J
  have hl:=hx (.inr J);have hD:(x.args.map I).take (x.args.length*1)=x.args.map I:=df oS;refine aw ?_;refine iu ?_;refine iC (iw rfl rfl rfl V.h V.h (px hD) rfl) ak ⟨V.h,rfl,(by first|omega|exact bC rfl|(simp;done)|(simp;omega)),oC,(by first|rfl|(simp;done)|(simp;omega)),(by unfold maxLen;first|omega|(simp;omega)),(by rw[b3];first|omega|(simp;omega)),(by first|(simp;done)|(simp;omega))⟩ ?_;refine SS ?_;refine aa (bG (dB [(2,(x.a::x.b::x.args).map I,3)] eH (l:=[(2,aP (x.a::x.b::x.args))]) ⟨?_,trivial⟩) (bJ (eu (bE (aF (d:=aP (x.a::x.b::x.args)) rfl ?_)))))
  .show Bs _ [(2,_,3)] (.rs 2 0 (2+x.args.length))=_;refine(vT c3 (es:=(x.a::x.b::x.args).map I) (df oP)).trans ?_;rw[Nat.add_comm];rfl
  .exact congrArg aP (by unfold dZ;rw[if_neg (by simp[h1]),if_neg (by simp[h2]),if_neg C,if_pos J])
 have J:¬ x.op=38:=by simpa using J
 refine vA (aw ?_);refine SS ?_;refine aa (bG (xc (n0:=2) rfl) (aF (d:=aP []) rfl ?_));exact congrArg aP (by unfold dZ;rw[if_neg (by simp[h1]),if_neg (by simp[h2]),if_neg C,if_neg J])
theorem Mh{x:Argus.End}(hx:x.kind=5->x.ins.op=10\/x.ins.op=38->x.ins.args.length<=1000)(hy:x.kind=6\/x.kind=7->x.args.length<=1000):aA prog 184 [.agg (bw x)] (aP (dT x)):=by
 have M:∀ a∈[D.agg (bw x)],Tr a:=.cons (.agg (pB x)) .nil;refine bj agR M (du _) ?_;rw[agS];refine aw ?_;refine ab ?_;refine aa (bG (dB [(0,bw x,57)] eH (l:=[(1,.pt (bw x))]) eH) (aB (aj ?_)));refine ab ?_;refine aa (w7 ?_);refine iL (fun s=>aI prog s ⟨ay [(1,.pt (bw x)),(4,U8 x.kind),(5,B (bO [2,8,9] x.kind))],fun _=>none,1⟩) (aj ?_) fun s hg=>⟨_,hg,?_⟩
 .refine ab ?_;refine aa (aO rfl (fun h=>cJ ?_) fun e2=>aj ?_)
  .have h:x.kind=2:=by simpa using h
   refine av ⟨rfl,rfl,?_,trivial⟩;show D.s (.bool (x.kind==2))=_;rw[h];rfl
  refine ab ?_;refine aa (aO rfl (fun h=>cJ ?_) fun e8=>sf ?_)
  .have h:x.kind=8:=by simpa using h
   refine av ⟨rfl,rfl,?_,trivial⟩;show D.s (.bool (x.kind==8))=_;rw[h];rfl
  refine ab ?_;refine aa ?_;refine av ⟨rfl,rfl,?_,trivial⟩;show D.s (.bool (x.kind==9))=_;simp[bO,e2,e8]
 refine aO rfl (fun h1=>?_) fun h1=>?_
 .refine aw ?_;refine aZ ?_;refine aa (bG (dB [(1,([x.a]).map I,3)] eH (l:=[(2,aP ([x.a]))]) ⟨vT c3 rfl,trivial⟩) (bJ (eu (bE (aF (d:=aP ([x.a])) rfl ?_)))));exact congrArg aP (by unfold dT;rw[if_pos h1])
 refine ws ?_;refine ab ?_;refine aa (aO rfl (fun h2=>?_) fun h2=>?_)
 .have h2:x.kind=3:=by simpa using h2
  refine ws ?_;refine ax ?_;refine aa (aO rfl (fun C=>?_) fun C=>?_)
  .have C:¬ x.a= -1:=by simpa[bne,ib] using C
   refine aw ?_;refine aZ ?_;refine aa (bG (dB [(1,([x.a]).map I,3)] eH (l:=[(2,aP ([x.a]))]) ⟨vT c3 rfl,trivial⟩) (bJ (eu (bE (aF (d:=aP ([x.a])) rfl ?_)))));exact congrArg aP (by unfold dT;rw[if_neg (by simp[h1]),if_pos h2,if_pos C])
  .have C:x.a= -1:=by simpa[bne,ib] using C
   refine vA (aw ?_);refine SS ?_;refine aa (bG (xc (n0:=2) rfl) (aF (d:=aP []) rfl ?_));exact congrArg aP (by unfold dT;rw[if_neg (by simp[h1]),if_pos h2,if_neg (by simp[C])])
 have h2:¬ x.kind=3:=by simpa using h2
 refine ws ?_;refine ab ?_;refine aa (aO rfl (fun C=>?_) fun C=>?_)
 .have C:x.kind=5:=by simpa using C
  have Bd:=Bd (x:=x.ins) (hx C);refine ws ?_;refine ab ?_;refine cl Bd ?_;refine SS ?_;refine aa (bJ (eu (bE (aF (d:=aP (dZ x.ins)) rfl ?_))));exact congrArg aP (by unfold dT;rw[if_neg (by simp[h1]),if_neg h2,if_pos C])
 have C:¬ x.kind=5:=by simpa using C
 refine iL (fun s=>aI prog s ⟨ay [(1,.pt (bw x)),(4,U8 x.kind),(25,B (bO [6,7] x.kind))],fun _=>none,1⟩) (aj ?_) fun s hg=>⟨_,hg,?_⟩
 .refine ab ?_;refine aa (aO rfl (fun h=>cJ ?_) fun e6=>sf ?_)
  .have h:x.kind=6:=by simpa using h
   refine av ⟨rfl,rfl,?_,trivial⟩;show D.s (.bool (x.kind==6))=_;rw[h];rfl
  refine ab ?_;refine aa ?_;refine av ⟨rfl,rfl,?_,trivial⟩;show D.s (.bool (x.kind==7))=_;simp[bO,e6]
 refine aO rfl (fun J=>?_) fun J=>?_
 .have U:x.kind=6\/x.kind=7:=by simpa[bO] using J
  have rF:=rF (l:=x.args) (by have:=hy U;omega);refine ws ?_;refine ab ?_;refine cl rF ?_;refine SS ?_;refine aa (bJ (eu (bE (aF (d:=aP x.args) rfl ?_))));exact congrArg aP (by unfold dT;rw[if_neg (by simp[h1]),if_neg h2,if_neg C,if_pos J])
 refine vA (aw ?_);refine SS ?_;refine aa (bG (xc (n0:=2) rfl) (aF (d:=aP []) rfl ?_));exact congrArg aP (by unfold dT;rw[if_neg (by simp[h1]),if_neg h2,if_neg C,if_neg (by simp[J])])
end Go.Proofs.Tryz.K
end
namespace Go.Abs
instance(d:D):Decidable d.ask:=match d with
 | .cn c _=>inferInstanceAs (Decidable (c=true))
 | .u | .s _ | .ub | .agg _ | .aL _ | .z | .sl _ _ | .sc _ _ | .pt _ | .rs _ _ _ | .rp _ _ | .mp _ | .im _ | .fn _ _ _=>isTrue trivial
structure eY where
 pre:Prop
 [dec:Decidable pre]
 val:D
 aQ:List (Nat×Option Row):=[]
 rd:List Nat:=[]
 new:Nat:=0
structure PD(α:Type) where
 p:Prop
 [dec:Decidable p]
 d:α
def eY.iG(e:eY):dw:=⟨e.pre,e.val,e.aQ,e.rd,e.new⟩
def GP(op:BinOp)(x y:Value):Option (PD Value):=
 match op,x,y with
 | .shl,.int k a,.int _ b=>some ⟨0<=b,.int k (k.wrap (a*2 ^ (min b.toNat k.bits)))⟩
 | .shr,.int k a,.int _ b=>some ⟨0<=b,.int k (a.fdiv (2 ^ (min b.toNat k.bits)))⟩
 | .add,.int k a,.int k' b=>some ⟨k=k',.int k (k.wrap (a+b))⟩
 | .sub,.int k a,.int k' b=>some ⟨k=k',.int k (k.wrap (a - b))⟩
 | .mul,.int k a,.int k' b=>some ⟨k=k',.int k (k.wrap (a*b))⟩
 | .quo,.int k a,.int k' b=>some ⟨k=k'/\b≠0,.int k (k.wrap (a.tdiv b))⟩
 | .rem,.int k a,.int k' b=>some ⟨k=k'/\b≠0,.int k (a.tmod b)⟩
 | .and,.int k a,.int k' b=>some ⟨k=k',.int k (lA .and k a b)⟩
 | .or,.int k a,.int k' b=>some ⟨k=k',.int k (lA .or k a b)⟩
 | .xor,.int k a,.int k' b=>some ⟨k=k',.int k (lA .xor k a b)⟩
 | .andNot,.int k a,.int k' b=>some ⟨k=k',.int k (lA .andNot k a b)⟩
 | .eql,.int k a,.int k' b=>some ⟨k=k',.bool (a==b)⟩
 | .neq,.int k a,.int k' b=>some ⟨k=k',.bool (a !=b)⟩
 | .lss,.int k a,.int k' b=>some ⟨k=k',.bool (decide (a<b))⟩
 | .leq,.int k a,.int k' b=>some ⟨k=k',.bool (decide (a<=b))⟩
 | .gtr,.int k a,.int k' b=>some ⟨k=k',.bool (decide (b<a))⟩
 | .geq,.int k a,.int k' b=>some ⟨k=k',.bool (decide (b<=a))⟩
 | .eql,.string a,.string b=>some ⟨True,.bool (a.toList==b.toList)⟩
 | .neq,.string a,.string b=>some ⟨True,.bool !(a.toList==b.toList)⟩
 | .lss,.string a,.string b=>some ⟨True,.bool (Op.bytesLess a.toList b.toList)⟩
 | .geq,.string a,.string b=>some ⟨True,.bool !(Op.bytesLess a.toList b.toList)⟩
 |_,_,_=>none
def JO(P:Program)(op:BinOp)(t:TypeId)(xs ys:List D):Option (PD D):=
 match op,vI P t,ot xs ys with
 | .eql,some ks,some q=>some ⟨q.1.map jE=ks/\P.eqGuardType P.depth t=false,.s (.bool (gK q.1 q.2))⟩
 | .neq,some ks,some q=>some ⟨q.1.map jE=ks/\P.eqGuardType P.depth t=false,.s (.bool !(gK q.1 q.2))⟩
 |_,_,_=>none
def KZ(P:Program)(op:BinOp)(t:TypeId)(x y:D):Option (PD D):=
 match x,y with
 | .s (.bool a),.s (.bool b)=>match op with
  | .eql=>some ⟨wD P t=true,.s (.bool (a==b))⟩
  | .neq=>some ⟨wD P t=true,.s (.bool !(a==b))⟩
  |_=>none
 | .s a,.s b=>(GP op a b).map fun r=> @PD.mk _ r.p r.dec (.s r.d)
 | .agg xs,.agg ys=>JO P op t xs ys
 |_,_=>none
def GQ(P:Program)(m:Mem)(op:BinOp)(t:TypeId)(x:D)(y:Operand):Option eY:=
 match y,op,x with
 | .const (.slice none 0 0),.eql,.sl _ n=>some { pre:=bi P t=true,val:=if n=0 then .ub else .s (.bool false) }
 | .const (.pointer none),.eql,.rp i _=>match m i with
  |some _=>some { pre:=wE P t=true,val:=.s (.bool false),rd:=[i] }
  |none=>none
 | .const (.pointer none),.neq,.rp i _=>match m i with
  |some _=>some { pre:=wE P t=true,val:=.s (.bool true),rd:=[i] }
  |none=>none
 |_,_,_=>none
def K0(P:Program)(m:Mem)(t:TypeId):D->Option eY
 | .sl _ n=>some { pre:=bi P t=true,val:=.s (.int .i64 n) }
 | .rs i _ n=>match m i with
  |some _=>some { pre:=bi P t=true,val:=.s (.int .i64 n),rd:=[i] }
  |none=>none
 | .z=>some { pre:=bi P t=true,val:=.s (.int .i64 0) }
 | .s (.string b)=>some { pre:=fL P t=true,val:=.s (.int .i64 b.size) }
 | .agg _=>some { pre:=nM P t=true,val:=.s (.int .i64 (oq P t)) }
 |_=>none
def EI(m:Mem)(sz:Nat):D->Option (PD (List Nat×Nat×List D))
 | .sl es n=>some ⟨n*sz<=es.length,([],n,es.take (n*sz))⟩
 | .z=>some ⟨True,([],0,[])⟩
 | .rs i off n=>match m i with
  |some (.cells cs _)=>some ⟨off+n*sz<=cs.length,([i],n,(cs.drop off).take (n*sz))⟩
  |_=>none
 |_=>none
def Ji(P:Program)(m:Mem)(nx:Nat)(t:TypeId)(s x:D):Option eY:=
 let e:=aD P t
 let sz:=P.cellsOf e
 match EI m sz x with
 |none=>none
 |some (@PD.mk _ p _ (rd,k,news))=>
  match s with
  | .z=>some { pre:=bi P t=true/\p/\0<sz/\k<=maxLen/\k*P.bytesOf e<=140737488355328,val:=.rs nx 0 k,aQ:=[(nx,some (.cells news e))],rd:=rd,new:=1 }
  | .rs i off n=>match m i with
   |some (.cells cs e')=>some { pre:=bi P t=true/\e'=e/\p/\0<sz/\off+n*sz=cs.length/\n+k<=maxLen/\(n+k)*P.bytesOf e<=140737488355328/\i∉rd,val:=.rs nx 0 (n+k),aQ:=[(i,none),(nx,some (.cells (cs.drop off++news) e))],rd:=i::rd,new:=1 }
   |_=>none
  |_=>none
def Jj(P:Program)(m:Mem)(t:TypeId)(x k:D)(ok:Bool):Option eY:=match pY k,x with
 |some key,.mp i=>match m i with
  |some (.map es)=>some { pre:=fI P t=true/\cC P (ez P t) key=true/\es.all (fun e=>cC P (ez P t) e.1)=true,val:=fv P t ok (cN key es),rd:=[i] }
  |_=>none
 |some key,.im es=>some { pre:=fI P t=true/\cC P (ez P t) key=true/\es.all (fun e=>cC P (ez P t) e.1)=true,val:=fv P t ok (cN key es) }
 |some key,.s (.map none)=>some { pre:=fI P t=true/\cC P (ez P t) key=true,val:=fv P t ok none }
 |_,_=>none
def E8(P:Program)(m:Mem)(t:TypeId)(x k v:D):Option eY:=match pY k,x with
 |some key,.mp i=>match m i with
  |some (.map es)=>some { pre:=fI P t=true/\cC P (ez P t) key=true/\es.all (fun e=>cC P (ez P t) e.1)=true,val:=.aL [],aQ:=[(i,some (.map (fV key v es)))],rd:=[i] }
  |_=>none
 |_,_=>none
def Jk(P:Program)(m:Mem)(t:TypeId)(x k:D):Option eY:=match pY k,x with
 |some key,.mp i=>match m i with
  |some (.map es)=>some { pre:=fI P t=true/\cC P (ez P t) key=true/\es.all (fun e=>cC P (ez P t) e.1)=true,val:=.aL [],aQ:=[(i,some (.map (sH key es)))],rd:=[i] }
  |_=>none
 |_,_=>none
def ET(P:Program)(m:Mem)(nx:Nat)(b:Builtin)(ts:Array TypeId)(args:List D):Option eY:=
 match b,args with
 | .len,[x]=>K0 P m (ts.getD 0 0) x
 | .append,[s,x]=>if ts.getD 0 0=ts.getD 1 0 then Ji P m nx (ts.getD 0 0) s x else none
 | .min,[.s (.int k a),.s (.int k' b)]=>some { pre:=k=k',val:=.s (.int k (if b<a then b else a)) }
 | .clear,[.rs i off n]=>match m i with
  |some (.cells cs e)=>some { pre:=bi P (ts.getD 0 0)=true/\off+n*P.cellsOf e<=cs.length/\e=aD P (ts.getD 0 0),val:=.aL [],aQ:=[(i,some (.cells (gC cs off (dC n (a6 P e))) e))],rd:=[i] }
  |_=>none
 | .delete,[x,k]=>Jk P m (ts.getD 0 0) x k
 |_,_=>none
def JP(P:Program)(m:Mem)(t:TypeId)(x:D)(lo hi C:Option D):Option eY:=
 match x with
 | .sl es n=>match dW lo 0,dW hi n,C with
  |some l,some h,none=>some { pre:=bi P t=true/\0<=l/\l<=h/\h<=n,val:=.sl ((es.drop (l.toNat*P.cellsOf (aD P t))).take ((h - l).toNat*P.cellsOf (aD P t))) (h - l).toNat }
  |some l,some h,some d=>match d.int? with
   |some k=>some { pre:=bi P t=true/\hi.isSome=true/\0<=l/\l<=h/\h<=k/\k<=n,val:=.sl ((es.drop (l.toNat*P.cellsOf (aD P t))).take ((h - l).toNat*P.cellsOf (aD P t))) (h - l).toNat }
   |none=>none
  |_,_,_=>none
 | .rs i off n=>match m i with
  |some (.cells _ e)=>match dW lo 0,dW hi n,C with
   |some l,some h,none=>some { pre:=(bi P t=true/\P.cellsOf e=P.cellsOf (aD P t))/\0<=l/\l<=h/\h<=n,val:=.rs i (off+l.toNat*P.cellsOf (aD P t)) (h - l).toNat,rd:=[i] }
   |_,_,_=>none
  |_=>none
 | .s (.string b)=>match dW lo 0,dW hi b.size,C with
  |some l,some h,none=>some { pre:=fL P t=true/\0<=l/\l<=h/\h<=b.size,val:=.s (.string (b.extract l.toNat h.toNat)) }
  |_,_,_=>none
 |_=>none
def jG(P:Program)(o:Op)(ρ:Operand->D)(m:Mem)(nx:Nat):Option eY:=
 match o with
 | .move x=>some { pre:=True,val:=ρ x }
 | .assign x=>some { pre:=True,val:=ρ x }
 | .pick c a b=>match (ρ c).core.eX with
  |some t=>some { pre:=(t=true->(ρ a).ask/\(ρ a).core.eX.isSome=true)/\(t=false->(ρ b).ask/\(ρ b).core.eX.isSome=true),val:=.s (.bool (if t then(ρ a).core.eX.getD false else(ρ b).core.eX.getD false)) }
  |none=>none
 | .alloc t=>some { pre:=aH P t=true,val:=.rp nx 0,aQ:=[(nx,some (.cells (a6 P t) t))],new:=1 }
 | .box t x=>some { pre:=(ρ x).cells.all D.one=true,val:=.rp nx 0,aQ:=[(nx,some (.cells (ρ x).cells t))],new:=1 }
 | .build t ps=>match P.underlying t with
  |some (.struct fs)=>(gG (fun i=>(fs[i]?).map fun f=>(f.offset,P.cellsOf f.type)) (a6 P t) (ps.toList.map fun q=>(q.1,ρ q.2))).map fun cs=>{ pre:=aH P t=true/\fs.toList.all (fun f=>(P.info? f.type).isSome)=true,val:=.agg cs }
  |some (.array _ e)=>(gG (fun i=>some (i*P.cellsOf e,P.cellsOf e)) (a6 P t) (ps.toList.map fun q=>(q.1,ρ q.2))).map fun cs=>{ pre:=aH P t=true/\aH P e=true,val:=.agg cs }
  |_=>none
 | .buildSlice t n ps=>(gG (fun i=>some (i*P.cellsOf (aD P t),P.cellsOf (aD P t))) (dC n (a6 P (aD P t))) (ps.toList.map fun q=>(q.1,ρ q.2))).map fun cs=>
   { pre:=cs.all D.one=true/\n*P.cellsOf (aD P t)<=2 ^ 24/\bi P t=true/\n<=maxLen,val:=.rs nx 0 n,aQ:=[(nx,some (.cells cs (aD P t)))],new:=1 }
 | .load t a=>match ρ a with
  | .pt cs=>some { pre:=aH P t=true/\P.cellsOf t<=cs.length,val:=gF P t cs }
  | .rp i off=>match m i with
   |some (.cells cs _)=>some { pre:=aH P t=true/\off+P.cellsOf t<=cs.length,val:=gF P t (cs.drop off),rd:=[i] }
   |_=>none
  |_=>none
 | .store t a x=>match ρ a with
  | .rp i off=>match m i with
   |some (.cells cs e)=>some { pre:=aH P t=true/\(ρ x).cells.length=P.cellsOf t/\off+P.cellsOf t<=cs.length/\(ρ x).cells.all D.one=true,val:=.aL [],aQ:=[(i,some (.cells (gC cs off (ρ x).cells) e))],rd:=[i] }
   |_=>none
  |_=>none
 | .nilCheck x=>match ρ x with
  | .pt cs=>some { pre:=True,val:=.pt cs }
  | .rp i off=>match m i with
   |some _=>some { pre:=True,val:=.rp i off,rd:=[i] }
   |none=>none
  |_=>none
 | .binOp op t x y _=>match GQ P m op t (ρ x) y with
  |some e=>some e
  |none=>(KZ P op t (ρ x) (ρ y)).map fun r=> @eY.mk r.p r.dec r.d [] [] 0
 | .unOp op _ x=>match ρ x with
  | .s v=>(yU op v).map fun r=>{ pre:=True,val:=.s r }
  |_=>none
 | .convert src dst x=>match P.underlying dst,ρ x with
  |some (.int k),.s (.int _ n)=>some { pre:=aH P src=true,val:=.s (.int k (k.wrap n)) }
  |some (.slice e),.s (.string b)=>match P.underlying e with
   |some (.int .u8)=>some { pre:=fL P src=true/\b.size<=maxLen,val:=.sl (b.data.toList.map fun c=>.s (.int .u8 c.toNat)) b.size }
   |_=>none
  |_,_=>none
 | .makeFunc f fs cs=>some { pre:=True,val:=.fn f (fs.toList.map ρ) (cs.toList.map ρ) }
 | .makeMap _ r=>match r with
  |none=>some { pre:=True,val:=.mp nx,aQ:=[(nx,some (.map []))],new:=1 }
  |some _=>none
 | .makeSlice t l c=>match ρ l,ρ c with
  | .s (.int .i64 n),.s (.int .i64 k)=>some { pre:=0<=n/\n=k/\n<=9223372036854775807/\P.bytesOf (aD P t)*n<=281474976710656/\bi P t=true,val:=.rs nx 0 n.toNat,aQ:=[(nx,some (.cells (dC n.toNat (a6 P (aD P t))) (aD P t)))],new:=1 }
  |_,_=>none
 | .lookup t x k ok=>Jj P m t (ρ x) (ρ k) ok
 | .mapUpdate t x k v=>E8 P m t (ρ x) (ρ k) (ρ v)
 | .insert t x k v=>E8 P m t (ρ x) (ρ k) (ρ v)
 | .slice t x lo hi C=>JP P m t (ρ x) (lo.map ρ) (hi.map ρ) (C.map ρ)
 | .fieldAddr t x k=>match bX P t k,ρ x with
  |some (off,ft),.pt cs=>some { pre:=0<P.cellsOf ft,val:=.pt (cs.drop off) }
  |some (off,ft),.rp i o=>match m i with
   |some _=>some { pre:=0<P.cellsOf ft,val:=.rp i (o+off),rd:=[i] }
   |none=>none
  |_,_=>none
 | .field t x k=>match bX P t k,ρ x with
  |some (off,ft),.agg cs=>some { pre:=aH P ft=true/\off+P.cellsOf ft<=cs.length,val:=gF P ft (cs.drop off) }
  |_,_=>none
 | .indexAddr t x i=>match ρ x,ρ i with
  | .sl es n,.s (.int _ k)=>some { pre:=bi P t=true/\0<=k/\k<n/\(k.toNat+1)*P.cellsOf (aD P t)<=es.length,val:=.pt (es.drop (k.toNat*P.cellsOf (aD P t))) }
  | .rs j off n,.s (.int _ k)=>match m j with
   |some _=>some { pre:=bi P t=true/\0<=k/\k<n,val:=.rp j (off+k.toNat*P.cellsOf (aD P t)),rd:=[j] }
   |none=>none
  | .rp j off,.s (.int _ k)=>match m j with
   |some _=>some { pre:=nM P t=true/\0<=k/\k<oq P t,val:=.rp j (off+k.toNat*P.cellsOf (aD P t)),rd:=[j] }
   |none=>none
  |_,_=>none
 | .index t x i=>match ρ x,ρ i with
  | .s (.string b),.s (.int _ k)=>some { pre:=fL P t=true/\0<=k/\k<b.size,val:=.s (.int .u8 (b.data.toList.getD k.toNat 0).toNat) }
  | .agg cs,.s (.int _ k)=>some { pre:=nM P t=true/\0<=k/\k<oq P t/\(k.toNat+1)*P.cellsOf (aD P t)<=cs.length,val:=gF P (aD P t) (cs.drop (k.toNat*P.cellsOf (aD P t))) }
  |_,_=>none
 | .extract x k=>match ρ x with
  | .aL cs=>some { pre:=k<cs.length,val:=cs.getD k .u }
  |_=>none
 | .call c=>match c.callee with
  | .builtin b=>if c.argTypes.size=c.args.size then ET P m nx b c.argTypes (c.args.toList.map ρ) else none
  |_=>none
 |_=>none
theorem aap(op:BinOp)(x y:Value):q9 op x y=(GP op x y).map fun r=>(r.p,r.d):=by
 cases op<;>cases x<;>first|rfl|(cases y<;>rfl)
theorem XI(P:Program)(op:BinOp)(t:TypeId)(xs ys:List D):xy P op t xs ys=(JO P op t xs ys).map fun r=>(r.p,r.d):=by
 unfold xy JO;cases op<;>first|rfl|skip
 all_goals cases vI P t<;>first|rfl|skip
 all_goals cases ot xs ys<;>rfl
theorem aaq(P:Program)(op:BinOp)(t:TypeId)(x y:D):vW P op t x y=(KZ P op t x y).map fun r=>(r.p,r.d):=by
 have hs:∀ a b,(q9 op a b).map (fun r=>(r.1,D.s r.2))=((GP op a b).map fun r=> @PD.mk _ r.p r.dec (D.s r.d)).map fun r=>(r.p,r.d):=fun a b=>by
  rw[aap];cases GP op a b<;>rfl
 cases x with
 |s a=>
  cases y with
  |s b=>
   cases a with
   |bool a=>
    cases b with
    |bool b=>cases op<;>rfl
    |_=>exact hs _ _
   |_=>exact hs _ _
  |_=>cases a<;>rfl
 |agg xs=>
  cases y with
  |agg ys=>exact XI P op t xs ys
  |_=>rfl
 |_=>rfl
theorem aar(P:Program)(m:Mem)(op:BinOp)(t:TypeId)(x:D)(y:Operand):mG P m op t x y=(GQ P m op t x y).map eY.iG:=by
 unfold mG GQ;split<;>split<;>simp_all[eY.iG]
 all_goals split<;>simp_all[eY.iG]
theorem aas(P:Program)(m:Mem)(t:TypeId)(x:D):nA P m t x=(K0 P m t x).map eY.iG:=by
 unfold nA K0;split<;>first|rfl|skip
 all_goals split<;>simp_all[eY.iG]
theorem Wz(m:Mem)(sz:Nat)(x:D):jv m sz x=(EI m sz x).map fun r=>(r.p,r.d):=by
 unfold jv EI;split<;>first|rfl|skip
 all_goals split<;>simp_all
theorem Xa(P:Program)(m:Mem)(nx:Nat)(t:TypeId)(s x:D):qN P m nx t s x=(Ji P m nx t s x).map eY.iG:=by
 unfold qN Ji;simp only[Wz];cases EI m (P.cellsOf (aD P t)) x with
 |none=>rfl
 |some r=>
  obtain⟨p,rd,k,news⟩:=r;simp only[Option.map_some];split<;>first|rfl|skip
  all_goals split<;>simp_all[eY.iG]
theorem Xb(P:Program)(m:Mem)(t:TypeId)(x k:D)(ok:Bool):nZ P m t x k ok=(Jj P m t x k ok).map eY.iG:=by
 unfold nZ Jj;split<;>first|rfl|skip
 all_goals split<;>simp_all[eY.iG]
theorem Oy(P:Program)(m:Mem)(t:TypeId)(x k v:D):na P m t x k v=(E8 P m t x k v).map eY.iG:=by
 unfold na E8;split<;>first|rfl|skip
 all_goals split<;>simp_all[eY.iG]
theorem Xc(P:Program)(m:Mem)(t:TypeId)(x k:D):rT P m t x k=(Jk P m t x k).map eY.iG:=by
 unfold rT Jk;split<;>first|rfl|skip
 all_goals split<;>simp_all[eY.iG]
theorem WV(P:Program)(m:Mem)(nx:Nat)(b:Builtin)(ts:Array TypeId)(args:List D):fB P m nx b ts args=(ET P m nx b ts args).map eY.iG:=by
 cases b with
 |len=>
  match args with
  |[]=>rfl
  |[x]=>exact aas _ _ _ _
  |_::_::_=>rfl
 |append=>
  match args with
  |[]=>rfl
  |[x]=>rfl
  |[s,x]=>
   simp only[fB,ET];split
   .exact Xa _ _ _ _ _ _
   .rfl
  |_::_::_::_=>rfl
 |min=>
  match args with
  |[]=>rfl
  |[x]=>
   cases x with
   |s a=>cases a<;>rfl
   |_=>rfl
  |[x,y]=>
   cases x with
   |s a=>
    cases a with
    |int k a=>
     cases y with
     |s b=>cases b<;>rfl
     |_=>rfl
    |_=>rfl
   |_=>rfl
  |x::y::_::_=>
   cases x with
   |s a=>
    cases a with
    |int k a=>
     cases y with
     |s b=>cases b<;>rfl
     |_=>rfl
    |_=>rfl
   |_=>rfl
 |clear=>
  match args with
  |[]=>rfl
  |[x]=>
   cases x with
   |rs i off n=>
    simp only[fB,ET];cases m i with
    |none=>rfl
    |some r=>cases r<;>rfl
   |_=>rfl
  |x::_::_=>cases x<;>rfl
 |delete=>
  match args with
  |[]=>rfl
  |[x]=>rfl
  |[x,k]=>exact Xc _ _ _ _ _
  |_::_::_::_=>rfl
 |_=>rfl
theorem XJ(P:Program)(m:Mem)(t:TypeId)(x:D)(lo hi C:Option D):mv P m t x lo hi C=(JP P m t x lo hi C).map eY.iG:=by
 unfold mv JP;cases x with
 |sl es n=>
  simp only;cases dW lo 0<;>first|rfl|skip
  cases dW hi n<;>first|rfl|skip
  cases C with
  |none=>rfl
  |some d=>
   simp only;cases d.int? <;>rfl
 |rs i off n=>
  simp only;cases m i with
  |none=>rfl
  |some r=>
   cases r<;>first|rfl|skip
   simp only;cases dW lo 0<;>first|rfl|skip
   cases dW hi n<;>first|rfl|skip
   cases C<;>rfl
 |s v=>
  cases v<;>first|rfl|skip
  simp only;cases dW lo 0<;>first|rfl|skip
  rename_i b _;cases dW hi b.size<;>first|rfl|skip
  cases C<;>rfl
 |_=>rfl
theorem Rt(P:Program)(o:Op)(ρ:Operand->D)(m:Mem)(nx:Nat):ba P o ρ m nx=(jG P o ρ m nx).map eY.iG:=by
 cases o with
 |call c=>
  simp only[ba,jG];cases c.callee with
  |builtin b=>
   simp only;split
   .exact WV _ _ _ _ _ _
   .rfl
  |_=>rfl
 |binOp op t x y _=>
  simp only[ba,jG,aar,aaq];cases GQ P m op t (ρ x) y with
  |some e=>rfl
  |none=>
   cases KZ P op t (ρ x) (ρ y) with
   |some r=>rfl
   |none=>rfl
 |lookup t x k ok=>exact Xb _ _ _ _ _ _
 |mapUpdate t x k v=>exact Oy _ _ _ _ _ _
 |insert t x k v=>exact Oy _ _ _ _ _ _
 |slice t x lo hi J=>exact XJ _ _ _ _ _ _ _
 |build t ps=>
  simp only[ba,jG];cases P.underlying t with
  |none=>rfl
  |some u=>
   cases u with
   |struct fs=>simp only;cases gG _ _ _<;>rfl
   |array n e=>simp only;cases gG _ _ _<;>rfl
   |_=>rfl
 |buildSlice t n ps=>
  simp only[ba,jG];cases gG _ _ _<;>rfl
 |unOp op t x=>
  simp only[ba,jG];cases ρ x with
  |s v=>simp only;cases yU op v<;>rfl
  |_=>rfl
 |load t a=>
  simp only[ba,jG];cases ρ a with
  |rp i off=>simp only;cases m i with
   |none=>rfl
   |some r=>cases r<;>rfl
  |_=>rfl
 |store t a x=>
  simp only[ba,jG];cases ρ a with
  |rp i off=>simp only;cases m i with
   |none=>rfl
   |some r=>cases r<;>rfl
  |_=>rfl
 |pick c a b=>
  simp only[ba,jG];cases (ρ c).core.eX <;>rfl
 |nilCheck x=>
  simp only[ba,jG];cases ρ x with
  |rp i off=>simp only;cases m i<;>rfl
  |_=>rfl
 |makeMap t r=>cases r<;>rfl
 |makeSlice t l c=>
  simp only[ba,jG];cases ρ l with
  |s v=>
   cases v with
   |int k n=>
    cases k with
    |i64=>
     cases ρ c with
     |s v=>cases v with
      |int k n=>cases k<;>rfl
      |_=>rfl
     |_=>rfl
    |_=>rfl
   |_=>rfl
  |_=>rfl
 |convert src dst x=>
  simp only[ba,jG];cases P.underlying dst with
  |none=>rfl
  |some u=>
   cases u with
   |int k=>cases ρ x with
    |s v=>cases v<;>rfl
    |_=>rfl
   |slice e=>cases ρ x with
    |s v=>cases v with
     |string b=>
      simp only;cases P.underlying e with
      |none=>rfl
      |some u=>
       cases u with
       |int k=>cases k<;>rfl
       |_=>rfl
     |_=>rfl
    |_=>rfl
   |_=>rfl
 |fieldAddr t x k=>
  simp only[ba,jG];cases bX P t k with
  |none=>rfl
  |some q=>
   obtain⟨off,C⟩:=q;cases ρ x with
   |rp i o=>simp only;cases m i<;>rfl
   |_=>rfl
 |field t x k=>
  simp only[ba,jG];cases bX P t k with
  |none=>rfl
  |some q=>
   obtain⟨off,C⟩:=q;cases ρ x<;>rfl
 |indexAddr t x i=>
  simp only[ba,jG];cases ρ x with
  |sl es n=>cases ρ i with
   |s v=>cases v<;>rfl
   |_=>rfl
  |rs j off n=>cases ρ i with
   |s v=>cases v with
    |int k n=>simp only;cases m j<;>rfl
    |_=>rfl
   |_=>rfl
  |rp j off=>cases ρ i with
   |s v=>cases v with
    |int k n=>simp only;cases m j<;>rfl
    |_=>rfl
   |_=>rfl
  |_=>rfl
 |index t x i=>
  simp only[ba,jG];cases ρ x with
  |s v=>cases v with
   |string b=>cases ρ i with
    |s v=>cases v<;>rfl
    |_=>rfl
   |_=>rfl
  |agg cs=>cases ρ i with
   |s v=>cases v<;>rfl
   |_=>rfl
  |_=>rfl
 |extract x k=>
  simp only[ba,jG];cases ρ x<;>rfl
 |_=>rfl
inductive T(α:Type) where
 |leaf
 |node (v:Option α) (l r:T α)
def T.get{α:Type}:T α->Nat->Option α
 | .leaf,_=>none
 | .node v l r,i=>bif Nat.beq i 0 then v else bif Nat.beq (i % 2) 1 then l.get (i / 2) else r.get (i / 2 - 1)
def T.set{α:Type}:Nat->T α->Nat->Option α->T α
 |0,t,_,_=>t
 |f+1,.leaf,i,v=>bif Nat.beq i 0 then .node v .leaf .leaf else bif Nat.beq (i % 2) 1 then .node none (T.set f .leaf (i / 2) v) .leaf else .node none .leaf (T.set f .leaf (i / 2 - 1) v)
 |f+1,.node v0 l r,i,v=>bif Nat.beq i 0 then .node v l r else bif Nat.beq (i % 2) 1 then .node v0 (T.set f l (i / 2) v) r else .node v0 l (T.set f r (i / 2 - 1) v)
theorem T.tx{α:Type}(v:Option α)(l r:T α)(i:Nat):(T.node v l r).get i=if i=0 then v else if i % 2=1 then l.get (i / 2) else r.get (i / 2 - 1):=by
 simp only[T.get,Bool.cond_eq_ite,Nat.beq_eq]
theorem T.Cp{α:Type}(v:Option α):∀ (f:Nat) (t:T α) (i j:Nat),i+1<2 ^ f->(T.set f t i v).get j=if j=i then v else t.get j
 |0,t,i,j,h=>by simp at h
 |f+1,t,i,j,h=>by
  have h2:2 ^ (f+1)=2*2 ^ f:=by rw[Nat.pow_succ];omega
  have U:i % 2=1->i / 2+1<2 ^ f:=fun _=>by omega
  have X:i≠0->i % 2≠1->i / 2 - 1+1<2 ^ f:=fun _ _=>by omega
  have M:∀ k,(T.leaf:T α).get k=none:=fun k=>rfl;cases t with
  |leaf=>
   simp only[T.set,Bool.cond_eq_ite,Nat.beq_eq];by_cases h0:i=0
   .subst h0;simp only[if_true,T.tx,M];by_cases hj:j=0<;>simp[hj]
   .rw[if_neg h0];by_cases h1:i % 2=1
    .rw[if_pos h1,T.tx,T.Cp v f _ _ _ (U h1)];simp only[M];by_cases hj:j=i
     .subst hj;simp[h0,h1]
     .rw[if_neg hj];by_cases J:j=0
      .rw[if_pos J]
      .rw[if_neg J];by_cases C:j % 2=1
       .rw[if_pos C,if_neg oG]
       .rw[if_neg C]
    .rw[if_neg h1,T.tx,T.Cp v f _ _ _ (X h0 h1)];simp only[M];by_cases hj:j=i
     .subst hj;simp[h0,h1]
     .rw[if_neg hj];by_cases J:j=0
      .rw[if_pos J]
      .rw[if_neg J];by_cases C:j % 2=1
       .rw[if_pos C]
       .rw[if_neg C,if_neg oG]
  |node v0 l r=>
   simp only[T.set,Bool.cond_eq_ite,Nat.beq_eq];by_cases h0:i=0
   .subst h0;simp only[if_true,T.tx];by_cases hj:j=0<;>simp[hj]
   .rw[if_neg h0];by_cases h1:i % 2=1
    .rw[if_pos h1,T.tx,T.tx,T.Cp v f _ _ _ (U h1)];by_cases hj:j=i
     .subst hj;simp[h0,h1]
     .rw[if_neg hj];by_cases J:j=0
      .rw[if_pos J,if_pos J]
      .rw[if_neg J,if_neg J];by_cases C:j % 2=1
       .rw[if_pos C,if_pos C,if_neg oG]
       .rw[if_neg C,if_neg C]
    .rw[if_neg h1,T.tx,T.tx,T.Cp v f _ _ _ (X h0 h1)];by_cases hj:j=i
     .subst hj;simp[h0,h1]
     .rw[if_neg hj];by_cases J:j=0
      .rw[if_pos J,if_pos J]
      .rw[if_neg J,if_neg J];by_cases C:j % 2=1
       .rw[if_pos C,if_pos C]
       .rw[if_neg C,if_neg C,if_neg oG]
def T.put{α:Type}(t:T α)(i:Nat)(v:Option α):Option (T α):=bif Nat.blt i 1000000 then some (T.set 20 t i v) else none
theorem T.Ru{α:Type}{t C:T α}{i:Nat}{v:Option α}(h:t.put i v=some C)(j:Nat):C.get j=if j=i then v else t.get j:=by
 unfold T.put at h;cases hb:Nat.blt i 1000000 with
 |false=>rw[hb] at h;cases h
 |true=>
  rw[hb] at h;simp only[cond_true,aG] at h;subst h;have:i<1000000:=by simpa using hb
  exact T.Cp v 20 t i j oG
structure cQ where
 env:T D
 mem:T Row
 nx:Nat
def dE(t:T D):Env:=fun i=>(t.get i).getD .u
def fW(t:T Row):Mem:=fun i=>t.get i
def cQ.st(c:cQ):St:=⟨dE c.env,fW c.mem,c.nx⟩
theorem Jl{t C:T D}{i:Nat}{d:D}(h:t.put i (some d)=some C):dE C=up (dE t) i d:=by
 funext j;simp only[dE,T.Ru h,Cc];split<;>rfl
theorem Qr{t C:T Row}{i:Nat}{r:Option Row}(h:t.put i r=some C):fW C=up (fW t) i r:=by
 funext j;simp only[fW,T.Ru h,Cc]
def AS(t:T D):Option Nat->D->Option (T D)
 |none,_=>some t
 |some i,d=>t.put i (some d)
def Dx(m:T Row):List (Nat×Option Row)->Option (T Row)
 |[]=>some m
 |(i,r)::us=>match m.put i r with
  |some m'=>Dx m' us
  |none=>none
theorem JQ{t C:T D}{dst:Option Nat}{d:D}(h:AS t dst d=some C)(m:Mem)(nx:Nat):(⟨dE C,m,nx⟩:St)=St.put ⟨dE t,m,nx⟩ dst d:=by
 cases dst with
 |none=>simp only[AS,aG] at h;subst h;rfl
 |some i=>simp only[AS] at h;simp only[St.put,Jl h]
theorem Qs:∀ {us:List (Nat×Option Row)} {m m':T Row},Dx m us=some m'->fW m'=cB (fW m) us
 |[],m,m',h=>by simp only[Dx,aG] at h;subst h;rfl
 |(i,r)::us,m,m',h=>by
  simp only[Dx] at h;cases hp:m.put i r with
  |none=>rw[hp] at h;cases h
  |some C=>
   rw[hp] at h;simp only at h;rw[Qs h,Qr hp];rfl
def qm:Nat->D->Bool
 |0,_=>false
 |n+1,d=>match d with
  | .rs .. | .rp .. | .mp _ | .sc .. =>false
  | .cn _ d=>qm n d
  | .agg cs | .aL cs | .pt cs | .sl cs _=>cs.all (qm n)
  | .fn _ fs cs=>fs.all (qm n)&&cs.all (qm n)
  | .im es=>es.all fun x=>qm n x.2
  |_=>true
section
variable{P:Program}{F:Nat->Prop}{β:aC}{w:World}
theorem pF:∀ {n:Nat} {d:D},qm n d=true->Tr d
 |0,_,h=>by cases h
 |n+1,d,h=>by
  cases d with
  |rs=>cases h
  |rp=>cases h
  |mp=>cases h
  |sc=>cases h
  |cn c d=>exact .cn (pF h)
  |agg cs=>exact .agg fun d hd=>pF (bS.1 h d hd)
  |aL cs=>exact .aL fun d hd=>pF (bS.1 h d hd)
  |sl cs n=>exact .sl fun d hd=>pF (bS.1 h d hd)
  |pt cs=>exact .pt fun d hd=>pF (bS.1 h d hd)
  |fn f fs cs=>
   simp only[qm,bf] at h;exact .fn (fun d hd=>pF (bS.1 h.1 d hd)) fun d hd=>pF (bS.1 h.2 d hd)
  |im es=>exact .im fun x hx=>pF (bS.1 h x hx)
  |s v=>exact .s v
  |ub=>exact .ub
  |u=>exact .u
  |z=>exact .z
def gZ{α β:Type}(f:α->Option (β×List Nat)):List α->Option (List β×List Nat)
 |[]=>some ([],[])
 |x::xs=>match f x with
  |none=>none
  |some y=>match gZ f xs with
   |none=>none
   |some ys=>some (y.1::ys.1,y.2++ys.2)
theorem EU{α β:Type}{f:α->Option (β×List Nat)}:∀ {xs:List α} {ys:List β} {r:List Nat},gZ f xs=some (ys,r)->
 ys.length=xs.length/\(∀ (k:Nat) (y:β),ys[k]? =some y->∃ x r',xs[k]? =some x/\f x=some (y,r')/\∀ i∈r',i∈r)
 |[],ys,r,h=>by simp only[gZ,aG,bP] at h;obtain⟨rfl,rfl⟩:=h;simp
 |x::xs,ys,r,h=>by
  simp only[gZ] at h;cases hx:f x with
  |none=>rw[hx] at h;cases h
  |some y=>
   rw[hx] at h;simp only at h;cases C:gZ f xs with
   |none=>rw[C] at h;cases h
   |some J=>
    rw[C] at h;simp only[aG,bP] at h;obtain⟨rfl,rfl⟩:=h;obtain⟨h1,h2⟩:=EU (ys:=J.1) (r:=J.2) C;refine⟨by simp[h1],fun k z hz=>?_⟩;cases k with
    |zero=>
     simp only[List.getElem?_cons_zero,aG] at hz;subst hz;exact⟨x,y.2,rfl,hx,fun i hi=>by simp[hi]⟩
    |succ k=>
     obtain⟨x',r',M,U,X⟩:=h2 k z (by simpa using hz);exact⟨x',r',by simpa using M,U,fun i hi=>by simp[X i hi]⟩
def cA(P:Program)(m:Mem):Nat->D->Option (D×List Nat)
 |0,_=>none
 |n+1,d=>match d with
  | .mp i=>match m i with
   |some (.map es)=>(gZ (fun x=>(cA P m n x.2).map fun y=>((x.1,y.1),y.2)) es).map fun x=>(.im x.1,i::x.2)
   |_=>none
  | .im es=>(gZ (fun x=>(cA P m n x.2).map fun y=>((x.1,y.1),y.2)) es).map fun x=>(.im x.1,x.2)
  | .rs i off k=>match m i with
   |some (.cells cs e)=>(gZ (cA P m n) ((cs.drop off).take (k*P.cellsOf e))).map fun x=>(.sl x.1 k,i::x.2)
   |_=>none
  | .rp i off=>match m i with
   |some (.cells cs _)=>(gZ (cA P m n) (cs.drop off)).map fun x=>(.pt x.1,i::x.2)
   |_=>none
  | .cn true d=>(cA P m n d).map fun x=>(.cn true x.1,x.2)
  | .cn false _=>some (.cn false .u,[])
  | .agg cs=>(gZ (cA P m n) cs).map fun x=>(.agg x.1,x.2)
  | .aL cs=>(gZ (cA P m n) cs).map fun x=>(.aL x.1,x.2)
  | .sl cs k=>(gZ (cA P m n) cs).map fun x=>(.sl x.1 k,x.2)
  | .pt cs=>(gZ (cA P m n) cs).map fun x=>(.pt x.1,x.2)
  | .fn f fs cs=>match gZ (cA P m n) fs with
   |none=>none
   |some x=>(gZ (cA P m n) cs).map fun y=>(.fn f x.1 y.1,x.2++y.2)
  | .s v=>some (.s v,[])
  | .ub=>some (.ub,[])
  | .u=>some (.u,[])
  | .z=>some (.z,[])
  | .sc .. =>none
theorem qI{α β:Type}{f:α->Option (β×List Nat)}{xs:List α}{ys:List β}{r:List Nat}(h:gZ f xs=some (ys,r)){p:β->Prop}(hp:∀ x y r',f x=some (y,r')->p y):∀ y∈ys,p y:=fun y hy=>by
 obtain⟨k,hk⟩:=eS hy;obtain⟨x,r',_,h2,_⟩:=(EU h).2 k y hk;exact hp x y r' h2
theorem Fv{m:Mem}:∀ {n:Nat} {d d':D} {r:List Nat},cA P m n d=some (d',r)->Tr d'
 |0,_,_,_,h=>by cases h
 |n+1,d,d',r,h=>by
  have ih:∀ x y r',cA P m n x=some (y,r')->Tr y:=fun x y r' h=>Fv h
  have C:∀ (x:Value×D) (y:Value×D) r',(cA P m n x.2).map (fun y=>((x.1,y.1),y.2))=some (y,r')->Tr y.2:=fun x y r' h=>by
   simp only[cP,bP] at h;obtain⟨z,hz,rfl,_⟩:=h;exact Fv (r:=z.2) hz
  cases d with
  |sc=>cases h
  |mp i=>
   simp only[cA] at h;split at h
   .simp only[cP,bP] at h;obtain⟨x,hx,rfl,_⟩:=h;exact .im (qI (ys:=x.1) (r:=x.2) hx C)
   .cases h
  |im es=>
   simp only[cA,cP,bP] at h;obtain⟨x,hx,rfl,_⟩:=h;exact .im (qI (ys:=x.1) (r:=x.2) hx C)
  |rs i off k=>
   simp only[cA] at h;split at h
   .simp only[cP,bP] at h;obtain⟨x,hx,rfl,_⟩:=h;exact .sl (qI (ys:=x.1) (r:=x.2) hx ih)
   .cases h
  |rp i off=>
   simp only[cA] at h;split at h
   .simp only[cP,bP] at h;obtain⟨x,hx,rfl,_⟩:=h;exact .pt (qI (ys:=x.1) (r:=x.2) hx ih)
   .cases h
  |cn c d=>
   cases c with
   |true=>
    simp only[cA,cP,bP] at h;obtain⟨x,hx,rfl,_⟩:=h;exact .cn (Fv (r:=x.2) hx)
   |false=>simp only[cA,aG,bP] at h;obtain⟨rfl,_⟩:=h;exact .cn .u
  |agg cs=>
   simp only[cA,cP,bP] at h;obtain⟨x,hx,rfl,_⟩:=h;exact .agg (qI (ys:=x.1) (r:=x.2) hx ih)
  |aL cs=>
   simp only[cA,cP,bP] at h;obtain⟨x,hx,rfl,_⟩:=h;exact .aL (qI (ys:=x.1) (r:=x.2) hx ih)
  |sl cs k=>
   simp only[cA,cP,bP] at h;obtain⟨x,hx,rfl,_⟩:=h;exact .sl (qI (ys:=x.1) (r:=x.2) hx ih)
  |pt cs=>
   simp only[cA,cP,bP] at h;obtain⟨x,hx,rfl,_⟩:=h;exact .pt (qI (ys:=x.1) (r:=x.2) hx ih)
  |fn f fs cs=>
   simp only[cA] at h;cases hx:gZ (cA P m n) fs with
   |none=>rw[hx] at h;cases h
   |some x=>
    rw[hx] at h;simp only[cP,bP] at h;obtain⟨y,hy,rfl,_⟩:=h;exact .fn (qI (ys:=x.1) (r:=x.2) hx ih) (qI (ys:=y.1) (r:=y.2) hy ih)
  |s v=>simp only[cA,aG,bP] at h;obtain⟨rfl,_⟩:=h;exact .s v
  |ub=>simp only[cA,aG,bP] at h;obtain⟨rfl,_⟩:=h;exact .ub
  |u=>simp only[cA,aG,bP] at h;obtain⟨rfl,_⟩:=h;exact .u
  |z=>simp only[cA,aG,bP] at h;obtain⟨rfl,_⟩:=h;exact .z
def Looks(P:Program)(F:Nat->Prop)(β:aC)(w:World)(m:Mem)(rds:List Nat):Prop:=∀ i∈rds,∀ r,m i=some r->∃ p,β i=some p/\cw P F β w r p/\∀ b,p.bF=some b->¬ F b
theorem zG(b:Nat):gA.free b:=fun i p hp=>by cases hp
theorem CG{m:Mem}:∀ {n:Nat} {d d':D} {r:List Nat},cA P m n d=some (d',r)->Looks P F β w m r->∀ {v:Value},R F β w d v->R F gA w d' v
 |0,_,_,_,h,_,_,_=>by cases h
 |n+1,d,d',r,h,hl,v,hv=>by
  have many:∀ {xs ys:List D} {r':List Nat},gZ (cA P m n) xs=some (ys,r')->(∀ i∈r',i∈r)->ys.length=xs.length/\∀ (k:Nat) (d:D) (u:Value),ys[k]? =some d->(∀ M,xs[k]? =some M->R F β w M u)->R F gA w d u:=fun h hr=>by
   obtain⟨h1,h2⟩:=EU h;refine⟨h1,fun k d u hd hu=>?_⟩;obtain⟨x,r2,C,J,X⟩:=h2 k d hd;exact CG J (fun i hi=>hl i (hr i (X i hi))) (hu x C)
  have look:∀ {i:Nat} {cs:List D} {e:TypeId},i∈r->m i=some (.cells cs e)->∃ p,β i=some p/\cw P F β w (.cells cs e) p/\∀ b,p.bF=some b->¬ F b:=fun hi hm=>hl _ hi _ hm
  have T9:∀ {es ys:List (Value×D)} {r':List Nat} {ms:Array MapEntry},gZ (fun x=>(cA P m n x.2).map fun y=>((x.1,y.1),y.2)) es=some (ys,r')->(∀ i∈r',i∈r)->ms.size=es.length->(es.map (·.1)).Nodup->
   (∀ (k:Nat) (x:Value×D) (m:MapEntry),es[k]? =some x->ms[k]? =some m->m.key=x.1/\R F β w x.2 m.val)->
   ms.size=ys.length/\(ys.map (·.1)).Nodup/\(∀ (k:Nat) (x:Value×D) (m:MapEntry),ys[k]? =some x->ms[k]? =some m->m.key=x.1)/\∀ (k:Nat) (x:Value×D) (m:MapEntry),ys[k]? =some x->ms[k]? =some m->R F gA w x.2 m.val:=fun {es ys r' ms} h hr bB dY hh=>by
   obtain⟨h1,h2⟩:=EU h
   have key:∀ (k:Nat) (y:Value×D),ys[k]? =some y->∃ x r2,es[k]? =some x/\y.1=x.1/\cA P m n x.2=some (y.2,r2)/\∀ i∈r2,i∈r':=fun k y hy=>by
    obtain⟨x,r2,C,J,X⟩:=h2 k y hy;simp only[cP,bP] at J;obtain⟨z,hz,rfl,rfl⟩:=J;exact⟨x,z.2,C,rfl,hz,X⟩
   have keys:ys.map (·.1)=es.map (·.1):=by
    refine List.ext_getElem? fun k=>?_;simp only[List.getElem?_map];cases hy:ys[k]? with
    |some y=>
     obtain⟨x,_,C,J,_⟩:=key k y hy;simp[C,J]
    |none=>
     have:es[k]? =none:=by
      rw[List.getElem?_eq_none_iff] at hy ⊢;omega
     simp[this]
   refine⟨by rw[h1];exact bB,by rw[keys];exact dY,fun k y mm hy fc=>?_,fun k y mm hy fc=>?_⟩
   .obtain⟨x,r2,C,J,_⟩:=key k y hy;rw[J];exact(hh k x mm C fc).1
   .obtain⟨x,r2,C,_,X,g4⟩:=key k y hy;exact CG X (fun i hi=>hl i (hr i (g4 i hi))) (hh k x mm C fc).2
  cases d with
  |sc=>cases h
  |mp i=>
   simp only[cA] at h;split at h
   .rename_i es hm;simp only[cP,bP] at h;obtain⟨x,hx,rfl,rfl⟩:=h;obtain⟨p,hp,ap,oE⟩:=hl i (List.mem_cons_self ..) _ hm;cases hv with
    |yT _ _ h1 _=>rw[h1] at hp;cases hp;exact absurd rfl ap.live
    |mp _ b h1=>
     rw[h1] at hp;cases hp;cases ap with
     |map _ _ ms clock C J X g4=>
      obtain⟨k1,k2,k3,k4⟩:=T9 (ys:=x.1) (r':=x.2) hx (fun i hi=>List.mem_cons_of_mem _ hi) J X g4;exact .im x.1 b ms clock (oE b rfl) (zG b) C k1 k2 k3 k4
   .cases h
  |im es=>
   simp only[cA,cP,bP] at h;obtain⟨x,hx,rfl,rfl⟩:=h;cases hv with
   |im _ b ms clock hf hb hc J X g4 g5=>
    obtain⟨k1,k2,k3,k4⟩:=T9 (ys:=x.1) (r':=x.2) hx (fun _ h=>h) J X (fun k x m hx hm=>⟨g4 k x m hx hm,g5 k x m hx hm⟩);exact .im x.1 b ms clock hf (zG b) hc k1 k2 k3 k4
  |rs i off k=>
   simp only[cA] at h;split at h
   .rename_i cs e hm;simp only[cP,bP] at h;obtain⟨x,hx,rfl,rfl⟩:=h;obtain⟨p,hp,ap,oE⟩:=look (List.mem_cons_self ..) hm;obtain⟨C,J⟩:=many (ys:=x.1) (r':=x.2) hx (fun i hi=>List.mem_cons_of_mem _ hi)
    have nil:(cs.drop off).take (k*P.cellsOf e)=[]->x.1=[]:=fun e=>by
     rw[e] at C;exact List.eq_nil_of_length_eq_zero (by simpa using C)
    cases hv with
    |kH _ _ _ _ h1 _=>
     rw[h1] at hp;cases hp;exact absurd rfl ap.live
    |iT _ a h1=>
     rw[h1] at hp;cases hp;cases ap;rw[nil oS];exact .fZ a 0
    |jI _ _ a b o len room sz h1=>
     rw[nil oS];exact .fZ a 0
    |rs _ _ _ cap b o len room sz h1 hn dk h2 h3=>
     rw[h1] at hp;cases hp;obtain⟨dv,hl,bB,_⟩:=ap.rd;obtain⟨us,u1,u2⟩:=(dv.drop off).take (k*P.cellsOf e)
     have af:b<w.heap.size:=by
      cases ap with
      |cells _ _ _ _ _ _ c hb=>exact(Array.getElem?_eq_some_iff.1 hb).1
     exact .sl x.1 k b (o+off) cap us (oE b rfl) (zG b) af hn dk (fun j hj=>u1 j (by rw[<- C];exact hj)) fun j d hd=>J j d _ hd fun M U=>u2 j M U
   .cases h
  |rp i off=>
   simp only[cA] at h;split at h
   .rename_i cs e hm;simp only[cP,bP] at h;obtain⟨x,hx,rfl,rfl⟩:=h;obtain⟨p,hp,ap,oE⟩:=look (List.mem_cons_self ..) hm;obtain⟨C,J⟩:=many (ys:=x.1) (r':=x.2) hx (fun i hi=>List.mem_cons_of_mem _ hi);cases hv with
    |qf _ _ _ h1 _=>
     rw[h1] at hp;cases hp;exact absurd rfl ap.live
    |rp _ _ b o len room sz h1=>
     rw[h1] at hp;cases hp;obtain⟨dv,hl,bB,_⟩:=ap.rd;obtain⟨us,u1,u2⟩:=dv.drop off
     have af:b<w.heap.size:=by
      cases ap with
      |cells _ _ _ _ _ _ c hb=>exact(Array.getElem?_eq_some_iff.1 hb).1
     exact .pt x.1 b (o+off) us (oE b rfl) (zG b) af (fun j hj=>u1 j (by rw[<- C];exact hj)) fun j d hd=>J j d _ hd fun M U=>u2 j M U
   .cases h
  |cn c d=>
   cases hv with
   |cn _ _ _ h1 h2=>
   cases c with
   |true=>
    simp only[cA,cP,bP] at h;obtain⟨x,hx,rfl,rfl⟩:=h;exact .cn true _ v (fun _=>CG (r:=x.2) hx hl (h1 rfl)) oS
   |false=>simp only[cA,aG,bP] at h;obtain⟨rfl,_⟩:=h;exact .cn false _ v oS h2
  |agg cs=>
   simp only[cA,cP,bP] at h;obtain⟨x,hx,rfl,rfl⟩:=h;obtain⟨vs,rfl,oA,hh⟩:=hv.rS;obtain⟨C,J⟩:=many (ys:=x.1) (r':=x.2) hx (fun _ h=>h);exact .agg _ vs (by rw[C];exact oA) fun k d u hd hu=>J k d u hd fun M U=>hh k M u U hu
  |aL cs=>
   simp only[cA,cP,bP] at h;obtain⟨x,hx,rfl,rfl⟩:=h;obtain⟨vs,rfl,oA,hh⟩:=hv.Cl;obtain⟨C,J⟩:=many (ys:=x.1) (r':=x.2) hx (fun _ h=>h);exact .aL _ vs (by rw[C];exact oA) fun k d u hd hu=>J k d u hd fun M U=>hh k M u U hu
  |sl cs k=>
   simp only[cA,cP,bP] at h;obtain⟨x,hx,rfl,rfl⟩:=h;obtain⟨C,J⟩:=many (ys:=x.1) (r':=x.2) hx (fun _ h=>h);cases hv with
   |fZ a cap=>
    have:x.1=[]:=List.eq_nil_of_length_eq_zero (by simpa using C);rw[this];exact .fZ a cap
   |sl _ _ b o cap us hf hb af oi dk hc hh=>
    exact .sl _ k b o cap us hf (zG b) af oi dk (fun j hj=>hc j (by rw[<- C];exact hj)) fun j d hd=>J j d _ hd fun M U=>hh j M U
  |pt cs=>
   simp only[cA,cP,bP] at h;obtain⟨x,hx,rfl,rfl⟩:=h;obtain⟨C,J⟩:=many (ys:=x.1) (r':=x.2) hx (fun _ h=>h);cases hv with
   |pt _ b o us hf hb af hc hh=>
    exact .pt _ b o us hf (zG b) af (fun j hj=>hc j (by rw[<- C];exact hj)) fun j d hd=>J j d _ hd fun M U=>hh j M U
  |fn f fs cs=>
   simp only[cA] at h;cases hx:gZ (cA P m n) fs with
   |none=>rw[hx] at h;cases h
   |some x=>
    rw[hx] at h;simp only[cP,bP] at h;obtain⟨y,hy,rfl,rfl⟩:=h;obtain⟨C,J⟩:=many (ys:=x.1) (r':=x.2) hx (fun _ h=>List.mem_append_left _ h);obtain⟨k1,k2⟩:=many (ys:=y.1) (r':=y.2) hy (fun _ h=>List.mem_append_right _ h);cases hv with
    |fn _ _ _ us vs yQ oA h1 h2=>
     exact .fn f _ _ us vs (by rw[C];exact yQ) (by rw[k1];exact oA) (fun k d u hd hu=>J k d u hd fun M U=>h1 k M u U hu) fun k d u hd hu=>k2 k d u hd fun M U=>h2 k M u U hu
  |s v=>simp only[cA,aG,bP] at h;obtain⟨rfl,_⟩:=h;obtain⟨rfl,h⟩:=hv.cX;exact .s _ h
  |ub=>simp only[cA,aG,bP] at h;obtain⟨rfl,_⟩:=h;obtain⟨b,rfl⟩:=hv.Gb;exact .ub b
  |u=>simp only[cA,aG,bP] at h;obtain⟨rfl,_⟩:=h;exact .u v
  |z=>simp only[cA,aG,bP] at h;obtain⟨rfl,_⟩:=h;obtain⟨a,rfl⟩:=hv.tX;exact .z a
end
section
variable(P:Program)
def vJ(env:Env)(o:Op):Bool:=match o with
 | .pick c _ _=>decide (opd env c).ask
 |o=>o.operands.toList.all fun x=>decide (opd env x).ask
theorem IE{env:Env}{o:Op}(h:vJ env o=true):asks env o:=by
 unfold vJ at h;unfold asks;cases o<;>first|exact of_decide_eq_true h|exact fun x hx=>of_decide_eq_true (bS.1 h x hx)
abbrev sw:=FuncId->List D->Bool->T Row->Nat->Option (D×T Row×Nat×List Nat×List Nat)
def Fw(call:sw)(f:FuncId)(args:List D)(dr:Bool)(o:Oper)(c:cQ):Option (cQ×List Nat×List Nat):=
 bif vJ (dE c.env) o.op then match call f args dr c.mem c.nx with
  |some (r,m,nx,rd,wr)=>match AS c.env o.dst r with
   |some env=>some (⟨env,m,nx⟩,rd,wr)
   |none=>none
  |none=>none
 else none
def Hc(e:eY)(o:Oper)(c:cQ):Option (cQ×List Nat×List Nat):=
 bif vJ (dE c.env) o.op then match e.dec with
  |isTrue _=>match Dx c.mem e.aQ with
   |some m=>match AS c.env o.dst e.val with
    |some env=>some (⟨env,m,c.nx+e.new⟩,e.rd,e.aQ.map (·.1))
    |none=>none
   |none=>none
  |isFalse _=>none
 else none
def vK(o:Oper)(d:D)(rd:List Nat)(c:cQ):Option (cQ×List Nat×List Nat):=match AS c.env o.dst d with
 |some env=>some (⟨env,c.mem,c.nx⟩,rd,[])
 |none=>none
def MJ(call:sw)(ops:Array Oper)(dr:Bool)(o:Oper)(c:cQ):Option (cQ×List Nat×List Nat):=
 match o.guard with
 |none=>match dJ (aX (dE c.env) o.op) o.op with
  |some (f,args)=>Fw call f args dr o c
  |none=>match kW (aX (dE c.env) o.op) o.op with
   |some _=>none
   |none=>match jG P o.op (aX (dE c.env) o.op) (fW c.mem) c.nx with
    |some e=>Hc e o c
    |none=>none
 |some (j,b)=>match ((ops[j]?).bind (·.dst)).bind fun t=>jR (dE c.env t) b with
  |none=>none
  |some g=>match dJ (aX (dE c.env) o.op) o.op with
   |some (f,args)=>bif g then Fw call f args dr o c else vK o tZ [] c
   |none=>match kW (aX (dE c.env) o.op) o.op with
    |some _=>bif g then none else vK o tZ [] c
    |none=>match jG P o.op (aX (dE c.env) o.op) (fW c.mem) c.nx with
     |some e=>bif e.aQ.isEmpty&&Nat.beq e.new 0 then
      bif g then bif vJ (dE c.env) o.op then match e.dec with
       |isTrue _=>vK o (.cn true e.val) e.rd c
       |isFalse _=>none
      else none
      else vK o (.cn false e.val) e.rd c
      else bif g then Hc e o c else vK o tZ [] c
     |none=>bif g then none else vK o tZ [] c
def AT(call:sw)(ops:Array Oper)(dr:Bool):List Oper->cQ->jL->Option (cQ×jL)
 |[],c,tr=>some (c,tr)
 |o::os,c,tr=>match MJ P call ops dr o c with
  |some (c',rd,wr)=>AT call ops dr os c' (tr++[(rd,wr)])
  |none=>none
def Gi(tr:jL)(i j:Nat):Bool:=
 let a:=tr.getD i ([],[])
 let b:=tr.getD j ([],[])
 (a.2.all fun x=> !(b.1.any (Nat.beq x))&& !(b.2.any (Nat.beq x)))&&b.2.all fun x=> !(a.1.any (Nat.beq x))
theorem aat{tr:jL}{i j:Nat}(h:Gi tr i j=true):pE tr i j:=by
 unfold Gi at h;simp only[bf,bS,Bool.not_eq_true',List.any_eq_false,Nat.beq_eq] at h;obtain⟨h1,h2⟩:=h;exact⟨fun x hx=>⟨fun hb=>(h1 x hx).1 x hb rfl,fun hb=>(h1 x hx).2 x hb rfl⟩,fun x hx ha=>h2 x hx x ha rfl⟩
def JR(call:sw)(ops:Array Oper)(dr:Bool)(c:cQ):Option cQ:=
 bif dr then match bT ops with
  |some cf=>match AT P call ops true ops.toList c [] with
   |some (c',tr)=>bif cf.all fun q=>Gi tr q.1 q.2 then some c' else none
   |none=>none
  |none=>none
 else match AT P call ops false ops.toList c [] with
  |some (c',_)=>some c'
  |none=>none
def CH(call:sw):Prop:=∀ f args dr m nx r m' C rd wr,call f args dr m nx=some (r,m',C,rd,wr)->∀ env (K:D->Mem->Nat->List Nat->List Nat->Prop),K r (fW m') C rd wr->r8 P dr ⟨env,fW m,nx⟩ f args K
end
section
variable{P:Program}
theorem OV{call:sw}(hc:CH P call){f:FuncId}{args:List D}{dr:Bool}{o:Oper}{c:cQ}{C:cQ}{rd wr:List Nat}(h:Fw call f args dr o c=some (C,rd,wr)){K:St->List Nat->List Nat->Prop}(J:K C.st rd wr):
 asks c.st.env o.op/\r8 P dr c.st f args fun r m nx rd wr=>K (St.put ⟨c.st.env,m,nx⟩ o.dst r) rd wr:=by
 unfold Fw at h;cases ha:vJ (dE c.env) o.op with
 |false=>rw[ha] at h;cases h
 |true=>
  rw[ha] at h;simp only[cond_true] at h;refine⟨IE ha,?_⟩;split at h
  .rename_i r m nx MK U M;split at h
   .rename_i env X;simp only[aG,bP] at h;obtain⟨rfl,rfl,rfl⟩:=h;refine hc _ _ _ _ _ _ _ _ _ _ M _ _ ?_;have:=JQ X (fW m) nx;simp only[cQ.st] at J ⊢;rw[<- this];exact J
   .cases h
  .cases h
theorem zN{o:Oper}{d:D}{rd C wr:List Nat}{c J:cQ}(h:vK o d rd c=some (J,C,wr)):J.st=St.put c.st o.dst d/\C=rd/\wr=[]:=by
 unfold vK at h;split at h
 .rename_i env M;simp only[aG,bP] at h;obtain⟨rfl,rfl,rfl⟩:=h;exact⟨JQ M (fW c.mem) c.nx,rfl,rfl⟩
 .cases h
theorem Qt{e:eY}{o:Oper}{c C:cQ}{rd wr:List Nat}(h:Hc e o c=some (C,rd,wr)){K:St->List Nat->List Nat->Prop}(J:K C.st rd wr):
 asks c.st.env o.op/\e.pre/\K (St.put ⟨c.st.env,cB c.st.mem e.aQ,c.st.nx+e.new⟩ o.dst e.val) e.rd (e.aQ.map (·.1)):=by
 unfold Hc at h;cases ha:vJ (dE c.env) o.op with
 |false=>rw[ha] at h;cases h
 |true=>
  rw[ha] at h;simp only[cond_true] at h;refine⟨IE ha,?_⟩;split at h
  .rename_i hp _;refine⟨hp,?_⟩;split at h
   .rename_i m hm;split at h
    .rename_i env M;simp only[aG,bP] at h;obtain⟨rfl,rfl,rfl⟩:=h;have:=JQ M (fW m) (c.nx+e.new);simp only[cQ.st] at J ⊢;rw[<- Qs hm, <- this];exact J
    .cases h
   .cases h
  .cases h
theorem PH{o:Op}{ρ:Operand->D}{m:Mem}{nx:Nat}{e:eY}(h:jG P o ρ m nx=some e):ba P o ρ m nx=some e.iG:=by rw[Rt,h];rfl
theorem YQ{o:Op}{ρ:Operand->D}{m:Mem}{nx:Nat}(h:jG P o ρ m nx=none):ba P o ρ m nx=none:=by rw[Rt,h];rfl
theorem adn{call:sw}(mB:CH P call){ops:Array Oper}{dr:Bool}{o:Oper}{c c':cQ}{rd wr:List Nat}(h:MJ P call ops dr o c=some (c',rd,wr)){K:St->List Nat->List Nat->Prop}(C:K c'.st rd wr):
 iW P cZ ops dr o c.st K:=by
 unfold MJ at h;unfold iW;split at h
 .rename_i hg;simp only[hg];split at h
  .rename_i f args hc;obtain⟨h1,h2⟩:=OV mB h C;refine⟨h1,?_⟩;simp only[cQ.st] at h2 ⊢;rw[hc];exact h2
  .rename_i hc;split at h
   .cases h
   .rename_i hy;split at h
    .rename_i e he;obtain⟨h1,h2,h3⟩:=Qt h C;refine⟨h1,?_⟩;have:=PH he;simp only[cQ.st] at h2 h3 ⊢;rw[hc];simp only;rw[hy];simp only;rw[this];exact⟨h2,h3⟩
    .cases h
 .rename_i j b hg;simp only[hg];split at h
  .cases h
  .rename_i g hgc;have U:(((ops[j]?).bind (·.dst)).bind fun t=>jR (c.st.env t) b)=some g:=hgc;rw[U];simp only;split at h
   .rename_i f args hc;have wG:dJ (aX c.st.env o.op) o.op=some (f,args):=hc;rw[wG];simp only;cases g with
    |true=>
     simp only[cond_true] at h;exact .inr ⟨fun _=>OV mB h C,oS⟩
    |false=>
     simp only[cond_false] at h;obtain⟨h1,rfl,rfl⟩:=zN h;exact .inr ⟨oS,fun _=>h1▸C⟩
   .rename_i hc;have wG:dJ (aX c.st.env o.op) o.op=none:=hc;rw[wG];simp only;split at h
    .rename_i y hy;have M:kW (aX c.st.env o.op) o.op=some y:=hy;rw[M];obtain⟨l,args⟩:=y;cases g with
     |true=>simp at h
     |false=>
      simp only[cond_false] at h;obtain⟨h1,rfl,rfl⟩:=zN h;exact⟨oS,fun _=>h1▸C⟩
    .rename_i hy;have M:kW (aX c.st.env o.op) o.op=none:=hy;rw[M];simp only;split at h
     .rename_i e he;have X:ba P o.op (aX c.st.env o.op) c.st.mem c.st.nx=some e.iG:=PH he;rw[X];cases J:(e.aQ.isEmpty&&Nat.beq e.new 0) with
      |true=>
       have hb:(e.iG.aQ.isEmpty&&e.iG.new==0)=true:=by
        have:∀ a:Nat,(a==0)=Nat.beq a 0:=fun a=>by cases a<;>rfl
        simp only[eY.iG,this];exact J
       simp only[hb,if_true];rw[J] at h;simp only[cond_true] at h;cases g with
       |true=>
        simp only[cond_true] at h;cases ha:vJ (dE c.env) o.op with
        |false=>rw[ha] at h;cases h
        |true=>
         rw[ha] at h;simp only[cond_true] at h;split at h
         .rename_i hp _;obtain⟨h1,rfl,rfl⟩:=zN h;exact⟨fun _=>⟨IE ha,hp⟩,h1▸C⟩
         .cases h
       |false=>
        simp only[cond_false] at h;obtain⟨h1,rfl,rfl⟩:=zN h;exact⟨oS,h1▸C⟩
      |false=>
       have hb:(e.iG.aQ.isEmpty&&e.iG.new==0)=false:=by
        have:∀ a:Nat,(a==0)=Nat.beq a 0:=fun a=>by cases a<;>rfl
        simp only[eY.iG,this];exact J
       simp only[hb,Bool.false_eq_true,if_false];rw[J] at h;simp only[cond_false] at h;cases g with
       |true=>
        simp only[cond_true] at h;exact⟨fun _=>Qt h C,oS⟩
       |false=>
        simp only[cond_false] at h;obtain⟨h1,rfl,rfl⟩:=zN h;exact⟨oS,fun _=>h1▸C⟩
     .rename_i he;have X:ba P o.op (aX c.st.env o.op) c.st.mem c.st.nx=none:=YQ he;rw[X];simp only;cases g with
      |true=>simp at h
      |false=>
       simp only[cond_false] at h;obtain⟨h1,rfl,rfl⟩:=zN h;exact⟨rfl,h1▸C⟩
theorem Jm{call:sw}(M:CH P call){ops:Array Oper}{dr:Bool}{cf:List (Nat×Nat)}{Q:Exit->St->Prop}:∀ (os:List Oper) (c C:cQ) (tr J:jL),AT P call ops dr os c tr=some (C,J)->(∀ q∈cf,pE J q.1 q.2)->Q .normal C.st->
 aq P cZ ops dr cf Q os c.st tr
 |[],c,C,tr,J,h,jJ,hQ=>by
  simp only[AT,aG,bP] at h;obtain⟨rfl,rfl⟩:=h;exact⟨jJ,hQ⟩
 |o::os,c,C,tr,J,h,jJ,hQ=>by
  simp only[AT] at h;split at h
  .rename_i c1 rd wr h1;exact .inl<| adn M h1 (Jm M os c1 C _ J h jJ hQ)
  .cases h
theorem XK{call:sw}(U:CH P call){ops:Array Oper}{dr:Bool}{c J:cQ}(h:JR P call ops dr c=some J){id:Nat}{rf:Bool}{Q:Exit->St->Prop}(M:Q .normal J.st):AW P cZ rf (.region id ops dr) Q c.st:=by
 unfold JR at h;cases dr with
 |true=>
  simp only[cond_true] at h;split at h
  .rename_i cf X;split at h
   .rename_i c1 tr h1;cases C:cf.all fun q=>Gi tr q.1 q.2 with
    |false=>rw[C] at h;cases h
    |true=>
     rw[C] at h;simp only[cond_true,aG] at h;subst h
     show match bT ops with
      |some cf=>CE P cZ ops cf Q c.st
      |none=>False
     rw[X];exact .inl<| Jm U _ _ _ _ _ h1 (fun q hq=>aat (bS.1 C q hq)) M
   .cases h
  .cases h
 |false=>
  simp only[cond_false] at h;split at h
  .rename_i c1 tr h1;simp only[aG] at h;subst h;exact Jm (cf:=[]) U _ _ _ _ _ h1 oS M
  .cases h
end
structure Ctx where
 l8:FuncId->Option (Func×Code)
 iter:FuncId->List D->List D->Option (List (List D))
 known:FuncId->List D->Option D
structure Ctx.Ok(P:Program)(x:Ctx):Prop where
 mix:P.follows .mixedOrders=true
 l8:∀ f fn c,x.l8 f=some (fn,c)->lj P f fn c
 iter:∀ f fs cs xs,x.iter f fs cs=some xs->vX P f fs cs xs/\∀ y∈xs,∀ d∈y,Tr d
 known:∀ f args r,x.known f args=some r->aA P f args r
def Al:Nat->List D->T D->Option (T D)
 |_,[],t=>some t
 |k,d::ds,t=>match t.put k (some d) with
  |some C=>Al (k+1) ds C
  |none=>none
theorem OW:∀ {ds:List D} {k:Nat} {t C:T D},Al k ds t=some C->∀ j,dE C j=if k<=j/\j<k+ds.length then ds.getD (j - k) .u else dE t j
 |[],k,t,C,h,j=>by
  simp only[Al,aG] at h;subst h;rw[if_neg oS]
 |d::ds,k,t,C,h,j=>by
  simp only[Al] at h;split at h
  .rename_i t1 h1;rw[OW h j,Jl h1];by_cases hj:j=k
   .subst hj;rw[if_neg oG,ah,if_pos oS];simp
   .rw[az _ _ hj];by_cases af:k+1<=j/\j<k+1+ds.length
    .rw[if_pos af,if_pos oP];have:j - k=(j - (k+1))+1:=by omega
     rw[this];simp
    .rw[if_neg af,if_neg oP]
  .cases h
theorem XL{args:List D}{t:T D}(h:Al 0 args .leaf=some t):dE t=iy args:=by
 funext j;rw[OW h j];unfold iy;split
 .simp
 .rename_i hj;have:args.length<=j:=by omega
  simp[dE,T.get,this]
def z1:T D->List Tmp->List D->Option (T D)
 |t,p::ps,d::ds=>match t.put p (some d) with
  |some C=>z1 C ps ds
  |none=>none
 |t,_,_=>some t
theorem Oz:∀ {ps:List Tmp} {ds:List D} {t C:T D},z1 t ps ds=some C->dE C=nd (dE t) ps ds
 |[],ds,t,C,h=>by simp only[z1,aG] at h;subst h;rfl
 |_::_,[],t,C,h=>by simp only[z1,aG] at h;subst h;rfl
 |p::ps,d::ds,t,C,h=>by
  simp only[z1] at h;split at h
  .rename_i t1 h1;rw[Oz h,Jl h1];rfl
  .cases h
section
variable(P:Program)
def LF(c:cQ):ResultVar->Option D
 | .tmp t=>some (dE c.env t)
 | .cell a t=>match dE c.env a with
  | .rp i off=>match c.mem.get i with
   |some (.cells cs _)=>bif aH P t&&Nat.ble (off+P.cellsOf t) cs.length then some (gF P t (cs.drop off)) else none
   |_=>none
  | .pt cs=>bif aH P t&&Nat.ble (P.cellsOf t) cs.length then some (gF P t cs) else none
  |_=>none
def AU(c:cQ):List ResultVar->Option (List D)
 |[]=>some []
 |r::rs=>match LF P c r with
  |some d=>match AU c rs with
   |some ds=>some (d::ds)
   |none=>none
  |none=>none
def Dy(x:Ctx)(C:Bool->Code->cQ->Option (Exit×cQ))(f:FuncId)(args:List D)(m:T Row)(nx:Nat):Option (D×T Row×Nat):=
 match x.l8 f with
 |none=>none
 |some (fn,c)=>bif Nat.ble args.length fn.ntmps then
  match Al 0 args .leaf with
  |none=>none
  |some t=>match C true c ⟨t,m,nx⟩ with
   |some (.normal,s)=>match AU P s fn.results.toList with
    |some ds=>some (pZ ds,s.mem,s.nx)
    |none=>none
   |some (.ret,s)=>match AU P s fn.results.toList with
    |some ds=>some (pZ ds,s.mem,s.nx)
    |none=>none
   |_=>none
  else none
def depth:Nat:=12
def AE(x:Ctx)(C:Bool->Code->cQ->Option (Exit×cQ))(f:FuncId)(args:List D):Option (D ⊕ (List D×Nat×TypeId)):=
 match Dy P x C f args .leaf 0 with
 |none=>none
 |some (d,m,_)=>match d with
  | .rs i 0 k=>match m.get i with
   |some (.cells es t)=>bif es.all (qm depth) then some (.inr (es,k,t)) else match cA P (fW m) depth (.rs i 0 k) with
    |some (r,_)=>some (.inl r)
    |none=>none
   |_=>none
  |d=>match cA P (fW m) depth d with
   |some (r,_)=>some (.inl r)
   |none=>none
def K2(x:Ctx)(C:Bool->Code->cQ->Option (Exit×cQ)):sw:=fun f args dr m nx=>
 match x.known f args with
 |some r=>some (r,m,nx,[],[])
 |none=>bif args.all (qm depth) then match AE P x C f args with
  |some (.inl r)=>some (r,m,nx,[],[])
  |some (.inr (es,k,t))=>match m.put nx (some (.cells es t)) with
   |some m'=>some (.rs nx 0 k,m',nx+1,[],[nx])
   |none=>none
  |none=>none
  else bif dr then match gZ (cA P (fW m) depth) args with
   |none=>none
   |some (dV,rds)=>match x.known f dV with
    |some r=>bif r.gp then some (r,m,nx,rds,[]) else none
    |none=>match AE P x C f dV with
     |some (.inl r)=>bif r.gp then some (r,m,nx,rds,[]) else none
     |_=>none
  else match Dy P x C f args m nx with
   |some (d,m',ai)=>some (d,m',ai,[],[])
   |none=>none
def Cq(C:Bool->Code->cQ->Option (Exit×cQ))(env:T D)(ps:List Tmp)(assign body:Code):List (List D)->T Row->Nat->Option (Exit×T Row×Nat)
 |[],m,nx=>some (.normal,m,nx)
 |y::ys,m,nx=>match z1 env ps y with
  |none=>none
  |some t=>match C false assign ⟨t,m,nx⟩ with
   |some (.normal,s)=>match C false body s with
    |some (.normal,s')=>Cq C env ps assign body ys s'.mem s'.nx
    |some (.ret,s')=>some (.ret,s'.mem,s'.nx)
    |some (.exit i,s')=>some (.exit i,s'.mem,s'.nx)
    |_=>none
   |_=>none
def pG(x:Ctx)(C:Bool->Code->cQ->Option (Exit×cQ))(rf:Bool)(c:Code)(s:cQ):Option (Exit×cQ):=match c with
 | .skip=>some (.normal,s)
 | .region _ ops dr=>match JR P (K2 P x C) ops dr s with
  |some s'=>some (.normal,s')
  |none=>none
 | .seq a b=>match C rf a s with
  |some (.normal,s')=>C rf b s'
  |r=>r
 | .cond c a b=>bif decide (opd (dE s.env) c).ask then match (opd (dE s.env) c).core with
   | .s (.bool t)=>bif t then C rf a s else C rf b s
   |_=>none
  else none
 | .block id b=>match C rf b s with
  |some (.exit i,s')=>bif Nat.beq i id then some (.normal,s') else some (.exit i,s')
  |r=>r
 | .scope b=>match C rf b s with
  |some (.goto _,_)=>none
  |r=>r
 | .loop b=>match C rf b s with
  |some (.normal,s')=>C rf (.loop b) s'
  |r=>r
 | .rangeFunc g ps assign body=>bif rf&&decide (opd (dE s.env) g).ask then match (opd (dE s.env) g).core with
   | .fn (.func f) fs cs=>match x.iter f fs cs with
    |some ys=>bif ys.all fun y=>Nat.beq y.length ps.size then match Cq C s.env ps.toList assign body ys s.mem s.nx with
     |some (e,m,nx)=>some (e,⟨s.env,m,nx⟩)
     |none=>none
     else none
    |none=>none
   |_=>none
  else none
 | .exit id=>some (.exit id,s)
 | .label _=>some (.normal,s)
 | .ret=>some (.ret,s)
 |_=>none
def Bp(x:Ctx):Nat->Bool->Code->cQ->Option (Exit×cQ)
 |0=>fun _ _ _=>none
 |n+1=>pG P x (Bp x n)
end
section
variable{P:Program}{x:Ctx}
theorem Kr{c:cQ}{K:List D->Prop}:∀ {rs:List ResultVar} {ds acc:List D},AU P c rs=some ds->K (acc++ds)->nD P c.st rs acc K
 |[],ds,acc,h,hK=>by
  simp only[AU,aG] at h;subst h;simpa[nD] using hK
 |r::rs,ds,acc,h,hK=>by
  simp only[AU] at h;split at h
  .rename_i d hd;split at h
   .rename_i U C;simp only[aG] at h;subst h
    have M:∃ p,nC P c.st r=some (p,d)/\p:=by
     cases r with
     |tmp t=>
      simp only[LF,aG] at hd;exact⟨True,by simp only[nC,cQ.st,hd],trivial⟩
     |cell a t=>
      simp only[LF] at hd;simp only[nC,cQ.st];split at hd
      .rename_i i off ha;rw[ha];simp only;split at hd
       .rename_i cs e hm;have J:fW c.mem i=some (.cells cs e):=hm;rw[J];simp only;cases hb:(aH P t&&Nat.ble (off+P.cellsOf t) cs.length) with
        |false=>rw[hb] at hd;cases hd
        |true=>
         rw[hb] at hd;simp only[cond_true,aG] at hd;simp only[bf,Nat.ble_eq] at hb;exact⟨_,by rw[hd],hb⟩
       .cases hd
      .rename_i cs ha;rw[ha];simp only;cases hb:(aH P t&&Nat.ble (P.cellsOf t) cs.length) with
       |false=>rw[hb] at hd;cases hd
       |true=>
        rw[hb] at hd;simp only[cond_true,aG] at hd;simp only[bf,Nat.ble_eq] at hb;exact⟨_,by rw[hd],hb⟩
      .cases hd
    obtain⟨p,h1,h2⟩:=M;simp only[nD,h1];exact⟨h2,Kr C (by simpa using hK)⟩
   .cases h
  .cases h
def Dz(P:Program)(C:Bool->Code->cQ->Option (Exit×cQ)):Prop:=∀ rf c s e s',C rf c s=some (e,s')->∀ Q:Exit->St->Prop,Q e s'.st->AW P cZ rf c Q s.st
theorem Rv(hx:x.Ok P){M:Bool->Code->cQ->Option (Exit×cQ)}(X:Dz P M){f:FuncId}{args:List D}{m m':T Row}{nx J:Nat}{d:D}(h:Dy P x M f args m nx=some (d,m',J)):
 ∃ fn c,lj P f fn c/\Nat.ble args.length fn.ntmps=true/\∀ K:D->St->Prop,(∀ env,K d ⟨env,fW m',J⟩)->AW P cZ true c (gY P fn.results.toList K) ⟨iy args,fW m,nx⟩:=by
 unfold Dy at h;split at h
 .cases h
 .rename_i fn c LG;cases hb:Nat.ble args.length fn.ntmps with
  |false=>rw[hb] at h;cases h
  |true=>
   rw[hb] at h;simp only[cond_true] at h;split at h
   .cases h
   .rename_i t ht;refine⟨fn,c,hx.l8 f fn c LG,hb,fun K U=>?_⟩;rw[<- XL ht];split at h
    .rename_i s hs;split at h
     .rename_i ds C;simp only[aG,bP] at h;obtain⟨rfl,rfl,rfl⟩:=h;exact X _ _ _ _ _ hs _ (Kr (K:=fun ds=>K (pZ ds) s.st) C (U _))
     .cases h
    .rename_i s hs;split at h
     .rename_i ds C;simp only[aG,bP] at h;obtain⟨rfl,rfl,rfl⟩:=h;exact X _ _ _ _ _ hs _ (Kr (K:=fun ds=>K (pZ ds) s.st) C (U _))
     .cases h
    .cases h
theorem XM(J:P.follows .mixedOrders=true){fn:Func}{f:FuncId}{c:Code}(hf:lj P f fn c){args:List D}(hn:Nat.ble args.length fn.ntmps=true)(ht:∀ a∈args,Tr a){d r:D}{m:Mem}{n:Nat}{rds:List Nat}(hd:cA P m n d=some (r,rds))
 (h:AW P cZ true c (gY P fn.results.toList fun d' st=>d'=d/\st.mem=m) ⟨iy args,fun _=>none,0⟩):aA P f args r:=
 ⟨hf.he,ht,fun F w vs X hR=>(zT J hf.hf hf.hb hf.af hn h (fun _ _ _ _ _ h=>h.elim) (ES X) (fun _ _=>rfl) hR).mono fun e w' hp=>by
  obtain⟨v,d',st',β',h1,⟨rfl,rfl⟩,M,C,h5,U,h7,h8⟩:=hp
  exact⟨v,h1,CG hd (fun i _ r hr=>by
   obtain⟨p,hp,ap⟩:=C.row i r hr
   exact⟨p,hp,ap,fun b hb=>C.nf i p b hp hb⟩) M,EE U⟩⟩
theorem EL(hx:x.Ok P){J:Bool->Code->cQ->Option (Exit×cQ)}(X:Dz P J){f:FuncId}{args:List D}(ht:∀ a∈args,Tr a):
 (∀ r,AE P x J f args=some (.inl r)->aA P f args r)/\∀ es k t,AE P x J f args=some (.inr (es,k,t))->ko P f args es k t:=by
 unfold AE;cases U:Dy P x J f args .leaf 0 with
 |none=>exact⟨fun r h=>oH,fun es k t h=>oH⟩
 |some q=>
  obtain⟨d,m,nx⟩:=q;obtain⟨fn,c,hf,hn,C⟩:=Rv hx X U
  have deep:∀ d r rds,d=d->cA P (fW m) depth d=some (r,rds)->(∀ K:D->St->Prop,(∀ env,K d ⟨env,fW m,nx⟩)->AW P cZ true c (gY P fn.results.toList K) ⟨iy args,fW .leaf,0⟩)->aA P f args r:=fun d r rds _ hd C=>
   XM hx.mix hf hn ht hd (C _ fun env=>⟨rfl,rfl⟩)
  simp only;split
  .rename_i i k;split
   .rename_i es t hm;cases M:es.all (qm depth) with
    |true=>
     simp only[cond_true];refine⟨fun r h=>(by simp at h),fun es' k' t' h=>?_⟩;simp only[aG,Sum.inr.injEq,bP] at h;obtain⟨rfl,rfl,rfl⟩:=h;exact Qq hx.mix hf hn ht (fun a ha=>pF (bS.1 M a ha)) (C _ fun env=>⟨i,rfl,hm⟩)
    |false=>
     simp only[cond_false];split
     .rename_i r rds hd;exact⟨fun r' h=>(by simp only[aG,Sum.inl.injEq] at h;subst h;exact deep _ _ _ rfl hd C),fun es k t h=>(by simp at h)⟩
     .exact⟨fun r h=>oH,fun es k t h=>oH⟩
   .exact⟨fun r h=>oH,fun es k t h=>oH⟩
  .split
   .rename_i r rds hd;exact⟨fun r' h=>(by simp only[aG,Sum.inl.injEq] at h;subst h;exact deep _ _ _ rfl hd C),fun es k t h=>(by simp at h)⟩
   .exact⟨fun r h=>oH,fun es k t h=>oH⟩
theorem BU{m:Mem}{n:Nat}{rds:List Nat}:∀ {aS bs:List D} {r:List Nat},gZ (cA P m n) aS=some (bs,r)->(∀ i∈r,i∈rds)->jn P rds m aS bs
 |[],bs,r,h,_=>by
  simp only[gZ,aG,bP] at h;obtain⟨rfl,_⟩:=h;trivial
 |a::aS,bs,r,h,hr=>by
  simp only[gZ] at h;split at h
  .cases h
  .rename_i y hy;split at h
   .cases h
   .rename_i ys C;simp only[aG,bP] at h;obtain⟨rfl,rfl⟩:=h;exact⟨fun F β w v hl hv=>CG (r:=y.2) hy (fun i hi=>hl i (hr i (List.mem_append_left _ hi))) hv,BU (r:=ys.2) C fun i hi=>hr i (List.mem_append_right _ hi)⟩
theorem aau(hx:x.Ok P){ev:Bool->Code->cQ->Option (Exit×cQ)}(U:Dz P ev):CH P (K2 P x ev):=by
 intro f args dr m nx r m' ai rd wr h env K C;unfold K2 at h;split at h
 .rename_i r' hk;simp only[aG,bP] at h;obtain⟨rfl,rfl,rfl,rfl,rfl⟩:=h;exact .inl ⟨_,hx.known _ _ _ hk,C⟩
 .cases M:args.all (qm depth) with
  |true=>
   rw[M] at h;simp only[cond_true] at h;obtain⟨h1,h2⟩:=EL hx U (f:=f) (args:=args) fun a ha=>pF (bS.1 M a ha);split at h
   .rename_i r' hp;simp only[aG,bP] at h;obtain⟨rfl,rfl,rfl,rfl,rfl⟩:=h;exact .inl ⟨_,h1 _ hp,C⟩
   .rename_i es k t hp;split at h
    .rename_i m1 hm;simp only[aG,bP] at h;obtain⟨rfl,rfl,rfl,rfl,rfl⟩:=h;rw[Qr hm] at C;exact .inr (.inr (.inl ⟨es,k,t,h2 _ _ _ hp,C⟩))
    .cases h
   .cases h
  |false=>
   rw[M] at h;simp only[cond_false] at h;cases dr with
   |true=>
    simp only[cond_true] at h;split at h
    .cases h
    .rename_i J rds X;have bh:∀ a∈J,Tr a:=qI X fun x y r' h=>Fv h;have fx:jn P rds (fW m) args J:=BU X fun _ h=>h;split at h
     .rename_i r' hk;cases hs:r'.gp with
      |false=>rw[hs] at h;cases h
      |true=>
       rw[hs] at h;simp only[cond_true,aG,bP] at h;obtain⟨rfl,rfl,rfl,rfl,rfl⟩:=h;exact .inr (.inl ⟨J,_,_,fx,hx.known _ _ _ hk,hs,C⟩)
     .split at h
      .rename_i r' hp;cases hs:r'.gp with
       |false=>rw[hs] at h;cases h
       |true=>
        rw[hs] at h;simp only[cond_true,aG,bP] at h;obtain⟨rfl,rfl,rfl,rfl,rfl⟩:=h;exact .inr (.inl ⟨J,_,_,fx,(EL hx U bh).1 _ hp,hs,C⟩)
      .cases h
   |false=>
    simp only[cond_false] at h;split at h
    .rename_i d m1 bR dn;simp only[aG,bP] at h;obtain⟨rfl,rfl,rfl,rfl,rfl⟩:=h;obtain⟨fn,c,hf,hn,y4⟩:=Rv hx U dn;exact .inr (.inr (.inr (.inl ⟨rfl,Qp hx.mix hf hn (y4 (fun d st=>K d st.mem st.nx [] []) fun env=>C)⟩)))
    .cases h
theorem OX{X:Bool->Code->cQ->Option (Exit×cQ)}(J:Dz P X){env:T D}{ps:List Tmp}{assign body:Code}{Q:Exit->St->Prop}:∀ {ys:List (List D)} {m m':T Row} {nx M:Nat} {e:Exit},Cq X env ps assign body ys m nx=some (e,m',M)->
 Q e ⟨dE env,fW m',M⟩->∃ I:Nat->Mem->Nat->Prop,I 0 (fW m) nx/\
  (∀ k m nx y,ys[k]? =some y->I k m nx->AW P cZ false assign (Co fun s=>AW P cZ false body (xB (dE env) (I (k+1)) Q) s) ⟨nd (dE env) ps y,m,nx⟩)/\
  ∀ m nx,I ys.length m nx->Q .normal ⟨dE env,m,nx⟩
 |[],m,m',nx,M,e,h,hQ=>by
  simp only[Cq,aG,bP] at h;obtain⟨rfl,rfl,rfl⟩:=h;exact⟨fun _ a b=>a=fW m/\b=nx,⟨rfl,rfl⟩,fun k _ _ y hy=>by simp at hy,fun a b h=>by obtain⟨rfl,rfl⟩:=h;exact hQ⟩
 |y::ys,m,m',nx,M,e,h,hQ=>by
  simp only[Cq] at h;split at h
  .cases h
  .rename_i t ht;have yx:=Oz ht;split at h
   .rename_i s hs
    have done:∀ (I:Nat->Mem->Nat->Prop),AW P cZ false body (xB (dE env) (I 0) Q) s.st->
     (∀ k m nx y,ys[k]? =some y->I k m nx->AW P cZ false assign (Co fun s=>AW P cZ false body (xB (dE env) (I (k+1)) Q) s) ⟨nd (dE env) ps y,m,nx⟩)->
     (∀ m nx,I ys.length m nx->Q .normal ⟨dE env,m,nx⟩)->
     ∃ I:Nat->Mem->Nat->Prop,I 0 (fW m) nx/\
      (∀ k m nx z,(y::ys)[k]? =some z->I k m nx->AW P cZ false assign (Co fun s=>AW P cZ false body (xB (dE env) (I (k+1)) Q) s) ⟨nd (dE env) ps z,m,nx⟩)/\
      ∀ m nx,I (y::ys).length m nx->Q .normal ⟨dE env,m,nx⟩:=fun I h1 h2 h3=>by
     refine⟨fun k a b=>match k with|0=>a=fW m/\b=nx|k+1=>I k a b,⟨rfl,rfl⟩,fun k a b z hz U=>?_,fun a b U=>h3 a b U⟩;cases k with
     |zero=>
      obtain⟨rfl,rfl⟩:=U;simp only[List.getElem?_cons_zero,aG] at hz;subst hz;rw[<- yx];exact J _ _ _ _ _ hs _ h1
     |succ k=>exact h2 k a b z (by simpa using hz) U
    split at h
    .rename_i s' C;obtain⟨I,g1,g2,g3⟩:=OX J h hQ;exact done I (J _ _ _ _ _ C _ g1) g2 g3
    .rename_i s' C;simp only[aG,bP] at h;obtain⟨rfl,rfl,rfl⟩:=h;exact done (fun _ _ _=>False) (J _ _ _ _ _ C _ hQ) (fun _ _ _ _ _ h=>h.elim) fun _ _ h=>h.elim
    .rename_i i s' C;simp only[aG,bP] at h;obtain⟨rfl,rfl,rfl⟩:=h;exact done (fun _ _ _=>False) (J _ _ _ _ _ C _ hQ) (fun _ _ _ _ _ h=>h.elim) fun _ _ h=>h.elim
    .cases h
   .cases h
theorem Sm(hx:x.Ok P):∀ n,Dz P (Bp P x n):=by
 intro n
 induction n using Nat.strongRecOn with
 |_ n ih=>
  cases n with
  |zero=>intro rf c s e s' h;cases h
  |succ n=>
   have J:=ih n (Nat.lt_succ_self n);intro rf c s e s' h Q C;simp only[Bp] at h;cases c with
   |skip=>
    simp only[pG,aG,bP] at h;obtain⟨rfl,rfl⟩:=h;exact C
   |ret=>
    simp only[pG,aG,bP] at h;obtain⟨rfl,rfl⟩:=h;exact C
   |label l=>
    simp only[pG,aG,bP] at h;obtain⟨rfl,rfl⟩:=h;exact C
   |exit id=>
    simp only[pG,aG,bP] at h;obtain⟨rfl,rfl⟩:=h;exact C
   |region id ops dr=>
    simp only[pG] at h;split at h
    .rename_i X h1;simp only[aG,bP] at h;obtain⟨rfl,rfl⟩:=h;exact XK (aau hx J) h1 C
    .cases h
   |seq a b=>
    simp only[pG] at h;split at h
    .rename_i X h1;exact J _ _ _ _ _ h1 _ ⟨_,.refl _,J _ _ _ _ _ h _ C⟩
    .rename_i U;refine J _ _ _ _ _ h _ ?_;cases e with
     |normal=>exact absurd h (U s')
     |_=>exact C
   |cond c a b=>
    simp only[pG] at h;cases M:decide (opd (dE s.env) c).ask with
    |false=>rw[M] at h;cases h
    |true=>
     rw[M] at h;simp only[cond_true] at h;refine⟨of_decide_eq_true M,?_⟩;split at h
     .rename_i t ht;have ht':(opd s.st.env c).core=.s (.bool t):=ht;rw[ht'];cases t with
      |true=>exact⟨fun _=>J _ _ _ _ _ h _ C,fun h=>by cases h⟩
      |false=>exact⟨fun h=>oH,fun _=>J _ _ _ _ _ h _ C⟩
     .cases h
   |block id b=>
    simp only[pG] at h;split at h
    .rename_i i X h1;refine J _ _ _ _ _ h1 (fq id Q) ?_;simp only[fq];cases hb:Nat.beq i id with
     |true=>
      rw[hb] at h;simp only[cond_true,aG,bP] at h;obtain⟨rfl,rfl⟩:=h;rw[if_pos (Nat.eq_of_beq_eq_true hb)];exact C
     |false=>
      rw[hb] at h;simp only[cond_false,aG,bP] at h;obtain⟨rfl,rfl⟩:=h;rw[if_neg (Nat.ne_of_beq_eq_false hb)];exact C
    .rename_i U;refine J _ _ _ _ _ h (fq id Q) ?_;cases e with
     |exit i=>exact absurd h (U i s')
     |_=>exact C
   |scope b=>
    simp only[pG] at h;split at h
    .cases h
    .rename_i U;refine J _ _ _ _ _ h (CD Q) ?_;cases e with
     |goto l=>exact absurd h (U l s')
     |_=>exact C
   |loop b=>
    refine Qu (fun j st=>j<=n+1/\∃ s,st=s.st/\Bp P x j rf (.loop b) s=some (e,s')) (j₀:=n+1) ⟨a8 _,s,rfl,h⟩ ?_;rintro j st ⟨hj,s,rfl,hs⟩;cases j with
    |zero=>cases hs
    |succ j=>
     have U9:=ih j oG;simp only[Bp,pG] at hs;split at hs
     .rename_i X h1;exact U9 _ _ _ _ _ h1 _ ⟨_,.refl _,j,Nat.lt_succ_self j,oG,X,rfl,hs⟩
     .rename_i U;refine U9 _ _ _ _ _ hs _ ?_;cases e with
      |normal=>exact absurd hs (U s')
      |_=>exact C
   |rangeFunc g ps assign body=>
    simp only[pG] at h;cases M:(rf&&decide (opd (dE s.env) g).ask) with
    |false=>rw[M] at h;cases h
    |true=>
     rw[M] at h;simp only[cond_true] at h;simp only[bf] at M;split at h
     .rename_i f fs cs tY;split at h
      .rename_i ys MM;cases bp:ys.all fun y=>Nat.beq y.length ps.size with
       |false=>rw[bp] at h;cases h
       |true=>
        rw[bp] at h;simp only[cond_true] at h;split at h
        .rename_i e1 m nx hr;simp only[aG,bP] at h;obtain⟨rfl,rfl⟩:=h;obtain⟨I,g1,g2,g3⟩:=OX J hr C;obtain⟨k1,k2⟩:=hx.iter _ _ _ _ MM;exact⟨M.1,of_decide_eq_true M.2,f,fs,cs,ys,I,tY,k1,fun y hy=>⟨Nat.eq_of_beq_eq_true (bS.1 bp y hy),k2 y hy⟩,g1,g2,g3⟩
        .cases h
      .cases h
     .cases h
   |_=>cases h
theorem nW(hx:x.Ok P)(n:Nat){f:FuncId}{args:List D}{r:D}(ht:args.all (qm depth)=true)(h:AE P x (Bp P x n) f args=some (.inl r)):aA P f args r:=
 (EL hx (Sm hx n) fun a ha=>pF (bS.1 ht a ha)).1 r h
end
end Go.Abs
namespace Go.Proofs.Tryz.K
open Go.Abs
noncomputable def LS:T (Func×Code):=
 (.node none (.node none .leaf (.node none .leaf (.node none .leaf (.node none (.node none (.node none (.node none (.node (some (Tryz.f269,R6)) .leaf .leaf) .leaf) .leaf) .leaf) (.node none .leaf (.node none .leaf (.node (some (Tryz.f253,R4)) .leaf .leaf))))))) (.node none (.node none (.node none (.node none (.node none (.node none (.node none (.node (some (Tryz.f256,R5)) .leaf .leaf) .leaf) .leaf) .leaf) .leaf) .leaf) .leaf) (.node none (.node none (.node none .leaf (.node none .leaf (.node none (.node (some (Tryz.f178,R3)) .leaf .leaf) .leaf))) .leaf) .leaf)))
def Hx(p:Nat->Func×Code->Prop):(Nat->Nat)->T (Func×Code)->Prop
 |_,.leaf=>True
 |g,.node v l r=>(∀ a,v=some a->p (g 0) a)/\Hx p (fun i=>g (2*i+1)) l/\Hx p (fun i=>g (2*i+2)) r
theorem JE{p:Nat->Func×Code->Prop}:∀ {t:T (Func×Code)} {g:Nat->Nat},Hx p g t->∀ i a,t.get i=some a->p (g i) a
 | .leaf,_,_,i,a,h=>by cases h
 | .node v l r,g,⟨h1,h2,h3⟩,i,a,h=>by
  rw[T.tx] at h;by_cases h0:i=0
  .subst h0;exact h1 a (by simpa using h)
  .rw[if_neg h0] at h;by_cases C:i % 2=1
   .rw[if_pos C] at h;have:=JE h2 _ a h;have e:2*(i / 2)+1=i:=by omega
    simpa only[e] using this
   .rw[if_neg C] at h;have:=JE h3 _ a h;have e:2*(i / 2 - 1)+2=i:=by omega
    simpa only[e] using this
theorem e0{p:Func×Code->Prop}:∀ a,(none:Option (Func×Code))=some a->p a:=fun _ h=>by cases h
theorem e1{i:Nat}{fn:Func}{c:Code}(h:lj prog i fn c):∀ a,some (fn,c)=some a->lj prog i a.1 a.2:=fun _ e=>by cases e;exact h
theorem acY:Hx (fun i a=>lj prog i a.1 a.2) (fun i=>i) LS:=
 ⟨e0,⟨e0,trivial,⟨e0,trivial,⟨e0,trivial,⟨e0,⟨e0,⟨e0,⟨e0,⟨e1 agZ,trivial,trivial⟩,trivial⟩,trivial⟩,trivial⟩,⟨e0,trivial,⟨e0,trivial,⟨e1 agX,trivial,trivial⟩⟩⟩⟩⟩⟩⟩,⟨e0,⟨e0,⟨e0,⟨e0,⟨e0,⟨e0,⟨e0,⟨e1 agY,trivial,trivial⟩,trivial⟩,trivial⟩,trivial⟩,trivial⟩,trivial⟩,trivial⟩,⟨e0,⟨e0,⟨e0,trivial,⟨e0,trivial,⟨e0,⟨e1 agW,trivial,trivial⟩,trivial⟩⟩⟩,trivial⟩,trivial⟩⟩⟩
theorem adw(f:FuncId)(fn:Func)(c:Code)(h:LS.get f=some (fn,c)):lj prog f fn c:=JE acY f (fn,c) h
end Go.Proofs.Tryz.K
section
open Go Go.Abs Go.Proofs Go.Argus
namespace Go.Proofs.Tryz.K
noncomputable def cx0:Ctx:=⟨fun f=>LS.get f,fun _ _ _=>none,fun _ _=>none⟩
theorem n4:cx0.Ok prog:=⟨mixed,adw,fun _ _ _ _ h=>oH,fun _ _ _ h=>oH⟩
theorem Cg{off:Nat}{vs cs:List D}(hv:vs.length=20)(hl:off+20<=cs.length)(C:vs.all D.one=true):aH prog 201=true/\vs.length=prog.cellsOf 201/\off+prog.cellsOf 201<=cs.length/\vs.all D.one=true:=by
 rw[rj];exact⟨t201,hv,hl,C⟩
theorem lm{w:List Int}{m:Nat}(U:w.length=20)(hm:m<1280):aA prog 135 [gq w,I m] (B (p6 w m)):=by
 have M:∀ a∈[gq w,I m],Tr a:=.cons (p7 _) (.cons (.s _) .nil);have hi:w[m / 64]? =some w[m / 64]:=aU oG;have hg:w.getD (m / 64) 0=w[m / 64]:=by simp[dx,hi]
 have C:=Tm (m:=m) oG;have J:=Tn m;have kd:=mY (f:=cM) hi;refine bj aet M (Tr.s _) ?_;rw[aeu];refine ws ?_;refine ab ?_;refine er ?_;refine SS ?_;refine au (Sx rfl rfl C) ak ⟨rfl,oG⟩ ?_;refine ax ?_;refine au (Sy rfl rfl J) ak ⟨rfl,oG⟩ ?_;refine au (ad4 rfl rfl) ak oG ?_;refine au (S0 rfl rfl) ak rfl ?_;refine ab ?_;refine aa (aF (d:=.s (.bool _)) rfl ?_);unfold p6;rw[hg];rfl
theorem p8{w:List Int}{n:Int}(X:w.length=20)(hn: -1000000<=n/\n<1280):aA prog 179 [gq w,I n] (gq (qY w n)):=by
 have U:∀ a∈[gq w,I n],Tr a:=.cons (p7 _) (.cons (.s _) .nil);refine bj aev U (p7 _) ?_;rw[aew];refine ws ?_;refine ab ?_;refine aa (aB (aj ?_));by_cases h0:0<=n
 .obtain⟨m,rfl⟩:=kL h0;have hm:m<1280:=by omega
  have hi:w[m / 64]? =some w[m / 64]:=aU oG;have hg:w.getD (m / 64) 0=w[m / 64]:=by simp[dx,hi]
  have J:=Tm (m:=m) oG;have M:=Tn m;have kd:=mY (f:=cM) hi;have C:decide (0<=(m:Int))=true:=by simp
  refine SS ?_;refine au (Ao rfl rfl C) ak rfl ?_;refine aa (xZ (ep Y8 ?_));refine SS ?_;refine au (Sx rfl rfl J) ak ⟨rfl,oG⟩ ?_;refine ax ?_;refine au (Sy rfl rfl M) ak ⟨rfl,oG⟩ ?_;refine au (ad3 rfl rfl) ak oG ?_;refine au (aha rfl rfl) ak rfl ?_;refine ab ?_;refine ct cG (aj ?_);refine ab ?_;refine aa (qT (gy rfl rfl a201 rj (np (by first|rfl|simp;omega)) t201 oP) ?_);simp only[qY,h0,if_true,kK,Dd,hg,gq,List.map_set];rfl
 .have C:decide (0<=n)=false:=by simpa using h0
  refine SS ?_;refine au (Ao rfl rfl C) ak rfl ?_;refine aa (uc (cI (aj ?_)));refine ab ?_;refine aa (qT (gy rfl rfl a201 rj (np oP) t201 oP) ?_);simp only[qY,h0,if_false]
theorem Hh{w v:List Int}(M:w.length=20)(hv:v.length=20):aA prog 180 [gq w,gq v] (gq (mC w v)):=by
 have X:∀ a∈[gq w,gq v],Tr a:=.cons (p7 _) (.cons (p7 _) .nil);refine bj aex X (p7 _) ?_;rw[aey];refine ws ?_;refine ax ?_;refine aa (aB (aw ?_));refine SS ?_
 refine aa (bY (fun s=>aI prog s ⟨ay [(2,.rp 0 0),(3,.rp 1 0),(4,.rp 2 0)],a7 [(0,.cells ((mC w v).map cM) 201),(1,.cells (v.map cM) 201),(2,.cells (replicate 20 (cM 0)) 201)],3⟩) (cy (α:=Nat)
  (fun k=>⟨ay [(2,.rp 0 0),(3,.rp 1 0),(4,.rp 2 0),(6,I k)],a7 [(0,.cells ((gU w v k).map cM) 201),(1,.cells (v.map cM) 201),(2,.cells (replicate 20 (cM 0)) 201)],3⟩)
  (fun k=>k<=20) (fun k=>20 - k) 0 (bQ eH eH) oG ?_) ?_)
 .intro k hk;refine SS ?_;refine aa ⟨_,rfl,fun h=>?_,fun h=>?_⟩
  .have af:k<20:=by have h:(k:Int)<20:=by simpa using h
                    omega
   have DV:(gU w v k).length=20:=by simp[M]
   have hi:(gU w v k)[k]? =some (gU w v k)[k]:=aU oG;have hj:v[k]? =some v[k]:=aU oG;have hg:(gU w v k).getD k 0=(gU w v k)[k]:=by simp[dx,hi]
   have C:v.getD k 0=v[k]:=by simp[dx,hj]
   have kd:=mY (f:=cM) hi;have U:=mY (f:=cM) hj;refine ws ?_;refine ab ?_;refine aa (z7 Y9 ?_);refine bu ?_;refine au (j7 rfl rfl U V.h) ak (j8 V.h V.h U) ?_;refine au (S0 rfl rfl) ak rfl ?_;refine ab ?_;refine ct cG ?_;refine ab ?_;refine aa (bg (k+1) (bQ eH ⟨?_,rfl,rfl,trivial⟩) oG oG);rw[ah];simp only[gU,hg,C,List.map_set];rfl
  .have bl:¬ k<20:=by intro hh;simp at h;omega
   have:k=20:=by omega
   subst this;exact .forget _ _ _ _ fun t=>pz (l:=[(2,.rp 0 0),(3,.rp 1 0),(4,.rp 2 0)]) ⟨rfl,rfl,rfl,trivial⟩ t
 .intro s hg;have J:(mC w v).length=20:=by simp[M]
  generalize mC w v=u at hg J ⊢;refine⟨_,hg,aj ?_⟩;refine ab ?_;refine aa (qT (gy rfl rfl a201 rj (np oP) t201 oP) ?_);rfl
def ahX:Int:=18446744073709551615
theorem LW:aA prog 178 [] (gq (replicate 20 ahX)):=by
 exact nW n4 100 rfl kr
theorem DC{w:List Int}{x:cW}(C:w.length=20)(hn:x.op=18->0<=x.n/\x.n<80)(ht:x.op≠18-> -1000000<=ka x/\ka x<1280):aA prog 183 [gq w,.agg (cv x)] (gq (qY w (if x.op=18 then mX x.n else ka x))):=by
 have J:∀ a∈[gq w,.agg (cv x)],Tr a:=.cons (p7 _) (.cons (.agg (xj x)) .nil);refine bj aez J (p7 _) ?_;rw[aeA];refine ws ?_;refine ax ?_;refine aa (aB (aj ?_));refine ax ?_;refine aa (cR rfl (fun h=>?_) fun h=>cI (ep Y' ?_))
 .have h:x.op=18:=by simpa using h
  have hx:=hn h;have uu:=uu (n:=x.n) oG;have p8:=p8 (w:=w) (n:=mX x.n) C (by unfold mX;omega);refine aB (ep Za ?_);refine ax ?_;refine cl uu ?_;refine cl p8 ?_;refine SS ?_;refine ct cG (ed (qT (gy rfl rfl a201 rj (np oP) t201 oP) ?_));simp[h]
 .have h:x.op≠18:=by simpa using h
  have AY:=AY (x:=x);have p8:=p8 (w:=w) (n:=ka x) C (ht h);refine SS ?_;refine au (eL (vs:=cv _) rfl rfl V.h V.h rfl) ak (eM V.h V.h (by first|(simp;done)|omega|exact bC rfl)) ?_;refine cl AY ?_;refine cl p8 ?_;refine SS ?_;refine ct cG (qT (gy rfl rfl a201 rj (np oP) t201 oP) ?_);simp[h]
end Go.Proofs.Tryz.K
namespace Go.Argus
def mS(x:End):Bool:=decide (0<=x.others)&&bO [5,6,8] x.kind
def ek(x:End):List Int:=if bO [3,4] x.kind then [] else x.to::((if bO [2,8] x.kind then [x.gN] else [])++(x.aR.map (·.to)++(if mS x then [x.others] else [])))
def pv(x:End):Nat:=if bO [2,8] x.kind then 2 else 1
theorem aaU{x:End}(h:bO [3,4] x.kind=false):(ek x)[0]? =some x.to/\(bO [2,8] x.kind=true->(ek x)[1]? =some x.gN)/\(∀ (j:Nat) w,x.aR[j]? =some w->(ek x)[pv x+j]? =some w.to)/\
 (mS x=true->(ek x)[pv x+x.aR.length]? =some x.others)/\(ek x).length=pv x+x.aR.length+(if mS x then 1 else 0):=by
 unfold ek pv;generalize mS x=c;rw[if_neg (by simp[h])];cases h2:bO [2,8] x.kind with
 |true=>
  refine⟨rfl,fun _=>rfl,fun j w hj=>?_,fun hc=>?_,?_⟩
  .have:j<x.aR.length:=(bK.1 hj).1;simp only[if_true,List.singleton_append];rw[show 2+j=j+1+1 by omega,List.getElem?_cons_succ,List.getElem?_cons_succ,List.getElem?_append_left (by simpa using this)];simp[hj]
  .simp only[if_true,List.singleton_append];rw[show 2+x.aR.length=x.aR.length+1+1 by omega,List.getElem?_cons_succ,List.getElem?_cons_succ,List.getElem?_append_right oS];rw[if_pos hc];simp
  .cases c<;>simp<;>omega
 |false=>
  refine⟨rfl,fun h=>oH,fun j w hj=>?_,fun hc=>?_,?_⟩
  .have:j<x.aR.length:=(bK.1 hj).1;simp only[Bool.false_eq_true,if_false,List.nil_append];rw[show 1+j=j+1 by omega,List.getElem?_cons_succ,List.getElem?_append_left (by simpa using this)];simp[hj]
  .simp only[Bool.false_eq_true,if_false,List.nil_append];rw[show 1+x.aR.length=x.aR.length+1 by omega,List.getElem?_cons_succ,List.getElem?_append_right oS];rw[if_pos hc];simp
  .cases c<;>simp<;>omega
def Kz(x:End)(b:Int):Bool:=dt x.to b&&dt ((ek x).count b:Nat) 1
theorem J6(x:End):(ek x).length<=x.aR.length+3:=by
 unfold ek;split
 .simp
 .simp only[List.length_cons,List.length_append,List.length_map];split<;>split<;>simp<;>omega
end Go.Argus
namespace Go.Abs
theorem xF{P:Program}{Y:ea}{rf:Bool}{Q:Exit->St->Prop}{st:St}[dD Y]{ops:Array Oper}{i:Nat}(h:aq P Y ops false [] (eP (Q .normal)) ops.toList st []):AW P Y rf (.region i ops false) Q st:=jP (rf:=rf) (id:=i) (aq.iQ h fun _ h=>h)
section
variable{P:Program}{env:Env}{m:Mem}{nx:Nat}{x y:Operand}{t p:TypeId}{k:IntKind}{n n':Int}
theorem Sw(hx:(opd env x).core=.s (.int .i64 n))(hy:(opd env y).core=.s (.int .i64 n')){r:Int}(hd:n - n'=r/\ -9223372036854775808<=r/\r<=9223372036854775807):Ef P (.binOp .sub t x y p) env m nx ⟨IntKind.i64=IntKind.i64,.s (.int .i64 r),[],[],0⟩:=by
 obtain⟨rfl,h⟩:=hd;exact KU hx hy h
theorem mr{j i l:Nat}{e:TypeId}{r:Row}(hx:(opd env x).core=.rs j 0 l)(hy:(opd env y).core=.s (.int k (i:Int)))(hm:m j=some r)(he:aD P t=e)(hs:P.cellsOf e=1):
 Ef P (.indexAddr t x y) env m nx ⟨bi P t=true/\i<l,.rp j i,[],[j],0⟩:=by
 have h:=Ge (P:=P) (env:=env) (m:=m) (nx:=nx) (t:=t) hx hy hm he hs;have h1:0+((i:Int)).toNat*1=i:=by simp
 have h2:(bi P t=true/\(0:Int)<=(i:Int)/\(i:Int)<l)=(bi P t=true/\i<l):=by
  apply propext;constructor
  .rintro⟨a,_,b⟩;exact⟨a,oG⟩
  .rintro⟨a,b⟩;exact⟨a,oG,oG⟩
 rw[h1,h2] at h;exact h
theorem uh{α:Type}(f:Nat->α)(i:Nat)(a b:α):up (up f i a) i b=up f i b:=by
 funext j;simp only[up];split<;>rfl
variable{Y:ea}{rf:Bool}{Q:Exit->St->Prop}{st:St}{id fR i1 i3:Nat}{rc ri:Array Oper}{body:Code}{α:Type}{cf:List (Nat×Nat)}{u:Nat}
theorem adH[dD Y](hi:bT rc=some cf)(S:α->St)(J:α->Prop)(μ:α->Nat)(C:α)(hg:aI P st (S C))(U:J C)
 (h:∀ x,J x->aq P Y rc true cf (eP fun s=>∃ g,opd s.env (.tmp u)=.s (.bool g)/\(g=true->AW P Y rf body (k9 fR id (fun s=>aq P Y ri false [] (eP (xX P S J μ x)) ri.toList s []) Q) s)/\(g=false->Q .normal s)) rc.toList (S x) []):
 ∃ st',aI P st st'/\AW P Y rf (.block id (.loop (.seq (.seq (.region i1 rc true) (.cond (.tmp u) .skip (.exit id))) (.seq (.block fR body) (.region i3 ri false))))) Q st':=by
 refine Cr (Q:=fq id Q) S J μ C hg U (fun x hx=>?_) (a:=.skip) fun _ h=>h;refine aB (An (rf:=rf) (id:=i1) hi (aq.iQ (h x hx) fun s hs=>?_));obtain⟨g,h1,h2,M⟩:=hs;refine⟨s,.refl s,cR h1 (fun X=>?_) fun y6=>?_⟩
 .exact cI (JS (h2 X))
 .refine tm ?_;simp only[fJ,fq,if_true];exact M y6
theorem tv{l:List (Nat×D)}{m':Mem}(h:kX l env)(hm:m=m'):aI P ⟨env,m,nx⟩ ⟨ay l,m',nx⟩:=hm▸av h
end
end Go.Abs
namespace Go.Proofs.Tryz.K
theorem uw{x:Argus.End}:aA prog 175 [.agg (bw x)] (.fn (.func 234) [] [.pt (bw x)]):=by
 have C:∀ a∈[D.agg (bw x)],Tr a:=.cons (.agg (pB x)) .nil;refine bj ae0 C (.fn oS (.cons (.pt (pB x)) .nil)) ?_;rw[ae1];refine aw ?_;refine SS ?_;refine au (jx (v:=.s .nilFunc) rfl) ak trivial ?_;refine aa (bG (dB [(0,bw x,57)] eH (l:=[(1,.pt (bw x))]) eH) (aj ?_));refine SS ?_;refine au (jx (v:=.fn _ _ _) rfl) ak trivial ?_;exact aa (aF rfl rfl)
def Na(l:Nat)(x:Argus.End)(I':Nat->Mem->Nat->Prop)(n:Nat)(s:St):Prop:=∃ m nx,aI prog s ⟨ay [(0,.fn (.yield l) [] []),(1,.pt (bw x))],m,nx⟩/\I' n m nx
theorem Ul{x:Argus.End}(hlen:x.aR.length<=100000):vX prog 234 [] [.pt (bw x)] ((ek x).map fun n=>[I n]):=by
 refine adm mixed ae2 kr fun l I' Stop m nx hI Db h0=>?_;rw[ae3];by_cases U:bO [3,4] x.kind=true
 .have hC:((ek x).map fun n=>[I n]).length=0:=by simp[ek,U]
  rw[hC];by_cases M:x.kind=3
  .have nG:(x.kind==3)=true:=by simpa using M
   refine aB (aj ?_);refine aZ ?_;(iterate 3 refine z fun _ _=>?_);refine ab ?_;(iterate 5 refine z fun _ _=>?_);refine SS ?_;refine aa (cR rfl (fun h=>xD (bJ (bE (vy (.inl h0))))) fun h=>oH)
  .have h4:x.kind=4:=by simpa[bO,M] using U
   have nG:(x.kind==3)=false:=by simpa using M
   have Dc:(x.kind==4)=true:=by simpa using h4
   refine aB (aj ?_);refine bt ?_;(iterate 5 refine z fun _ _=>?_);refine SS ?_;refine aa (cR rfl (fun h=>xD (bJ (bE (vy (.inl h0))))) fun h=>oH)
 have U:bO [3,4] x.kind=false:=by simpa using U
 obtain⟨x0,x1,xw,xo,xl⟩:=aaU U;have C:∀ {k:Nat} {n:Int},(ek x)[k]? =some n->((ek x).map fun n=>[I n])[k]? =some [I n]:=fun h=>by simp[h]
 have Dg:((ek x).map fun n=>[I n]).length=pv x+x.aR.length+(if mS x then 1 else 0):=by simpa using xl
 have Vr:x.kind≠3/\x.kind≠4:=by simpa[bO] using U
 refine iL (Na l x I' 1) ?_ fun s hs=>?_
 .have nG:(x.kind==3)=false:=by simpa using Vr.1
  have Dc:(x.kind==4)=false:=by simpa using Vr.2
  refine ws ?_;refine bt ?_;refine ax ?_;refine K5 rfl rfl rfl rfl aK ⟨rfl,0,C x0,h0,fun d m' J hp=>?_⟩;rcases hp with⟨rfl,hp⟩|⟨rfl,hp⟩
  .refine ab ?_;exact aa (aO rfl (fun h=>oH) fun h=>cJ ⟨m',J,av eH,hp⟩)
  .refine ab ?_;exact aa (aO rfl (fun h=>bJ (bE (vy (.inr hp)))) fun h=>oH)
 obtain⟨m1,bR,hg,h1⟩:=hs;refine⟨_,hg,?_⟩;clear hg h0;refine iL (Na l x I' (pv x)) ?_ fun s hs=>?_
 .have X:bO [2,8] x.kind=true->(ek x)[1]? =some x.gN/\pv x=2:=fun h=>⟨x1 h,by simp[pv,h]⟩
  by_cases h2:x.kind=2
  .obtain⟨y1,y2⟩:=X (by rw[h2];rfl);have nG:(x.kind==2)=true:=by simpa using h2
   refine ws ?_;refine aZ ?_;(iterate 3 refine z fun _ _=>?_);refine bu ?_;refine K5 rfl rfl rfl rfl aK ⟨rfl,1,C y1,h1,fun d m' J hp=>?_⟩;rcases hp with⟨rfl,hp⟩|⟨rfl,hp⟩
   .refine ab ?_;exact aa (aO rfl (fun h=>oH) fun h=>cJ ⟨m',J,av eH,y2▸hp⟩)
   .refine ab ?_;exact aa (aO rfl (fun h=>bJ (bE (vy (.inr hp)))) fun h=>oH)
  .have nG:(x.kind==2)=false:=by simpa using h2
   by_cases h8:x.kind=8
   .obtain⟨y1,y2⟩:=X (by rw[h8];rfl);have Dc:(x.kind==8)=true:=by simpa using h8
    refine ws ?_;refine bt ?_;refine ax ?_;refine K5 rfl rfl rfl rfl aK ⟨rfl,1,C y1,h1,fun d m' J hp=>?_⟩;rcases hp with⟨rfl,hp⟩|⟨rfl,hp⟩
    .refine ab ?_;exact aa (aO rfl (fun h=>oH) fun h=>cJ ⟨m',J,av eH,y2▸hp⟩)
    .refine ab ?_;exact aa (aO rfl (fun h=>bJ (bE (vy (.inr hp)))) fun h=>oH)
   .have Dc:(x.kind==8)=false:=by simpa using h8
    have hb:pv x=1:=by simp[pv,bO,h2,h8]
    refine ws ?_;refine bt ?_;(iterate 5 refine z fun _ _=>?_);refine SS ?_;exact aa (aO rfl (fun h=>oH) fun h=>cJ ⟨m1,bR,av eH,hb▸h1⟩)
 obtain⟨m2,gM,hg,h2⟩:=hs;refine⟨_,hg,?_⟩;clear hg;refine iL (Na l x I' (pv x+x.aR.length)) (aw ?_) fun s hs=>?_
 .refine aZ ?_
  refine aa (cy (α:=Nat×Mem×Nat) (fun k=>⟨ay [(0,.fn (.yield l) [] []),(1,.pt (bw x)),(36,lB x.aR),(37,I x.aR.length),(38,I k.1)],k.2.1,k.2.2⟩)
   (fun k=>k.1<=x.aR.length/\I' (pv x+k.1) k.2.1 k.2.2) (fun k=>x.aR.length - k.1) (0,m2,gM) (av eH) ⟨oG,h2⟩ ?_)
  rintro⟨k,m3,Vs⟩ ⟨hk,Hz⟩;refine SS ?_;refine aa ⟨_,rfl,fun h=>?_,fun h=>?_⟩
  .have af:k<x.aR.length:=by simpa using h
   have hx:x.aR[k]? =some x.aR[k]:=by simp[af]
   generalize x.aR[k]=w at hx;refine ws ?_;refine aZ ?_;refine er ?_;refine ab ?_;refine au (j7 rfl (ah _ _ _) rfl V.h) ak (j8 V.h V.h rfl) ?_;refine LO rfl rfl aK ⟨rfl,pv x+k,C (xw k w hx),hI _ _ _ _ _ Hz oG (fun i hi=>ag oG (ag oG rfl)),fun d m' J hp=>?_⟩;rcases hp with⟨rfl,hp⟩|⟨rfl,hp⟩
   .refine SS ?_;refine aa (aO rfl (fun h=>oH) fun h=>cT ?_);refine ab ?_;exact aa (bg (k+1,m',J) (av eH) ⟨by simp only;omega,hp⟩ (by simp only;omega))
   .refine SS ?_;exact aa (aO rfl (fun h=>bJ (cu (bE (vy (.inr hp))))) fun h=>oH)
  .have bl:¬ k<x.aR.length:=by simpa using h
   have:k=x.aR.length:=by simp only at hk;omega
   subst this;exact⟨m3,Vs,.forget _ _ _ _ fun t=>pz (l:=[(0,.fn (.yield l) [] []),(1,.pt (bw x))]) ⟨rfl,rfl,trivial⟩ t,Hz⟩
 obtain⟨m3,Vs,hg,M⟩:=hs;refine⟨_,hg,aj ?_⟩;refine bt ?_;refine bt ?_;refine aa (aO rfl (fun h=>?_) fun h=>?_)
 .have hc:mS x=true:=by
   revert h;unfold mS bO;simp[ib,or_assoc]
  refine xF ?_;refine ax ?_;refine LO rfl rfl aK ⟨rfl,_,C (xo hc),M,fun d m' J hp=>?_⟩;refine aa (vz ?_);rcases hp with⟨rfl,hp⟩|⟨rfl,hp⟩
  .left;rw[Dg,if_pos hc];exact hp
  .exact .inr hp
 .have hc:mS x=false:=by
   revert h;unfold mS bO;simp[ib,and_assoc]
  refine cT (vz (.inl ?_));rw[Dg,hc];exact M
theorem L3{x:Argus.End}{b:Int}(hlen:x.aR.length<=1000):aA prog 185 [.agg (bw x),I b] (B (Kz x b)):=by
 have J:∀ a∈[D.agg (bw x),I b],Tr a:=.cons (.agg (pB x)) (.cons (.s _) .nil);have uw:=uw (x:=x);have hl:=J6 x;refine bj afb J (Tr.s _) ?_;rw[afc];refine aw ?_;refine SS ?_;refine eA (Gc (d:=.s (.int _ _)) rfl rfl) ak rfl ?_;refine SS ?_;refine aa (bG (dB [(0,bw x,57),(1,[I b],3)] eH (l:=[(2,.pt (bw x)),(3,.pt [I b])]) eH) (aj ?_));refine ab ?_;refine aa ?_;refine iL (fun s=>∃ n',aI prog s ⟨ay [(2,.pt (bw x)),(3,.pt [I b]),(5,.rp 2 0)],a7 [(2,.cells [I ((ek x).count b:Nat)] 3)],n'⟩) (aj ?_) fun s hs=>?_
 .refine SS ?_;refine cl uw ?_;refine aa (pA ?_);refine⟨rfl,trivial,234,[],[.pt (bw x)],(ek x).map (fun n=>[I n]),fun k m nx=>m 2=some (.cells [I (((ek x).take k).count b:Nat)] 3)/\3<=nx,rfl,Ul oG,?_,⟨rfl,oS⟩,?_,?_⟩
  .intro y hy;obtain⟨n,_,rfl⟩:=List.mem_map.1 hy;exact⟨rfl,.cons (.s _) .nil⟩
  .rintro k m nx y hy ⟨ap,M⟩;simp only[List.getElem?_map,cP] at hy;obtain⟨n,hn,rfl⟩:=hy;have hk:k<(ek x).length:=(bK.1 hn).1
   have hc:((ek x).take (k+1)).count b=((ek x).take k).count b+(if n=b then 1 else 0):=by
    rw[List.take_add_one,hn,List.count_append];by_cases e:n=b
    .subst e;simp
    .simp[e]
   have C:((ek x).take k).count b<=k:=Nat.le_trans List.count_le_length oP;generalize ((ek x).take k).count b=c at ap hc C;refine xF ?_;refine SS ?_;refine aa (show AW _ _ _ _ _ _ from pA (aj ?_));refine ax ?_;refine aa (aO rfl (fun h=>?_) fun h=>?_)
   .have h:n=b:=by simpa using h
    refine xF ?_;refine ab ?_;refine bM (eg (d:=.s (.int _ _)) (cs':=[_]) rfl rfl ap rfl rfl) ak (bU V.h V.h (by first|(simp;done)|exact⟨rfl,bC rfl⟩|(simp;omega)) rfl) ?_;refine aa ?_;refine⟨?_,oM⟩;dsimp only;refine(ah _ _ _).trans ?_;rw[hc,if_pos h];simp
   .have h:¬ n=b:=by simpa using h
    exact cT ⟨by rw[hc,if_neg h];exact ap,M⟩
  .rintro m nx ⟨h1,h2⟩;refine⟨nx,bQ eH ⟨?_,trivial⟩⟩;rw[h1,List.length_map,List.take_length]
 obtain⟨n',hg⟩:=hs;refine⟨_,hg,aj ?_⟩;refine bt ?_;refine aa (aF (d:=.s (.bool _)) rfl ?_);simp[Kz,dt,ib]
theorem L4{f:FuncId}{cs:List D}{xs:List Int}(hs:vX prog f [] cs (xs.map fun n=>[I n]))(ht:Tr (.fn (.func f) [] cs))(hlen:xs.length<=100000):ko prog 251 [.z,.fn (.func f) [] cs] (xs.map I) xs.length 3:=by
 have X:∀ a∈[D.z,.fn (.func f) [] cs],Tr a:=.cons .z (.cons ht .nil);refine HO afd X (.map fun _=>.s _) ?_;rw[afe];refine ws ?_;refine eA (Gc (d:=.z) rfl rfl) ak rfl ?_;refine SS ?_;refine aa ?_;refine iL (fun s=>(xs=[]/\∃ n',aI prog s ⟨ay [(2,.rp 0 0)],a7 [(0,.cells [.z] 43)],n'⟩)\/∃ r n',0<r/\aI prog s ⟨ay [(2,.rp 0 0)],a7 [(0,.cells [.rs r 0 xs.length] 43),(r,.cells (xs.map I) 3)],n'⟩) (aj ?_) fun s hs=>?_
 .refine SS ?_;refine aa (pA ?_);refine⟨rfl,trivial,f,[],cs,xs.map (fun n=>[I n]),fun k m nx=>1<=nx/\((k=0/\m 0=some (.cells [.z] 43))\/(0<k/\∃ r,0<r/\r<nx/\m 0=some (.cells [.rs r 0 k] 43)/\m r=some (.cells ((xs.take k).map I) 3))),rfl,hs,?_,⟨oS,.inl ⟨rfl,rfl⟩⟩,?_,?_⟩
  .intro y hy;obtain⟨n,_,rfl⟩:=List.mem_map.1 hy;exact⟨rfl,.cons (.s _) .nil⟩
  .rintro k m nx y hy ⟨cx,C⟩;simp only[List.getElem?_map,cP] at hy;obtain⟨n,hn,rfl⟩:=hy;have hk:k<xs.length:=(bK.1 hn).1
   have J:(xs.take (k+1)).map I=(xs.take k).map I++[I n]:=by
    rw[List.take_add_one,hn];simp
   refine xF ?_;refine SS ?_;refine aa (show AW _ _ _ _ _ _ from pA (xF ?_));rcases C with⟨rfl,ap⟩|⟨sW,r,M,U,ap,gn⟩
   .refine aZ ?_;refine bM (eg (d:=.rs _ _ _) (cs':=[_]) rfl rfl (ag oG (ag oG ap)) rfl rfl) ak (bU V.h V.h (by first|(simp;done)|exact⟨rfl,bC rfl⟩|(simp;omega)) rfl) ?_;refine aa ?_;refine⟨oM,.inr ⟨oG,nx+1,oG,oM,?_,?_⟩⟩
    .dsimp only;exact(ah _ _ _).trans rfl
    .dsimp only;exact(ag oG (ah _ _ _)).trans (by rw[J];rfl)
   .have pq:((xs.take k).map I).length=k:=by simp;omega
    refine aZ ?_;refine bM (eg (d:=.rs _ _ _) (cs':=[_]) rfl rfl (ag oG (ag oG (ag oG ap))) rfl rfl) ak (bU V.h V.h (by first|(simp;done)|exact⟨rfl,bC rfl⟩|(simp;omega)) rfl) ?_;refine aa ?_;refine⟨oM,.inr ⟨oG,nx+1,oG,oM,?_,?_⟩⟩
    .dsimp only;exact(ah _ _ _).trans rfl
    .dsimp only;exact(ag oG (ah _ _ _)).trans (by rw[J];rfl)
  .rintro m nx ⟨cx,C⟩;rw[List.length_map] at C;rcases C with⟨h0,ap⟩|⟨sW,r,M,U,ap,gn⟩
   .exact .inl ⟨List.length_eq_zero_iff.1 h0,nx,bQ eH ⟨ap,trivial⟩⟩
   .refine .inr ⟨r,nx,M,bQ eH ⟨ap,?_,trivial⟩⟩;rw[gn,List.take_length]
 rcases hs with⟨rfl,n',hg⟩|⟨r,n',hr,hg⟩
 .refine⟨_,hg,aw ?_⟩;refine ab ?_;refine aa ⟨_,.o0 _ _ _ 4 3 rfl,aF rfl ⟨n',?_,ah _ _ _⟩⟩;rfl
 .refine⟨_,hg,aj ?_⟩;refine ab ?_;refine aa (aF rfl ⟨r,rfl,?_⟩);simp[a7];omega
theorem L5{f:FuncId}{cs:List D}{xs:List Int}(hs:vX prog f [] cs (xs.map fun n=>[I n]))(ht:Tr (.fn (.func f) [] cs))(hlen:xs.length<=100000):ko prog 244 [.fn (.func f) [] cs] (xs.map I) xs.length 3:=by
 have C:∀ a∈[.fn (.func f) [] cs],Tr a:=.cons ht .nil;refine HO aff C (.map fun _=>.s _) ?_;rw[afg];have L4:=L4 hs ht hlen;refine ws ?_;refine SS ?_;refine er ?_;refine SS ?_;refine K4 L4 rfl aK ?_;refine SS ?_;exact aa (aF rfl ⟨0,rfl,rfl⟩)
end Go.Proofs.Tryz.K
namespace Go.Argus
def swapAt(l:List Int)(j:Nat):List Int:=(l.set (j+1) (l.getD j 0)).set j (l.getD (j+1) 0)
def ow(l:List Int):Nat->List Int
 |0=>l
 |j+1=>if l.getD (j+1) 0<l.getD j 0 then ow (swapAt l j) j else l
def mD(l:List Int):Nat->List Int
 |0=>l
 |k+1=>ow (mD l k) (k+1)
def nt(l:List Int):List Int:=mD l (l.length - 1)
@[simp] theorem amj (l : List Int) (j : Nat) : (swapAt l j).length = l.length := by simp [swapAt]
@[simp] theorem abc : ∀ (j : Nat) (l : List Int), (ow l j).length = l.length
 |0,l=>rfl
 |j+1,l=>by simp only[ow];split<;>simp[abc j]
@[simp] theorem PS (l : List Int) : ∀ k, (mD l k).length = l.length
 |0=>rfl
 |k+1=>by simp[mD,PS l k]
@[simp] theorem PT (l : List Int) : (nt l).length = l.length := PS l _
def ff(d:List Int):Nat->List Int
 |0=>[]
 |t+1=>ff d t++(if t≠0/\d.getD t 0=d.getD (t - 1) 0 then [] else [d.getD t 0])
def mZ(d:List Int):List Int:=ff d d.length
theorem RW{d:List Int}{x:Int}:∀ {t:Nat},t<=d.length->(x∈ff d t↔x∈d.take t)
 |0,_=>by simp[ff]
 |t+1,ht=>by
  have ih:=RW (d:=d) (x:=x) (t:=t) oG;have hg:d.getD t 0=d[t]:=by simp[dx,aU (show t<d.length by omega)]
  rw[ff,List.mem_append,ih,List.take_succ_eq_append_getElem oG,List.mem_append];split
  .rename_i h;have h1:d[t - 1]? =some d[t - 1]:=aU oG
   have C:d[t]∈d.take t:=by
    rw[<- hg,h.2];have:d.getD (t - 1) 0=d[t - 1]:=by simp[dx,h1]
    rw[this];exact bD (i:=t - 1) (by rw[List.getElem?_take,if_pos oG,h1])
   constructor
   .rintro(h|h)
    .exact .inl h
    .simp at h
   .rintro(h|h)
    .exact .inl h
    .simp at h;subst h;exact .inl C
  .rw[hg]
theorem RX{d:List Int}:∀ t,(ff d t).length<=t
 |0=>by simp[ff]
 |t+1=>by
  have:=RX (d:=d) t;rw[ff,List.length_append];split<;>simp<;>omega
theorem SG{d:List Int}{t:Nat}(ht:t<d.length)(h0:t≠0)(h:d.getD t 0=d.getD (t - 1) 0):ff d (t+1)=ff d t:=by
 rw[ff,if_pos ⟨h0,h⟩,List.append_nil]
theorem SH{d:List Int}{t:Nat}(h:d.getD t 0≠d.getD (t - 1) 0):ff d (t+1)=ff d t++[d.getD t 0]:=by
 rw[ff,if_neg fun hh=>h hh.2]
end Go.Argus
namespace Go.Proofs.Tryz.K
theorem ajm{a:Int}:aA prog 277 [I a] (B false):=by
 refine bj afu (by simp[Tr.s]) (Tr.s _) ?_;rw[afv];refine ws ?_;refine SS ?_;refine er ?_;refine aZ ?_;refine aa (aF (d:=.s (.bool _)) rfl ?_);simp[bne]
theorem ajn{a b:Int}:aA prog 266 [I a,I b] (B (decide (a<b))):=by
 refine bj afw (by simp[Tr.s]) (Tr.s _) ?_;rw[afx];refine ws ?_;refine SS ?_;refine er ?_;refine SS ?_;refine cl ajm ?_;refine SS ?_;(iterate 3 refine z fun _ _=>?_);refine iu ?_;exact aa (aF (d:=.s (.bool _)) rfl rfl)
theorem ajo{m:Mem}{nx i n:Nat}{l:List Int}(hi:i<nx)(hm:m i=some (.cells (l.map I) 3))(hl:l.length=n)(hn:n<=12):
 fD prog 260 [.rs i 0 n,I 0,I n] m nx (fun r m' X=>r=.aL []/\X=nx/\m'=up m i (some (.cells ((nt l).map I) 3))):=by
 refine uR afy ?_;rw[afz]
 have U:up m i (some (.cells (l.map I) 3))=m:=by
  funext j;simp only[up];split
  .rename_i e;rw[e,hm]
  .rfl
 refine aw ?_;refine ax ?_;refine aa (kq (α:=Nat) (fun k=>⟨ay [(0,.rs i 0 n),(1,I 0),(2,I n),(6,I (k+1:Nat))],up m i (some (.cells ((mD l k).map I) 3)),nx⟩) (fun k=>k<=n - 1) (fun k=>n - k) 0 (tv eH U.symm) oG ?_);intro k hk;refine ax ?_;refine aa ⟨_,rfl,fun h=>?_,fun h=>?_⟩
 .have af:k+1<n:=by have:((k+1:Nat):Int)<n:=by simpa using h
                    omega
  refine aw ?_;refine ab ?_;refine aa (adH ZE (α:=List Int×Nat) (fun s=>⟨ay [(0,.rs i 0 n),(1,I 0),(2,I n),(6,I (k+1:Nat)),(7,I s.2)],up m i (some (.cells (s.1.map I) 3)),nx⟩) (fun s=>s.1.length=n/\s.2<=k+1/\ow s.1 s.2=mD l (k+1)) (fun s=>s.2) (mD l k,k+1) (av eH) ⟨by simp[hl],oS,rfl⟩ ?_);rintro⟨d,j⟩ ⟨hd,hj,hs⟩;simp only at hd hj hs;cases j with
  |zero=>
   have uo:decide ((0:Int)<((0:Nat):Int))=false:=rfl;refine aZ ?_;(iterate 10 refine z fun _ _=>?_);refine SS ?_;refine ct cG ⟨_,rfl,fun h=>oH,fun h=>?_⟩;have hs:d=mD l (k+1):=hs;subst hs;show aq _ _ _ _ _ _ _ _ _;refine ax ?_;exact aa (bg (k+1) (av eH) oG oG)
  |succ j=>
   have ha:d[j+1]? =some d[j+1]:=aU oG;have hb:d[j]? =some d[j]:=aU oG;have J:d.getD (j+1) 0=d[j+1]:=by simp[dx,ha]
   have M:d.getD j 0=d[j]:=by simp[dx,hb]
   have kd:=mY (f:=I) ha;have C:=mY (f:=I) hb;generalize hA:d[j+1]=a at ha J kd;generalize hB:d[j]=b at hb M C;clear hA hB;have uo:decide ((0:Int)<((j+1:Nat):Int))=true:=by simp
   have wa:((j+1:Nat):Int) - 1=(j:Int)/\ -9223372036854775808<=(j:Int)/\(j:Int)<=9223372036854775807:=by omega
   refine cr ?_;refine bd rfl rfl (mr rfl rfl (ah _ _ _) V.h V.h) (fun hc=>⟨ak,⟨V.h,oG⟩⟩) ?_;refine bd rfl rfl (j7 rfl (ah _ _ _) kd V.h) (fun hc=>⟨ak,(j8 V.h V.h kd)⟩) ?_;refine ax ?_;refine bd rfl rfl (mr rfl rfl (ah _ _ _) V.h V.h) (fun hc=>⟨ak,⟨V.h,oG⟩⟩) ?_;refine bd rfl rfl (j7 rfl (ah _ _ _) C V.h) (fun hc=>⟨ak,(j8 V.h V.h C)⟩) ?_;refine gc ajn ?_;refine SS ?_;refine ct cG ⟨_,rfl,fun h=>?_,fun h=>?_⟩
   .have h:a<b:=by simpa using h
    refine z7 ZF ?_;refine bt ?_;refine au (j7 rfl (ah _ _ _) C V.h) ak (j8 V.h V.h C) ?_;refine dG ?_;refine ct cG ?_;refine ax ?_;refine aa (bg (swapAt d j,j) (tv eH ?_) ⟨by simp[hd],by simp only;omega,?_⟩ (by simp only;omega))
    .rw[uh,uh];simp only[swapAt,J,M,List.map_set]
    .rw[<- hs];simp only[ow,J,M,if_pos h]
   .have h:¬ a<b:=by simpa using h
    have hs:d=mD l (k+1):=by rw[<- hs];simp only[ow,J,M,if_neg h]
    subst hs;show aq _ _ _ _ _ _ _ _ _;refine ax ?_;exact aa (bg (k+1) (av eH) oG oG)
 .have bl:¬ k+1<n:=by have h:¬ ((k+1:Nat):Int)<n:=by simpa using h
                      omega
  refine vz ⟨rfl,rfl,?_⟩;have:k=n - 1:=by omega
  subst this;simp only[nt,hl]
theorem ajp{m:Mem}{nx i n:Nat}{l:List Int}{j4:Int}(hi:i<nx)(hm:m i=some (.cells (l.map I) 3))(hl:l.length=n)(hn:n<=12):
 fD prog 252 [.rs i 0 n,I 0,I n,I j4] m nx (fun r m' C=>r=.aL []/\C=nx/\m'=up m i (some (.cells ((nt l).map I) 3))):=by
 refine uR afA ?_;rw[afB];refine ws ?_;refine SS ?_;refine aa (aw ?_);refine SS ?_;refine aa ⟨_,av (l:=[(0,.rs i 0 n),(1,I 0),(2,I n)]) eH,pA (Rx (fun s=>s=⟨ay [(0,.rs i 0 n),(1,I 0),(2,I n)],m,nx⟩) (fun _=>0) rfl fun s hs=>?_)⟩;subst hs;refine pA (aj ?_);refine aZ ?_;refine aa (aB (aj ?_));refine ab ?_;refine aa (cR rfl (fun h=>?_) fun h=>?_)
 .refine aB (aj ?_);refine ax ?_;refine gm (ajo hi hm hl hn) rfl aK fun r m' C hp=>?_;obtain⟨rfl,rfl,rfl⟩:=hp;exact aa (ed (eu (bE (eu (vy ⟨rfl,rfl,rfl⟩)))))
 .have:¬ ((n:Int) - 0<=12):=by simpa using h
  omega
theorem L9{n:Nat}(hn:n<=12):∃ r,aA prog 253 [.s (.int .u64 (IntKind.u64.wrap (n:Int)))] (I r):=by
 match n,hn with
 |0,_=>exact⟨0,nW n4 100 rfl kr⟩
 |1,_=>exact⟨1,nW n4 100 rfl kr⟩
 |2,_=>exact⟨2,nW n4 100 rfl kr⟩
 |3,_=>exact⟨2,nW n4 100 rfl kr⟩
 |4,_=>exact⟨3,nW n4 100 rfl kr⟩
 |5,_=>exact⟨3,nW n4 100 rfl kr⟩
 |6,_=>exact⟨3,nW n4 100 rfl kr⟩
 |7,_=>exact⟨3,nW n4 100 rfl kr⟩
 |8,_=>exact⟨4,nW n4 100 rfl kr⟩
 |9,_=>exact⟨4,nW n4 100 rfl kr⟩
 |10,_=>exact⟨4,nW n4 100 rfl kr⟩
 |11,_=>exact⟨4,nW n4 100 rfl kr⟩
 |12,_=>exact⟨4,nW n4 100 rfl kr⟩
theorem ajq{m:Mem}{nx i n:Nat}{l:List Int}(hi:i<nx)(hm:m i=some (.cells (l.map I) 3))(hl:l.length=n)(hn:n<=12):
 fD prog 245 [.rs i 0 n] m nx (fun r m' C=>r=.aL []/\C=nx/\m'=up m i (some (.cells ((nt l).map I) 3))):=by
 refine uR afC ?_;rw[afD];obtain⟨j4,L9⟩:=L9 hn;have ap:=hm;refine ws ?_;refine ax ?_;refine aa (xF ?_);refine aZ ?_;refine cl L9 ?_;refine gm (ajp hi hm hl hn) rfl aK fun r m' C hp=>?_;obtain⟨rfl,rfl,rfl⟩:=hp;exact aa (vz ⟨rfl,rfl,rfl⟩)
end Go.Proofs.Tryz.K
namespace Go.Abs
section
variable{P:Program}{env:Env}{m:Mem}{nx:Nat}{x y:Operand}{t p:TypeId}{k:IntKind}{n n':Int}
theorem acm{j i l off:Nat}{e:TypeId}{r:Row}(hx:(opd env x).core=.rs j off l)(hy:(opd env y).core=.s (.int k (i:Int)))(hm:m j=some r)(he:aD P t=e)(hs:P.cellsOf e=1):
 Ef P (.indexAddr t x y) env m nx ⟨bi P t=true/\i<l,.rp j (off+i),[],[j],0⟩:=by
 have h:=Ge (P:=P) (env:=env) (m:=m) (nx:=nx) (t:=t) hx hy hm he hs;have h1:off+((i:Int)).toNat*1=off+i:=by simp
 have h2:(bi P t=true/\(0:Int)<=(i:Int)/\(i:Int)<l)=(bi P t=true/\i<l):=by
  apply propext;constructor
  .rintro⟨a,_,b⟩;exact⟨a,oG⟩
  .rintro⟨a,b⟩;exact⟨a,oG,oG⟩
 rw[h1,h2] at h;exact h
theorem PU{i l a:Nat}{cs:List D}{e:TypeId}(hx:(opd env x).core=.rs i 0 l)(hm:m i=some (.cells cs e))(he:aD P t=e)(hs:P.cellsOf e=1)(ha:(opd env y).core=.s (.int .i64 (a:Int))):
 Ef P (.slice t x (some y) none none) env m nx ⟨bi P t=true/\a<=l,.rs i a (l - a),[],[i],0⟩:=by
 have h:=E6 (P:=P) (env:=env) (m:=m) (nx:=nx) (t:=t) (lo:=some y) (hi:=none) (a:=(a:Int)) (b:=(l:Int)) hx hm he hs (by simp[dW,ha,D.int?]) (by simp[dW]);have h1:0+((a:Int)).toNat*1=a:=by simp
 have C:((l:Int) - (a:Int)).toNat=l - a:=by omega
 have h2:((bi P t=true/\1=1)/\(0:Int)<=(a:Int)/\(a:Int)<=(l:Int)/\(l:Int)<=(l:Int))=(bi P t=true/\a<=l):=by
  apply propext;constructor
  .rintro⟨⟨a,_⟩,_,b,_⟩;exact⟨a,oG⟩
  .rintro⟨a,b⟩;exact⟨⟨a,rfl⟩,oG,oG,oG⟩
 rw[h1,h2,C] at h;exact h
theorem ZM{i l b:Nat}{cs:List D}{e:TypeId}(hx:(opd env x).core=.rs i 0 l)(hm:m i=some (.cells cs e))(he:aD P t=e)(hs:P.cellsOf e=1)(hb:(opd env y).core=.s (.int .i64 (b:Int))):
 Ef P (.slice t x none (some y) none) env m nx ⟨bi P t=true/\b<=l,.rs i 0 b,[],[i],0⟩:=by
 have h:=E6 (P:=P) (env:=env) (m:=m) (nx:=nx) (t:=t) (lo:=none) (hi:=some y) (a:=0) (b:=(b:Int)) hx hm he hs (by simp[dW]) (by simp[dW,hb,D.int?]);have h1:0+((0:Int)).toNat*1=0:=by simp
 have C:((b:Int) - 0).toNat=b:=by omega
 have h2:((bi P t=true/\1=1)/\(0:Int)<=0/\(0:Int)<=(b:Int)/\(b:Int)<=(l:Int))=(bi P t=true/\b<=l):=by
  apply propext;constructor
  .rintro⟨⟨a,_⟩,_,_,b⟩;exact⟨a,oG⟩
  .rintro⟨a,b⟩;exact⟨⟨a,rfl⟩,oG,oG,oG⟩
 rw[h1,h2,C] at h;exact h
theorem acG{i off l:Nat}{cs z:List D}{e:TypeId}(hx:(opd env x).core=.rs i off l)(hm:m i=some (.cells cs e))(he:aD P t=e)(hz:a6 P e=z):
 Ef P (.call { callee:=.builtin .clear,args:= #[x],argTypes:= #[t] }) env m nx ⟨bi P t=true/\off+l*P.cellsOf e<=cs.length/\e=e,.aL [],[(i,some (.cells (gC cs off (dC l z)) e))],[i],0⟩:=by
 refine xW («aS»:=[.rs i off l]) rfl (by simp[hx]) ?_;simp only[fB,hm,hz,Array.getD_eq_getD_getElem?,List.getElem?_toArray,List.getElem?_cons_zero,Option.getD_some,he]
theorem Yi{cs:List D}{n k:Nat}{x:D}(hn:cs.length=n)(hk:k<=n):gC cs k (dC (n - k) [x])=cs.take k++replicate (n - k) x:=by
 have hr:dC (n - k) [x]=replicate (n - k) x:=by
  unfold dC;generalize n - k=j
  induction j with
  |zero=>rfl
  |succ j ih=>simp[List.replicate_succ,ih]
 rw[hr];unfold gC;split
 .rename_i y e;have h1:n - k=1:=by have:=congrArg List.length e;simpa using this
  rw[h1] at e ⊢;simp at e;subst e;rw[List.set_eq_take_append_cons_drop,if_pos oG,List.drop_eq_nil_of_le oG];rfl
 .rw[List.length_replicate,List.drop_eq_nil_of_le oG,List.append_nil]
end
end Go.Abs
namespace Go.Proofs.Tryz.K
def Dn(d:List Int)(n:Nat):List D:=(mZ d).map I++replicate (n - (mZ d).length) (I 0)
def RY(d:List Int)(n:Nat)(m:Mem)(nx i:Nat)(r:D)(m':Mem)(C:Nat):Prop:=C=nx/\r=.rs i 0 (mZ d).length/\m'=up m i (some (.cells (Dn d n) 3))
def adJ(d:List Int)(m:Mem)(nx i:Nat)(r:D)(m':Mem)(C:Nat):Prop:=C=nx/\r=.rs i 0 (mZ d).length/\∃ c,m'=up m i (some (.cells c 3))/\c.take (mZ d).length=(mZ d).map I
theorem afE{m:Mem}{nx i n:Nat}{d:List Int}(hi:i<nx)(hm:m i=some (.cells (d.map I) 3))(hl:d.length=n)(hn:n<=100000):fD prog 232 [.rs i 0 n] m nx (RY d n m nx i):=by
 refine uR afF ?_;rw[afG];have ap:=hm
 have U:up m i (some (.cells (d.map I) 3))=m:=by
  funext j;simp only[up];split
  .rename_i e;rw[e,hm]
  .rfl
 have whole:ff d n=d->RY d n m nx i (.rs i 0 n) m nx:=fun h=>by
  have h:mZ d=d:=by unfold mZ;rw[hl];exact h
  refine⟨rfl,by rw[h,hl],?_⟩;rw[Dn,h,hl,Nat.sub_self,List.replicate_zero,List.append_nil,U]
 refine ws ?_;refine SS ?_;refine aa (aB (aj ?_));refine ax ?_;refine aa (cR rfl (fun h=>?_) fun h=>cI (aB (aw ?_)))
 .have h:n<2:=by have h:(n:Int)<2:=by simpa using h
                 omega
  refine aB (aj ?_);refine ab ?_;refine aa (ed (aF rfl (whole ?_)))
  match d,n,hl,h with
  |[],_,rfl,_=>rfl
  |[a],_,rfl,_=>rfl
 have h2:2<=n:=by have h:¬ (n:Int)<2:=by simpa using h
                  omega
 refine SS ?_;refine aa (bY (fun s=>aI prog s ⟨ay [(0,.rs i 0 n)],m,nx⟩/\ff d n=d) (kq (α:=Nat) (fun k=>⟨ay [(0,.rs i 0 n),(3,I k)],m,nx⟩) (fun k=>1<=k/\k<=n/\ff d k=d.take k) (fun k=>n - k) 1 (av eH) ⟨oG,oG,?_⟩ ?_) ?_)
 .match d,hl with
  |a::t,_=>rfl
  |[],hl=>simp at hl;omega
 .rintro k ⟨yX,hk,J⟩;refine aZ ?_;refine aa ⟨_,rfl,fun h=>?_,fun h=>?_⟩
  .have af:k<n:=by have h:(k:Int)<n:=by simpa using h
                   omega
   obtain⟨j,rfl⟩:∃ j,k=j+1:=⟨k - 1,oG⟩
   have ha:d[j+1]? =some d[j+1]:=aU oG;have hb:d[j]? =some d[j]:=aU oG;have ga:d.getD (j+1) 0=d[j+1]:=by simp[dx,ha]
   have gb:d.getD j 0=d[j]:=by simp[dx,hb]
   have kd:=mY (f:=I) ha;have C:=mY (f:=I) hb;have wa:((j+1:Nat):Int) - 1=(j:Int)/\ -9223372036854775808<=(j:Int)/\(j:Int)<=9223372036854775807:=by omega
   refine ep ZN ?_;refine dG ?_;refine au (j7 rfl ap C V.h) ak (j8 V.h V.h C) ?_;refine SS ?_;refine ct cG (aO rfl (fun h=>?_) fun h=>?_)
   .have sY:d[j+1]=d[j]:=by simpa using h
    refine ws ?_;refine ab ?_;refine au (PU rfl ap V.h V.h rfl) ak ⟨V.h,oG⟩ ?_;refine SS ?_;refine aa (aB (aw ?_));refine SS ?_;have ajU:ff d (j+1+1)=ff d (j+1):=SG oG oG (by rw[ga,show j+1 - 1=j by omega,gb];exact sY);have sW:(ff d (j+1)).length=j+1:=by rw[J];simp;omega
    clear kd C wa
    refine aa (bY (fun s=>∃ (c:List Int) (k:Nat),aI prog s ⟨ay [(0,.rs i 0 n),(3,I (k:Nat))],up m i (some (.cells (c.map I) 3)),nx⟩/\c.length=n/\k<=n/\c.take k=ff d n) (kq (α:=List Int×Nat×Nat) (fun s=>⟨ay [(0,.rs i 0 n),(3,I s.2.1),(4,.rs i (j+1) (n - (j+1))),(5,I (s.2.2+1:Nat))],up m i (some (.cells (s.1.map I) 3)),nx⟩)
     (fun s=>s.1.length=n/\j+1+(s.2.2+1)<=n/\s.2.1<=j+1+s.2.2/\s.1.take s.2.1=ff d (j+1+(s.2.2+1))/\∀ p,j+1+s.2.2<=p->s.1[p]? =d[p]?) (fun s=>n - s.2.2) (d,j+1,0) (tv eH U.symm) ⟨hl,by simp only;omega,by simp only;omega,?_,fun _ _=>rfl⟩ ?_) ?_)
    .show d.take (j+1)=ff d (j+1+1);rw[ajU,J]
    .rintro⟨c,k,q⟩ ⟨M,w2,w3,w4,X⟩;simp only at M w2 w3 w4 X;dsimp only;refine ab ?_;refine au (vw rfl (ah _ _ _)) ak V.h ?_;refine SS ?_;refine aa ⟨_,rfl,fun h=>?_,fun h=>?_⟩
     .have af:q+1<n - (j+1):=by have h:((q+1:Nat):Int)<((n - (j+1):Nat):Int):=by simpa using h
                                omega
      have xa:c[j+1+(q+1)]? =some c[j+1+(q+1)]:=aU oG;have xb:c[j+1+q]? =some c[j+1+q]:=aU oG;have ya:d.getD (j+1+(q+1)) 0=c[j+1+(q+1)]:=by rw[dx, <- X _ oG,xa];rfl
      have yb:d.getD (j+1+q) 0=c[j+1+q]:=by rw[dx, <- X _ oG,xb];rfl
      have kd:=mY (f:=I) xa;have C:=mY (f:=I) xb;generalize hA:c[j+1+(q+1)]=a at xa ya kd;generalize hB:c[j+1+q]=b at xb yb C;clear hA hB;have wa:((q+1:Nat):Int) - 1=(q:Int)/\ -9223372036854775808<=(q:Int)/\(q:Int)<=9223372036854775807:=by omega
      refine ep Yj ?_;refine dG ?_;refine au (j7 rfl (ah _ _ _) C V.h) ak (j8 V.h V.h C) ?_;refine SS ?_;refine ct cG (aO rfl (fun h=>?_) fun h=>?_)
      .have aE:a≠b:=by simpa using h
       have hn:=SH (d:=d) (t:=j+1+(q+1)) (by rw[ya,show j+1+(q+1) - 1=j+1+q by omega,yb];exact aE);refine ws ?_;refine dG ?_;refine aa (fC ?_);refine ax ?_;refine aa ?_;refine ax ?_;refine aa (bg (c.set k a,k+1,q+1) (tv eH ?_) ⟨by simp[M],by simp only;omega,by simp only;omega,?_,fun p hp=>?_⟩ (by simp only;omega))
       .rw[uh,List.map_set]
       .show(c.set k a).take (k+1)=ff d (j+1+(q+1)+1);rw[hn,ya, <- w4,List.take_succ_eq_append_getElem oP];simp;exact List.take_set_of_le (a8 k)
       .simp only at hp;show(c.set k a)[p]? =_;rw[List.getElem?_set_ne oG];exact X p oG
      .have ajV:a=b:=by simpa using h
       have hn:=SG (d:=d) (t:=j+1+(q+1)) oG oG (by rw[ya,show j+1+(q+1) - 1=j+1+q by omega,yb];exact ajV);refine cT ?_;refine ax ?_;refine aa (bg (c,k,q+1) (av eH) ⟨M,by simp only;omega,by simp only;omega,?_,fun p hp=>X p (by simp only at hp;omega)⟩ (by simp only;omega));show c.take k=ff d (j+1+(q+1)+1);rw[hn,w4]
     .have bl:¬ q+1<n - (j+1):=by have h:¬ ((q+1:Nat):Int)<((n - (j+1):Nat):Int):=by simpa using h
                                  omega
      refine⟨c,k,.forget _ _ _ _ fun t=>pz (l:=[(0,.rs i 0 n),(3,I k)]) ⟨rfl,rfl,trivial⟩ t,M,oG,?_⟩;rw[w4];exact congrArg (ff d) oG
    .rintro s ⟨c,k,hg,M,ck,w2⟩;refine⟨_,hg,aj ?_⟩;refine ab ?_;refine au (PU rfl (ah _ _ _) V.h V.h rfl) ak ⟨V.h,oG⟩ ?_;refine bM (acG rfl (ah _ _ _) V.h V.h) ak ⟨V.h,(by rw[c3];first|(simp;done)|(simp;omega)|omega),rfl⟩ ?_;refine er ?_;refine ab ?_;refine au (ZM rfl (ah _ _ _) V.h V.h rfl) ak ⟨V.h,oG⟩ ?_;refine SS ?_;have dz:(mZ d).length=k:=by unfold mZ;rw[hl, <- w2];simp;omega
     refine aa (bJ (cu (bE (aF (d:=.rs i 0 k) rfl ⟨rfl,by rw[dz],(uh _ _ _ _).trans ?_⟩))));rw[Yi (by rw[List.length_map,M]) ck, <- List.map_take,w2,Dn,dz];unfold mZ;rw[hl]
   .have aE:d[j+1]≠d[j]:=by simpa using h
    refine cT ?_;refine ax ?_;refine aa (bg (j+1+1) (av eH) ⟨oG,oG,?_⟩ oG);rw[SH (by rw[ga,show j+1 - 1=j by omega,gb];exact aE),J,ga];exact(List.take_succ_eq_append_getElem oG).symm
  .have bl:¬ k<n:=by have h:¬ (k:Int)<n:=by simpa using h
                     omega
   have:k=n:=by omega
   refine⟨.forget _ _ _ _ fun t=>pz (l:=[(0,.rs i 0 n)]) ⟨rfl,trivial⟩ t,?_⟩;rw[<- this,J,df oG]
 .rintro s ⟨hg,J⟩;refine⟨_,hg,aj ?_⟩;refine ab ?_;exact aa (aF rfl (whole J))
theorem ajW{m:Mem}{nx i n:Nat}{d:List Int}(hi:i<nx)(hm:m i=some (.cells (d.map I) 3))(hl:d.length=n)(hn:n<=100000):fD prog 232 [.rs i 0 n] m nx (adJ d m nx i):=by
 refine(afE hi hm hl hn).mono ?_;rintro r m' J ⟨h1,h2,C⟩;refine⟨h1,h2,Dn d n,C,?_⟩;rw[Dn,List.take_append_of_le_length oS,df oS]
end Go.Proofs.Tryz.K
namespace Go.Argus
def iA(x:End)(b:Int)(w:List Int):List Int:=if Kz x b then qY w (jO x) else w
@[simp] theorem PV (x : End) (b : Int) (w : List Int) : (iA x b w).length = w.length := by unfold iA; split <;> simp
def Ad(l:List Int):List Int:=mZ (nt l)
structure pV(x:cW):Prop where
 rd:∀ r∈dZ x,0<=r/\r<1200
 sl:x.op=17\/x.op=18->0<=x.n/\x.n<80
 wr: -1000000<=ka x/\ka x<1200
 ar:x.op=10\/x.op=38->x.args.length<=1000
structure Dp(x:End):Prop where
 rd:∀ r∈dT x,0<=r/\r<1200
 wr: -1000000<=jO x/\jO x<1200
 wh:x.aR.length<=9
 a1:x.kind=5->x.ins.op=10\/x.ins.op=38->x.ins.args.length<=1000
 a2:x.kind=6\/x.kind=7->x.args.length<=1000
def lG(w:List Int)(ok:Bool)(rs:List Int):Bool:=rs.foldl (fun ok r=>ok&&p6 w r.toNat) ok
def KG(w:List Int)(x:cW):List Int:=qY w (if x.op=18 then mX x.n else ka x)
def TM(s:List Int×Bool)(x:cW):List Int×Bool:=(KG s.1 x,lG s.1 s.2 (dZ x)&&(x.op !=17||p6 s.1 (mX x.n).toNat))
def kE(l:List cW)(w:List Int):List Int×Bool:=l.foldl TM (w,true)
def mq(b:bx)(w:List Int):List Int×Bool:=((kE b.ins w).1,lG (kE b.ins w).1 (kE b.ins w).2 (dT b.fin))
theorem B2{α β:Type}{f:β->α->β}{z:β}{l:List α}{k:Nat}{x:α}(h:l[k]? =some x):(l.take (k+1)).foldl f z=f ((l.take k).foldl f z) x:=by
 rw[List.take_add_one,h,List.foldl_append];rfl
theorem JB(l:List cW)(w:List Int):(kE l w).1.length=w.length:=by
 unfold kE;generalize true=b
 induction l generalizing w b with
 |nil=>rfl
 |cons x l ih=>rw[List.foldl_cons];exact(ih _ _).trans (by simp[KG])
theorem Ir(b:bx)(w:List Int):(mq b w).1.length=w.length:=JB _ _
def cU(l:List (List Int)):List D:=l.flatMap fun w=>w.map cM
theorem J'{sz:Nat}:∀ {l:List (List Int)} {i:Nat} {w:List Int},(∀ w∈l,w.length=sz)->l[i]? =some w->(cU l).drop (i*sz)=w.map cM++(cU (l.drop (i+1)))
 |[],i,w,_,h=>by simp at h
 |a::l,0,w,_,h=>by simp at h;subst h;simp[cU]
 |a::l,i+1,w,hs,h=>by
  have ha:(a.map cM).length=sz:=by simpa using hs a oS
  have h1:(i+1)*sz=(a.map cM).length+i*sz:=by rw[ha,Nat.add_mul];omega
  have ih:=J' (l:=l) (i:=i) (w:=w) (fun w C=>hs w (by simp[C])) (by simpa using h);unfold cU at ih ⊢;rw[List.flatMap_cons,h1, <- List.drop_drop,List.drop_left,ih,List.drop_succ_cons]
theorem G0{sz:Nat}{l:List (List Int)}{i:Nat}{w:List Int}(h:∀ w∈l,w.length=sz)(hi:l[i]? =some w):((cU l).drop (i*sz)).take sz=w.map cM:=by
 rw[J' h hi,List.take_append_of_le_length (by simp[h w (bD hi)]),df (by simp[h w (bD hi)])]
theorem I7{sz:Nat}:∀ {l:List (List Int)},(∀ w∈l,w.length=sz)->(cU l).length=l.length*sz
 |[],_=>by simp[cU]
 |a::l,h=>by
  have:=I7 (l:=l) fun w C=>h w (by simp[C]);unfold cU at this ⊢;rw[List.flatMap_cons,List.length_append,this,List.length_map,h a oS,List.length_cons,Nat.add_mul];omega
theorem yc{sz:Nat}{l:List (List Int)}{i:Nat}{w:List Int}(h:∀ w∈l,w.length=sz)(hi:l[i]? =some w):i*sz+sz<=(cU l).length:=by
 rw[I7 h];have:=(bK.1 hi).1;rw[<- Nat.succ_mul];exact Nat.mul_le_mul_right _ this
theorem Ti{sz:Nat}(hz:2<=sz):∀ {l:List (List Int)} {i:Nat} {w v:List Int},(∀ w∈l,w.length=sz)->l[i]? =some v->w.length=sz->gC (cU l) (i*sz) (w.map cM)=cU (l.set i w):=by
 intro l i w v h hi C
 have key:gC (cU l) (i*sz) (w.map cM)=(cU l).take (i*sz)++w.map cM++(cU l).drop (i*sz+(w.map cM).length):=by
  unfold gC;split
  .rename_i x hx;have:(w.map cM).length=1:=by rw[hx];rfl
   simp at this;omega
  .rfl
 rw[key,List.length_map,C];clear key
 induction l generalizing i with
 |nil=>simp at hi
 |cons a l ih=>
  have ha:(a.map cM).length=sz:=by simpa using h a oS
  cases i with
  |zero=>
   simp only[Nat.zero_mul,List.take_zero,List.nil_append,Nat.zero_add,List.set_cons_zero];unfold cU;rw[List.flatMap_cons,List.flatMap_cons, <- ha,List.drop_left]
  |succ i=>
   have ih:=ih (i:=i) (fun w C=>h w (by simp[C])) (by simpa using hi);simp only[List.set_cons_succ];unfold cU at ih ⊢;rw[List.flatMap_cons,List.flatMap_cons, <- ih,show(i+1)*sz=(a.map cM).length+i*sz by rw[ha,Nat.add_mul];omega,List.take_length_add_append,Nat.add_assoc,List.drop_length_add_append];simp
theorem abt(n:Nat)(w:List Int):dC n (w.map cM)=cU (replicate n w):=by
 unfold dC cU
 induction n with
 |zero=>rfl
 |succ n ih=>rw[List.replicate_succ,List.replicate_succ,List.flatten_cons,List.flatMap_cons,ih]
theorem acI(n:Nat)(b:Bool):dC n [B b]=(replicate n b).map B:=by
 unfold dC
 induction n with
 |zero=>rfl
 |succ n ih=>rw[List.replicate_succ,List.replicate_succ,List.flatten_cons,List.map_cons,ih];rfl
theorem adK(l:List (List Int)):∀ a∈cU l,Tr a:=.flat fun w=>.map fun _=>.s _
theorem Ka{sz:Nat}{l:List (List Int)}{i:Nat}{w:List Int}(h:∀ w∈l,w.length=sz)(C:w.length=sz):∀ u∈l.set i w,u.length=sz:=fun u hu=>by
 rcases List.mem_or_eq_of_mem_set hu with h1|h1
 .exact h u h1
 .rw[h1];exact C
theorem QW:∀ {w v:List Int},w.length=v.length->ot (w.map cM) (v.map cM)=some (w.map (Value.int .u64),v.map (Value.int .u64))
 |[],[],_=>rfl
 |a::w,b::v,h=>by
  have:=QW (w:=w) (v:=v) (by simpa using h);simp[ot,xT,this]
theorem QY:∀ {w v:List Int},w.length=v.length->gK (w.map (Value.int .u64)) (v.map (Value.int .u64))=(w==v)
 |[],[],_=>rfl
 |a::w,b::v,h=>by
  have:=QY (w:=w) (v:=v) (by simpa using h);simp[gK,pX,this]
theorem ZP(w:List Int):(w.map (Value.int .u64)).map jE=replicate w.length 0:=by
 induction w with
 |nil=>rfl
 |cons a w ih=>simpa[jE,List.replicate_succ] using ih
end Go.Argus
namespace Go.Proofs.Tryz.K
theorem Mf{f:FuncId}{cs:List D}{xs:List Int}(hs:vX prog f [] cs (xs.map fun n=>[I n]))(ht:Tr (.fn (.func f) [] cs))(hlen:xs.length<=12):ko prog 233 [.fn (.func f) [] cs] ((nt xs).map I) xs.length 3:=by
 have C:∀ a∈[.fn (.func f) [] cs],Tr a:=.cons ht .nil;refine HO afH C (.map fun _=>.s _) ?_;rw[afI];have L5:=L5 hs ht oG;refine ws ?_;refine SS ?_;refine er ?_;refine SS ?_;refine K4 L5 rfl aK ?_;refine SS ?_;refine er ?_;refine SS ?_;refine gm (ajq (i:=0) (l:=xs) oG rfl rfl hlen) rfl aK fun r m' J hp=>?_;obtain⟨rfl,rfl,rfl⟩:=hp;refine er ?_;refine ab ?_;exact aa (aF rfl ⟨0,rfl,rfl⟩)
theorem uA{f:FuncId}{cs:List D}{xs:List Int}(hs:vX prog f [] cs (xs.map fun n=>[I n]))(ht:Tr (.fn (.func f) [] cs))(hlen:xs.length<=12):aA prog 174 [.fn (.func f) [] cs] (aP (Ad xs)):=by
 have C:∀ a∈[.fn (.func f) [] cs],Tr a:=.cons ht .nil;refine bj afJ C (du _) ?_;rw[afK];have Mf:=Mf hs ht hlen;refine ws ?_;refine SS ?_;refine aa (aw ?_);refine SS ?_;refine K4 Mf rfl aK ?_;refine gm (ajW (i:=0) (d:=nt xs) (n:=xs.length) oG rfl oS oG) rfl aK fun r m' J hp=>?_;obtain⟨rfl,rfl,c,rfl,hc⟩:=hp;refine SS ?_;refine aa (bG (dB [(0,c,3)] ⟨ah _ _ _,trivial⟩ (l:=[(2,aP (Ad xs))]) ⟨?_,trivial⟩) (aF rfl rfl));exact vT c3 (by rw[List.drop_zero,Nat.mul_one];exact hc)
def nextR(x:Argus.End):List Int:=Ad (ek x)
theorem SI{x:Argus.End}(hlen:x.aR.length<=9):aA prog 174 [.fn (.func 234) [] [.pt (bw x)]] (aP (nextR x)):=
 uA (Ul oG) (.fn oS (.cons (.pt (pB x)) .nil)) (by have:=J6 x;omega)
theorem wo{x:Argus.End}{b:Int}{w:List Int}(J:w.length=20)(hlen:x.aR.length<=1000)(hn: -1000000<=jO x/\jO x<1280):aA prog 134 [.agg (bw x),I b,gq w] (gq (iA x b w)):=by
 have C:∀ a∈[D.agg (bw x),I b,gq w],Tr a:=.cons (.agg (pB x)) (.cons (.s _) (.cons (p7 _) .nil));refine bj afL C (p7 _) ?_;rw[afM];have L3:=L3 (x:=x) (b:=b) hlen;refine ws ?_;refine ax ?_;refine aa (aB (aj ?_));refine ab ?_;refine cl L3 ?_;refine aa (cR rfl (fun h=>?_) fun h=>cI (aj ?_))
 .have Mg:=Mg (x:=x);have p8:=p8 (w:=w) (n:=jO x) J hn;refine aB (ep ZO ?_);refine ab ?_;refine cl Mg ?_;refine cl p8 ?_;refine SS ?_;refine ct cG (ed (qT (gy rfl rfl a201 rj (np oP) t201 oP) ?_));simp[iA,h]
 .refine ab ?_;refine aa (qT (gy rfl rfl a201 rj (np oP) t201 oP) ?_);simp[iA,h]
theorem nJ{b:bx}{w:List Int}(hw:w.length=20)(hl:b.ins.length<=100000)(hi:∀ x∈b.ins,pV x)(hf:Dp b.fin)(Bu:∀ x∈b.ins,(dZ x).length<=100000)(jq:(dT b.fin).length<=100000):aA prog 133 [.agg (bH b),gq w] (.aL [gq (mq b w).1,B (mq b w).2]):=by
 have bh:∀ a∈[D.agg (bH b),gq w],Tr a:=.cons (.agg (PX b)) (.cons (p7 _) .nil);refine bj afN bh (.aL (.cons (p7 _) (.cons (.s _) .nil))) ?_;rw[afO];refine ws ?_;refine eA (r9 (cs:=bH _) rfl) ak (by first|rfl|exact rO eB bN|exact nF _|exact ud rC) ?_;refine ax ?_;refine aa (aw ?_);refine SS ?_;refine aa (bG (bQ (l:=[(2,.rp 0 0),(3,.rp 1 0),(4,.rp 2 0),(6,B true)]) (ml:=[(0,.cells (bH b) 59),(1,.cells (w.map cM) 201),(2,.cells (replicate 20 (cM 0)) 201)]) eH eH) (aB (aw ?_)));refine aZ ?_
 refine aa (bY (fun s=>∃ n',3<=n'/\aI prog s ⟨ay [(2,.rp 0 0),(3,.rp 1 0),(4,.rp 2 0),(6,B (kE b.ins w).2)],a7 [(0,.cells (bH b) 59),(1,.cells ((kE b.ins w).1.map cM) 201),(2,.cells (replicate 20 (cM 0)) 201)],n'⟩) (cy (α:=Nat×Nat)
  (fun k=>⟨ay [(2,.rp 0 0),(3,.rp 1 0),(4,.rp 2 0),(6,B (kE (b.ins.take k.1) w).2),(14,lF b.ins),(15,I b.ins.length),(16,I k.1)],a7 [(0,.cells (bH b) 59),(1,.cells ((kE (b.ins.take k.1) w).1.map cM) 201),(2,.cells (replicate 20 (cM 0)) 201)],k.2⟩)
  (fun k=>k.1<=b.ins.length/\3<=k.2) (fun k=>b.ins.length - k.1) (0,3) (bQ eH eH) ⟨oS,oS⟩ ?_) ?_)
 .rintro⟨k,N⟩ ⟨hk,hN⟩;dsimp only at hk hN ⊢;refine SS ?_;refine aa ⟨_,rfl,fun h=>?_,fun h=>?_⟩
  .have af:k<b.ins.length:=by simpa using h
   have hx:b.ins[k]? =some b.ins[k]:=by simp[af]
   have kB:b.ins[k]∈b.ins:=gf af;generalize b.ins[k]=x at hx kB;obtain⟨ird,VQ,iwr,iar⟩:=hi x kB;have C:kE (b.ins.take (k+1)) w=TM (kE (b.ins.take k) w) x:=B2 hx;have hlen:(kE (b.ins.take k) w).1.length=20:=by rw[JB,hw]
   generalize kE (b.ins.take k) w=u at C hlen;obtain⟨v,ok⟩:=u;dsimp only at hlen ⊢;refine ws ?_;refine aZ ?_;refine aa (aB (aw ?_));have Bd:=Bd (x:=x) iar;refine SS ?_;refine cl Bd ?_;refine ab ?_;have amw:=Bu x kB
   refine aa (bY (fun s=>aI prog s ⟨ay [(2,.rp 0 0),(3,.rp 1 0),(4,.rp 2 0),(6,B (lG v ok (dZ x))),(8,.rp N 0),(14,lF b.ins),(15,I b.ins.length),(16,I k)],up (a7 [(0,.cells (bH b) 59),(1,.cells (v.map cM) 201),(2,.cells (replicate 20 (cM 0)) 201)]) N (some (.cells (cv x) 54)),N+1⟩) (cy (α:=Nat)
    (fun j=>⟨ay [(2,.rp 0 0),(3,.rp 1 0),(4,.rp 2 0),(6,B (lG v ok ((dZ x).take j))),(8,.rp N 0),(14,lF b.ins),(15,I b.ins.length),(16,I k),(21,aP (dZ x)),(22,I (dZ x).length),(23,I j)],up (a7 [(0,.cells (bH b) 59),(1,.cells (v.map cM) 201),(2,.cells (replicate 20 (cM 0)) 201)]) N (some (.cells (cv x) 54)),N+1⟩)
    (fun j=>j<=(dZ x).length) (fun j=>(dZ x).length - j) 0 (tv eH (uh _ _ _ _)) oG ?_) ?_)
   .intro j hj;refine SS ?_;refine aa ⟨_,rfl,fun h=>?_,fun h=>?_⟩
    .have J:j<(dZ x).length:=by simpa using h
     have hr:(dZ x)[j]? =some (dZ x)[j]:=by simp[J]
     have U:(dZ x)[j]∈dZ x:=gf J;generalize (dZ x)[j]=r at hr U;have oB:=ird r U;obtain⟨M,rfl⟩:=kL oB.1;have lm:=lm (w:=v) (m:=M) hlen oG;refine ws ?_;refine ax ?_;refine aa (fC ?_);refine aZ ?_;refine gc lm ?_;refine ab ?_;refine aa ?_;refine ab ?_;refine aa (bg (j+1) (av ⟨rfl,rfl,rfl,?_,rfl,rfl,rfl,rfl,rfl,rfl,rfl,trivial⟩) oG oG)
     have e:lG v ok ((dZ x).take (j+1))=(lG v ok ((dZ x).take j)&&p6 v M):=by
      unfold lG;rw[B2 hr,kK]
     rw[e];generalize lG v ok ((dZ x).take j)=g;cases g<;>rfl
    .have bl:¬ j<(dZ x).length:=by simpa using h
     refine av ⟨rfl,rfl,rfl,?_,rfl,rfl,rfl,rfl,trivial⟩;show B _=B _;rw[df oG]
   .intro s hg;have C:kE (b.ins.take (k+1)) w=(KG v x,lG v ok (dZ x)&&(x.op !=17||p6 v (mX x.n).toNat)):=C;generalize lG v ok (dZ x)=NP at hg C;have DC:=DC (w:=v) (x:=x) hlen (fun h=>VQ (.inr h)) (fun _=>by omega);have fin:∀ (d:Bool) env,d=(NP&&(x.op !=17||p6 v (mX x.n).toNat))->kX [(2,.rp 0 0),(3,.rp 1 0),(4,.rp 2 0),(6,B d),(8,.rp N 0),(14,lF b.ins),(15,I b.ins.length),(16,I k)] env->True:=fun _ _ _ _=>trivial;refine⟨_,hg,?_⟩;cases NP with
    |false=>
     have uu:false=true->aA prog 182 [I x.n] (I (mX x.n)):=fun h=>by cases h
     have lm:false=true->aA prog 135 [gq v,I (mX x.n)] (B true):=fun h=>by cases h
     refine ep IJ ?_;refine bt ?_;refine tS rfl rfl rfl (fun hc=>⟨ak,uu hc⟩) ?_;refine tS rfl rfl rfl (fun hc=>⟨ak,lm hc⟩) ?_;refine ax ?_;refine ct cG (fC ?_);refine ab ?_;refine cl DC ?_;refine SS ?_;refine aa ?_;refine ab ?_;refine aa (bg (k+1,N+1) (bQ ⟨rfl,rfl,rfl,?_,rfl,rfl,rfl,trivial⟩ ⟨ag oG (ag oG rfl),?_,ag oG (ag oG rfl),trivial⟩) ⟨oM,oM⟩ oM)
     .dsimp only;rw[C];rfl
     .dsimp only;rw[C];exact ah _ _ _
    |true=>
     by_cases zA:x.op=17
     .have um:(x.op !=17)=false:=by simp[zA]
      have amV:=VQ (.inl zA);have uu:=uu (n:=x.n) oG;obtain⟨sn,X⟩:=kL (show 0<=mX x.n by unfold mX;omega);have lm:=lm (w:=v) (m:=sn) hlen (by unfold mX at X;omega);rw[<- X] at lm;refine ep IJ ?_;refine aZ ?_;refine UO ?_;refine aZ ?_;refine gc uu ?_;refine gc lm ?_;refine ax ?_;refine ct cG (fC ?_);refine ab ?_;refine cl DC ?_;refine SS ?_;refine aa ?_;refine ab ?_;refine aa (bg (k+1,N+1) (bQ ⟨rfl,rfl,rfl,?_,rfl,rfl,rfl,trivial⟩ ⟨ag oG (ag oG rfl),?_,ag oG (ag oG rfl),trivial⟩) ⟨oM,oM⟩ oM)
      .dsimp only;rw[C,um,X];rfl
      .dsimp only;rw[C];exact ah _ _ _
     .have um:(x.op !=17)=true:=by simp[zA]
      have uu:false=true->aA prog 182 [I x.n] (I (mX x.n)):=fun h=>by cases h
      have lm:false=true->aA prog 135 [gq v,I (mX x.n)] (B true):=fun h=>by cases h
      refine ep IJ ?_;refine aZ ?_;refine UO ?_;refine SS ?_;(iterate 5 refine z fun _ _=>?_);refine UP ?_;refine ab ?_;refine ct cG (fC ?_);refine ab ?_;refine cl DC ?_;refine SS ?_;refine aa ?_;refine ab ?_;refine aa (bg (k+1,N+1) (bQ ⟨rfl,rfl,rfl,?_,rfl,rfl,rfl,trivial⟩ ⟨ag oG (ag oG rfl),?_,ag oG (ag oG rfl),trivial⟩) ⟨oM,oM⟩ oM)
      .dsimp only;rw[C,um];rfl
      .dsimp only;rw[C];exact ah _ _ _
  .have bl:¬ k<b.ins.length:=by simpa using h
   have y3:b.ins.take k=b.ins:=df oG;refine⟨N,hN,?_⟩;rw[y3];exact av eH
 .rintro s ⟨n',ij,hg⟩;have hlen:(kE b.ins w).1.length=20:=by rw[JB,hw]
  have VR:mq b w=((kE b.ins w).1,lG (kE b.ins w).1 (kE b.ins w).2 (dT b.fin)):=rfl;rw[VR];generalize kE b.ins w=u at hg hlen ⊢;obtain⟨v,ok⟩:=u;dsimp only at hlen hg ⊢;have Mh:=Mh (x:=b.fin) hf.a1 hf.a2;refine⟨_,hg,aB (aw ?_)⟩;refine ab ?_;refine cl Mh ?_;refine ab ?_
  refine aa (bY (fun s=>aI prog s ⟨ay [(3,.rp 1 0),(4,.rp 2 0),(6,B (lG v ok (dT b.fin)))],a7 [(1,.cells (v.map cM) 201),(2,.cells (replicate 20 (cM 0)) 201)],n'⟩) (cy (α:=Nat)
   (fun j=>⟨ay [(3,.rp 1 0),(4,.rp 2 0),(6,B (lG v ok ((dT b.fin).take j))),(53,aP (dT b.fin)),(54,I (dT b.fin).length),(55,I j)],a7 [(1,.cells (v.map cM) 201),(2,.cells (replicate 20 (cM 0)) 201)],n'⟩)
   (fun j=>j<=(dT b.fin).length) (fun j=>(dT b.fin).length - j) 0 (bQ eH eH) oG ?_) ?_)
  .intro j hj;refine SS ?_;refine aa ⟨_,rfl,fun h=>?_,fun h=>?_⟩
   .have J:j<(dT b.fin).length:=by simpa using h
    have hr:(dT b.fin)[j]? =some (dT b.fin)[j]:=by simp[J]
    have U:(dT b.fin)[j]∈dT b.fin:=gf J;generalize (dT b.fin)[j]=r at hr U;have oB:=hf.rd r U;obtain⟨M,rfl⟩:=kL oB.1;have lm:=lm (w:=v) (m:=M) hlen oG;refine ws ?_;refine ax ?_;refine aa (fC ?_);refine ab ?_;refine bd rfl rfl (eL rfl rfl V.h V.h (np (by first|rfl|exact bC rfl|(simp;done)|(simp;omega)|omega))) (fun hc=>⟨ak,(eM V.h V.h (by first|rfl|exact bC rfl|(simp;done)|(simp;omega)|omega))⟩) ?_;refine SS ?_;refine gc lm ?_;refine ab ?_;refine aa ?_;refine ab ?_;refine aa (bg (j+1) (av ⟨rfl,rfl,?_,rfl,rfl,rfl,trivial⟩) oG oG)
    have e:lG v ok ((dT b.fin).take (j+1))=(lG v ok ((dT b.fin).take j)&&p6 v M):=by
     unfold lG;rw[B2 hr,kK]
    rw[e];generalize lG v ok ((dT b.fin).take j)=g;cases g<;>rfl
   .have bl:¬ j<(dT b.fin).length:=by simpa using h
    refine av ⟨rfl,rfl,?_,trivial⟩;show B _=B _;rw[df oG]
  .intro s hg;refine⟨_,hg,aj ?_⟩;refine aZ ?_;exact aa (mW (gy rfl rfl a201 rj (np oP) t201 oP) rfl rfl)
end Go.Proofs.Tryz.K
end
namespace Go.Argus
open Go.Abs
theorem Yv{l:List Int}{j:Nat}(hj:j+1<l.length){x:Int}:x∈swapAt l j↔x∈l:=by
 have ha:l.getD j 0=l[j]:=by simp[dx,aU (show j<l.length by omega)]
 have hb:l.getD (j+1) 0=l[j+1]:=by simp[dx,aU hj]
 unfold swapAt;rw[ha,hb];exact(List.set_set_perm (show j+1<l.length from hj) (show j<l.length by omega)).mem_iff
theorem Q8{x:Int}:∀ (j:Nat) {l:List Int},j<l.length->(x∈ow l j↔x∈l)
 |0,l,_=>Iff.rfl
 |j+1,l,hj=>by
  simp only[ow];split
  .exact(Q8 j oP).trans (Yv hj)
  .exact Iff.rfl
theorem Qa{l:List Int}{x:Int}:∀ k,k<l.length->(x∈mD l k↔x∈l)
 |0,_=>Iff.rfl
 |k+1,h=>by
  simp only[mD];exact(Q8 (k+1) (by simpa using h)).trans (Qa k oG)
theorem Z6{l:List Int}{x:Int}:x∈nt l↔x∈l:=by
 unfold nt;cases l with
 |nil=>simp[mD]
 |cons a l=>exact Qa _ oS
theorem OO{l:List Int}{x:Int}:x∈Ad l↔x∈l:=by
 unfold Ad mZ;rw[RW (a8 _),List.take_length];exact Z6
theorem wrap_u64{n:Nat}(h:n<2 ^ 64):IntKind.u64.wrap (n:Int)=n:=by
 unfold IntKind.wrap;simp[IntKind.signed,IntKind.bits];omega
theorem acK{a b:Int}(ha:0<=a/\a<18446744073709551616):0<=wq a b/\wq a b<=a:=by
 unfold wq lA;simp only;rw[wrap_u64 (n:=(BitVec.ofInt IntKind.u64.bits a&&& BitVec.ofInt IntKind.u64.bits b).toNat) (BitVec.isLt (w:=64) _)];obtain⟨n,rfl⟩:=kL ha.1
 have h1:(BitVec.ofInt IntKind.u64.bits (n:Int)).toNat=n:=by
  rw[BitVec.toNat_ofInt];show((n:Int) % ((2 ^ 64:Nat):Int)).toNat=n;omega
 have h2:(BitVec.ofInt IntKind.u64.bits (n:Int)&&& BitVec.ofInt IntKind.u64.bits b).toNat<=n:=by
  rw[BitVec.toNat_and,h1];exact Nat.and_le_left
 omega
end Go.Argus
section
open Go Go.Abs Go.Proofs Go.Argus
namespace Go.Abs
section
variable{P:Program}{env:Env}{m:Mem}{nx:Nat}{x y:Operand}{t p:TypeId}{k:IntKind}{n n':Int}
theorem Ct{j i l sz:Nat}{e:TypeId}{r:Row}(hx:(opd env x).core=.rs j 0 l)(hy:(opd env y).core=.s (.int k (i:Int)))(hm:m j=some r)(he:aD P t=e)(hs:P.cellsOf e=sz):
 Ef P (.indexAddr t x y) env m nx ⟨bi P t=true/\i<l,.rp j (i*sz),[],[j],0⟩:=by
 have h:=Ge (P:=P) (env:=env) (m:=m) (nx:=nx) (t:=t) hx hy hm he hs;have h1:0+((i:Int)).toNat*sz=i*sz:=by simp
 have h2:(bi P t=true/\(0:Int)<=(i:Int)/\(i:Int)<l)=(bi P t=true/\i<l):=by
  apply propext;constructor
  .rintro⟨a,_,b⟩;exact⟨a,oG⟩
  .rintro⟨a,b⟩;exact⟨a,oG,oG⟩
 rw[h1,h2] at h;exact h
theorem abu{ps:Array (Nat×Operand)}{e:TypeId}{l:Nat}{z:List D}(hu:P.underlying t=some (.array l e))(hp:ps.toList=[])(hz:a6 P t=z):Ef P (.build t ps) env m nx ⟨aH P t=true/\aH P e=true,.agg z,[],[],0⟩:=by
 refine⟨?_,rfl,rfl⟩;simp only[ba,hu,hp,hz,List.map_nil,gG,Option.map_some]
theorem TF{xs ys:List D}{us vs:List Value}{ks:List Nat}(hx:(opd env x).core=.agg xs)(hy:(opd env y).core=.agg ys)(hf:vI P t=some ks)(hz:ot xs ys=some (us,vs)){c:Bool}(hc:(!gK us vs)=c):
 Ef P (.binOp .neq t x y p) env m nx ⟨us.map jE=ks/\P.eqGuardType P.depth t=false,.s (.bool c),[],[],0⟩:=by
 refine⟨?_,rfl,rfl⟩
 have hn:mG P m .neq t (.agg xs) y=none:=by
  unfold mG;split<;>first|rfl|(rename_i h;cases h)
 simp only[ba,aX,hx,hy,hn,vW,xy,hf,hz,hc,Option.map_some]
end
def yF(cs:List D):Prop:=∀ d∈cs,∃ v,d=.s v
theorem yF.map{α:Type}{f:α->Value}{l:List α}:yF (l.map fun x=>.s (f x)):=fun d hd=>by
 obtain⟨x,_,rfl⟩:=List.mem_map.1 hd;exact⟨_,rfl⟩
theorem afP{i sz:Nat}{C cs:List D}(h:yF cs):cs.map (sub (cE i C sz))=cs:=by
 induction cs with
 |nil=>rfl
 |cons d cs ih=>
  obtain⟨v,rfl⟩:=h d oS;rw[List.map_cons,ih fun d hd=>h d (by simp[hd])];rfl
theorem acJ{m:Mem}{i j sz:Nat}{J cs:List D}{e:TypeId}(C:j≠i)(hm:m j=some (.cells cs e))(h:yF cs):(if j=i then none else(m j).map (Row.sub (cE i J sz)))=some (.cells cs e):=by
 rw[if_neg C,hm];show some (Row.cells (cs.map _) e)=_;rw[afP h]
theorem adL{i sz n:Nat}{C es:List D}:sub (cE i C sz) (.sl es n)=.sl es n:=rfl
theorem I8{i j sz off n:Nat}{C:List D}(h:j≠i):sub (cE i C sz) (.rs j off n)=.rs j off n:=by
 show(if j=i then _ else D.rs j off n)=_;rw[if_neg h]
theorem iJ{i sz n:Nat}{C:List D}(h:C.length=n*sz):sub (cE i C sz) (.rs i 0 n)=.sl C n:=by
 show(if i=i then D.sl ((C.drop 0).take (n*sz)) n else _)=_;rw[if_pos rfl,List.drop_zero,df oG]
end Go.Abs
namespace Go.Proofs.Tryz.K
theorem afQ:vI prog 201=some (replicate 20 0):=kr
theorem afR:prog.eqGuardType prog.depth 201=false:=kr
theorem afS:a6 prog 201=(replicate 20 (0:Int)).map cM:=z201
theorem ajZ:prog.underlying 201=some (.array 20 199):=kr
section
variable{env:Env}{m:Mem}{nx:Nat}{x y:Operand}{p:TypeId}
theorem afT{w v:List Int}(hx:(opd env x).core=gq w)(hy:(opd env y).core=gq v)(h:w.length=v.length):Ef prog (.binOp .neq 201 x y p) env m nx ⟨(w.map (Value.int .u64)).map jE=replicate 20 0/\prog.eqGuardType prog.depth 201=false,B (w !=v),[],[],0⟩:=
 TF hx hy afQ (QW h) (by rw[QY h];rfl)
theorem afU{w:List Int}(h:w.length=20):(w.map (Value.int .u64)).map jE=replicate 20 0/\prog.eqGuardType prog.depth 201=false:=⟨by rw[ZP,h],afR⟩
end
end Go.Proofs.Tryz.K
namespace Go.Argus
open Go.Proofs.Tryz.K (nextR)
structure CS where
 wsq:List (List Int)
 re:List Bool
 ch:Bool
def gz(x:End)(w:List Int)(s:CS)(n:Int):CS:=
 if s.re.getD n.toNat false=false\/mC (s.wsq.getD n.toNat []) (iA x n w)≠s.wsq.getD n.toNat [] then⟨s.wsq.set n.toNat (mC (s.wsq.getD n.toNat []) (iA x n w)),s.re.set n.toNat true,true⟩ else s
def iP(bs:List bx)(s:CS)(k:Nat):CS:=match bs[k]? with
 |none=>s
 |some x=>if s.re.getD k false=true then(nextR x.fin).foldl (gz x.fin (mq x (s.wsq.getD k [])).1) s else s
def py(bs:List bx)(s:CS):CS:=(range bs.length).foldl (iP bs) ⟨s.wsq,s.re,false⟩
def qL(bs:List bx):Nat->CS->CS
 |0,s=>s
 |k+1,s=>if(py bs s).ch=true then qL bs k (py bs s) else py bs s
def nK:Int:=18446744073709551615
def lS:Nat->List Int
 |0=>replicate 20 0
 |k+1=>qY (lS k) k
@[simp] theorem PY : ∀ k, (lS k).length = 20
 |0=>rfl
 |k+1=>by simp[lS,PY k]
def vf(n args:Nat):CS:=⟨(replicate n (replicate 20 nK)).set 0 (lS args),(replicate n false).set 0 true,true⟩
def kF(u:Int):Prop:=0<=u/\u<18446744073709551616
structure l6(n:Nat)(s:CS):Prop where
 lw:s.wsq.length=n
 lr:s.re.length=n
 mi:∀ w∈s.wsq,w.length=20
 rg:∀ w∈s.wsq,∀ u∈w,kF u
def mJ(w:List Int):Nat:=(w.map Int.toNat).sum
def wU(s:CS):Nat:=(s.wsq.map mJ).sum+s.re.count false
def qw(s:CS):Nat:=wU s+if s.ch=true then 1 else 0
theorem RZ{l:List Nat}{k x y:Nat}(h:l[k]? =some x):(l.set k y).sum+x=l.sum+y:=by
 induction l generalizing k with
 |nil=>simp at h
 |cons a l ih=>cases k with
  |zero=>simp at h;subst h;simp;omega
  |succ k=>have:=ih (k:=k) (by simpa using h);simp;omega
theorem abv{l:List Int}{k:Nat}{x y:Int}(h:l[k]? =some x):mJ (l.set k y)+x.toNat=mJ l+y.toNat:=by
 unfold mJ;rw[List.map_set];exact RZ (by simp[h])
theorem ZQ{a b:Int}(h:kF a):kF (wq a b)/\wq a b<=a:=by
 have:=acK (b:=b) h;exact⟨⟨this.1,by unfold kF at h;omega⟩,this.2⟩
theorem abw{α:Type}{l:List α}{k:Nat}{x:α}(h:l[k]? =some x):l.set k x=l:=by
 apply List.ext_getElem?;intro i;rw[List.getElem?_set];split
 .rename_i e;subst e;rw[if_pos (bK.1 h).1,h]
 .rfl
theorem QZ{w v:List Int}(J:∀ u∈w,kF u):∀ k,k<=w.length->(∀ u∈gU w v k,kF u)/\mJ (gU w v k)<=mJ w/\(gU w v k≠w->mJ (gU w v k)<mJ w)
 |0,_=>⟨J,a8 _,fun h=>absurd rfl h⟩
 |k+1,hk=>by
  obtain⟨h1,h2,M⟩:=QZ (v:=v) J k oG;have hl:k<(gU w v k).length:=by simp;omega
  have hx:(gU w v k)[k]? =some (gU w v k)[k]:=aU hl;have hg:(gU w v k).getD k 0=(gU w v k)[k]:=by simp[dx,hx]
  have hm:=h1 _ (gf hl);simp only[gU,hg];generalize (gU w v k)[k]=a at hx hm;obtain⟨r1,r2⟩:=ZQ (b:=v.getD k 0) hm;generalize wq a (v.getD k 0)=y at r1 r2;have hs:=abv (y:=y) hx;unfold kF at r1 hm;refine⟨fun u hu=>?_,oG,fun C=>?_⟩
  .rcases List.mem_or_eq_of_mem_set hu with h|h
   .exact h1 u h
   .subst h;exact r1
  .by_cases e:y=a
   .subst e;have:(gU w v k).set k y=gU w v k:=abw hx;rw[this] at C ⊢;exact M C
   .omega
theorem abx{l:List (List Int)}{k:Nat}{w v:List Int}(h:l[k]? =some w):((l.set k v).map mJ).sum+mJ w=(l.map mJ).sum+mJ v:=by
 rw[List.map_set];exact RZ (by simp[h])
theorem count_set{l:List Bool}{k:Nat}{b:Bool}(h:l[k]? =some b):(l.set k true).count false+(if b=true then 0 else 1)=l.count false:=by
 induction l generalizing k with
 |nil=>simp at h
 |cons a l ih=>cases k with
  |zero=>simp at h;subst h;cases a<;>simp
  |succ k=>have:=ih (k:=k) (by simpa using h);simp only[List.set_cons_succ,List.count_cons];omega
theorem Pn{x:End}{w:List Int}{s:CS}{n:Nat}{t:Int}(hs:l6 n s)(ht:0<=t/\t<n):l6 n (gz x w s t)/\qw (gz x w s t)<=qw s:=by
 obtain⟨lw,lr,mi,rg⟩:=hs;obtain⟨k,rfl⟩:=kL ht.1;have hk:k<n:=by omega
 have hx:s.wsq[k]? =some s.wsq[k]:=aU oG;have hb:s.re[k]? =some s.re[k]:=aU oG;have X:s.wsq.getD k []=s.wsq[k]:=by simp[dx,hx]
 have U:s.re.getD k false=s.re[k]:=by simp[dx,hb]
 have hm:s.wsq[k]∈s.wsq:=gf _;unfold gz;simp only[kK,X,U];generalize s.wsq[k]=v at hx hm;generalize s.re[k]=b at hb;have v20:=mi v hm;obtain⟨C,M,J⟩:=QZ (v:=iA x k w) (rg v hm) 20 oG;have hl:=PZ v (iA x k w)
 change (∀ u∈mC v (iA x k w),kF u) at C
 change mJ (mC v (iA x k w))<=mJ v at M
 change mC v (iA x k w)≠v->mJ (mC v (iA x k w))<mJ v at J
 generalize mC v (iA x k w)=u at C M J hl;split
 .rename_i hc;refine⟨⟨by simp[lw],by simp[lr],Ka mi oG,fun y hy=>?_⟩,?_⟩
  .rcases List.mem_or_eq_of_mem_set hy with h|h
   .exact rg y h
   .subst h;exact C
  .have h1:=abx (v:=u) hx;have h2:=count_set hb;unfold qw wU;simp only[if_true];rcases hc with hc|hc
   .subst hc;simp only[Bool.false_eq_true,if_false] at h2;omega
   .have:=J hc;omega
 .exact⟨⟨lw,lr,mi,rg⟩,a8 _⟩
theorem EZ{α β:Type}{f:β->α->β}{J:β->Prop}{φ:β->Nat}{l:List α}(h:∀ x∈l,∀ s,J s->J (f s x)/\φ (f s x)<=φ s){s:β}(hs:J s):J (l.foldl f s)/\φ (l.foldl f s)<=φ s:=by
 induction l generalizing s with
 |nil=>exact⟨hs,a8 _⟩
 |cons x l ih=>
  obtain⟨h1,h2⟩:=h x oS s hs;obtain⟨C,M⟩:=ih (fun y hy=>h y (by simp[hy])) h1;exact⟨C,Nat.le_trans M h2⟩
theorem I9(x:End):(nextR x).length<=x.aR.length+3:=by
 have h1:=RX (d:=nt (ek x)) (nt (ek x)).length;have h2:=J6 x;rw[PT] at h1;exact Nat.le_trans (by simpa[nextR,Ad,mZ] using h1) h2
structure yj(n:Nat)(b:bx):Prop where
 len:b.ins.length<=100000
 ins:∀ x∈b.ins,pV x
 fin:Dp b.fin
 rl:∀ x∈b.ins,(dZ x).length<=100000
 rf:(dT b.fin).length<=100000
 to:∀ t∈nextR b.fin,0<=t/\t<n
theorem Q3{bs:List bx}{s:CS}{n k:Nat}(hb:∀ b∈bs,yj n b)(hs:l6 n s):l6 n (iP bs s k)/\qw (iP bs s k)<=qw s:=by
 unfold iP;split
 .exact⟨hs,a8 _⟩
 .rename_i x hx;split
  .exact EZ (J:=l6 n) (φ:=qw) (fun t ht s hs=>Pn hs ((hb x (bD hx)).to t ht)) hs
  .exact⟨hs,a8 _⟩
theorem Iv{bs:List bx}{s:CS}{n:Nat}(hb:∀ b∈bs,yj n b)(hs:l6 n s):l6 n (py bs s)/\qw (py bs s)<=wU s:=by
 have:=EZ (J:=l6 n) (φ:=qw) (f:=iP bs) (l:=range bs.length) (fun k _ s hs=>Q3 hb hs) (s:=⟨s.wsq,s.re,false⟩) ⟨hs.lw,hs.lr,hs.mi,hs.rg⟩;exact this
def pa(bs:List bx)(args:Nat):CS:=qL bs (wU (vf bs.length args)+1) (vf bs.length args)
theorem getD_some{α:Type}{l:List α}{k:Nat}{x d:α}(h:l[k]? =some x):l.getD k d=x:=by simp[dx,h]
theorem acL{α:Type}{n k:Nat}{x y:α}(hk:k<n):(replicate k x++replicate (n - k) y).set k x=replicate (k+1) x++replicate (n - (k+1)) y:=by
 rw[show n - k=n - (k+1)+1 by omega,List.replicate_succ,List.replicate_succ',List.append_assoc,List.singleton_append];rw[List.set_append];simp
theorem aby{α:Type}{a b:Nat}{x y z:α}(h:z∈replicate a x++replicate b y):z=x\/z=y:=by
 rcases List.mem_append.1 h with h|h
 .exact .inl (List.eq_of_mem_replicate h)
 .exact .inr (List.eq_of_mem_replicate h)
theorem Xw{x:End}{w v:List Int}{s:CS}{k:Nat}{b:Bool}(hx:s.wsq[k]? =some v)(hb:s.re[k]? =some b)(h:b=false\/mC v (iA x k w)≠v):gz x w s k=⟨s.wsq.set k (mC v (iA x k w)),s.re.set k true,true⟩:=by
 unfold gz;rw[kK,getD_some hx,getD_some hb,if_pos h]
theorem Yl{x:End}{w v:List Int}{s:CS}{k:Nat}{b:Bool}(hx:s.wsq[k]? =some v)(hb:s.re[k]? =some b)(h:¬ (b=false\/mC v (iA x k w)≠v)):gz x w s k=s:=by
 unfold gz;rw[kK,getD_some hx,getD_some hb,if_neg h]
theorem OL{n args:Nat}(ha:∀ u∈lS args,kF u):l6 n (vf n args):=by
 refine⟨by simp[vf],by simp[vf],Ka (fun w C=>by rw[List.eq_of_mem_replicate C];simp) oS,fun w C u hu=>?_⟩;rcases List.mem_or_eq_of_mem_set C with h|h
 .rw[List.eq_of_mem_replicate h] at hu;rw[List.eq_of_mem_replicate hu];simp[kF,nK]
 .rw[h] at hu;exact ha u hu
end Go.Argus
namespace Go.Proofs.Tryz.K
theorem Be{p q:D}{f:al}{n args:Nat}(hp:Tr p)(hq:Tr q)(eB:p.one=true)(bN:q.one=true)(hn:f.blocks.length=n)(zg:0<n)(zh:n<=100000)(ha:f.args=args)(y7:args<=1000)(zo:∀ u∈lS args,kF u)(hb:∀ b∈f.blocks,yj n b):
 aA prog 132 [.agg (aW p q f)] (.aL [.sl (cU (pa f.blocks args).wsq) n,.sl ((pa f.blocks args).re.map B) n]):=by
 have bh:∀ a∈[D.agg (aW p q f)],Tr a:=.cons (kb hp hq f) .nil;refine bj afV bh (.aL (.cons (.sl (adK _)) (.cons (.sl (.map fun _=>.s _)) .nil))) ?_;rw[afW];refine aw ?_;refine ax ?_;refine aa (bG (dB [(0,aW p q f,113)] eH (l:=[(1,.pt (aW p q f))]) eH) (BR ZR ?_));refine aZ ?_;refine eA (Ce rfl rfl V.h V.h) ak ⟨oG,rfl,oG,by rw[UQ];omega,V.h⟩ ?_;refine aZ ?_;refine eA (Ce rfl rfl V.h V.h) ak ⟨oG,rfl,oG,by rw[b4];omega,V.h⟩ ?_;refine ab ?_;have ij:((f.blocks.length:Nat):Int).toNat=n:=hn;refine ct cG (bG (bQ (l:=[(1,.pt (aW p q f)),(4,.rs 1 0 n),(5,.rs 2 0 n)]) (ml:=[(1,.cells (cU (replicate n (replicate 20 0))) 201),(2,.cells ((replicate n false).map B) 4)]) ⟨rfl,?_,?_,trivial⟩ ⟨?_,?_,trivial⟩) (aB (aw ?_)))
 .exact congrArg (fun k=>D.rs 1 0 k) ij
 .exact congrArg (fun k=>D.rs 2 0 k) ij
 .exact congrArg (fun c=>some (Row.cells c 201)) ((congrArg (fun k=>dC k ((replicate 20 (0:Int)).map cM)) ij).trans (abt n (replicate 20 0)))
 .exact congrArg (fun c=>some (Row.cells c 4)) ((congrArg (fun k=>dC k [B false]) ij).trans (acI n false))
 refine SS ?_;refine au (vw rfl rfl) ak V.h ?_;refine SS ?_
 refine aa (bY (fun s=>aI prog s ⟨ay [(1,.pt (aW p q f)),(4,.rs 1 0 n),(5,.rs 2 0 n)],a7 [(1,.cells (cU (replicate n (replicate 20 nK))) 201),(2,.cells ((replicate n false).map B) 4)],3⟩) (cy (α:=Nat)
  (fun k=>⟨ay [(1,.pt (aW p q f)),(4,.rs 1 0 n),(5,.rs 2 0 n),(27,I n),(28,I k)],a7 [(1,.cells (cU (replicate k (replicate 20 nK)++replicate (n - k) (replicate 20 0))) 201),(2,.cells ((replicate n false).map B) 4)],3⟩)
  (fun k=>k<=n) (fun k=>n - k) 0 (bQ eH eH) oG ?_) ?_)
 .intro k hk;refine SS ?_;refine aa ⟨_,rfl,fun h=>?_,fun h=>?_⟩
  .have af:k<n:=by simpa using h
   have Mb:=acL (x:=replicate 20 nK) (y:=replicate 20 (0:Int)) af
   have hi:(replicate k (replicate 20 nK)++replicate (n - k) (replicate 20 (0:Int)))[k]? =some (replicate 20 0):=by
    rw[List.getElem?_append_right oS,List.length_replicate,Nat.sub_self,show n - k=n - (k+1)+1 by omega,List.replicate_succ];rfl
   have wS:∀ w∈replicate k (replicate 20 nK)++replicate (n - k) (replicate 20 (0:Int)),w.length=20:=fun w U=>by
    rcases aby U with h|h<;>(rw[h];simp)
   have LW:aA prog 178 [] (gq (replicate 20 nK)):=LW;refine ws ?_;refine ab ?_;refine aa (fC ?_);refine ab ?_;refine cl LW ?_;refine ab ?_;refine aa ?_;refine ab ?_;refine aa (bg (k+1) (bQ eH ⟨?_,rfl,trivial⟩) oG oG);rw[<- Mb];rfl
  .have bl:¬ k<n:=by simpa using h
   have:k=n:=by omega
   subst this;refine bQ eH ⟨?_,rfl,trivial⟩;show some (Row.cells (cU (_++replicate (k - k) _)) _)=_;rw[Nat.sub_self,List.replicate_zero,List.append_nil]
 rintro s hg;refine⟨_,hg,aw ?_⟩;have hi:(replicate n (replicate 20 nK))[0]? =some (replicate 20 nK):=by simp[zg]
 have wS:∀ w∈replicate n (replicate 20 nK),w.length=20:=fun w U=>by rw[List.eq_of_mem_replicate U];simp
 refine ab ?_;refine au (abu ajZ rfl afS) ak ⟨V.h,V.h⟩ ?_;refine ab ?_;refine au (mr rfl rfl rfl V.h V.h) ak ⟨V.h,oG⟩ ?_;refine bM (eg (d:=.s (.bool _)) (cs':=_) rfl rfl rfl rfl rfl) ak (bU V.h V.h (by first|(simp;done)|exact⟨rfl,bC rfl⟩|(simp;omega)) rfl) ?_;refine aa (bG (bQ (l:=[(1,.pt (aW p q f)),(4,.rs 1 0 n),(5,.rs 2 0 n)]) (ml:=[(1,.cells (cU ((replicate n (replicate 20 nK)).set 0 (lS 0))) 201),(2,.cells (((replicate n false).set 0 true).map B) 4)]) eH ⟨rfl,?_,trivial⟩) (aB (aw ?_)))
 .rw[List.map_set];rfl
 clear hi;refine aZ ?_
 refine aa (bY (fun s=>aI prog s ⟨ay [(1,.pt (aW p q f)),(4,.rs 1 0 n),(5,.rs 2 0 n)],a7 [(1,.cells (cU ((replicate n (replicate 20 nK)).set 0 (lS args))) 201),(2,.cells (((replicate n false).set 0 true).map B) 4)],3⟩) (cy (α:=Nat)
  (fun k=>⟨ay [(1,.pt (aW p q f)),(4,.rs 1 0 n),(5,.rs 2 0 n),(43,I args),(44,I k)],a7 [(1,.cells (cU ((replicate n (replicate 20 nK)).set 0 (lS k))) 201),(2,.cells (((replicate n false).set 0 true).map B) 4)],3⟩)
  (fun k=>k<=args) (fun k=>args - k) 0 (bQ ⟨rfl,rfl,rfl,congrArg I ha,rfl,trivial⟩ eH) oG ?_) ?_)
 .intro k hk;refine SS ?_;refine aa ⟨_,rfl,fun h=>?_,fun h=>?_⟩
  .have af:k<args:=by simpa using h
   have hi:((replicate n (replicate 20 nK)).set 0 (lS k))[0]? =some (lS k):=by simp[zg]
   have wS:=Ka (i:=0) wS (PY k);have p8:=p8 (w:=lS k) (n:=(k:Int)) oS oG;refine ws ?_;refine ab ?_;refine aa (fC ?_);refine ax ?_;refine au (eL rfl rfl V.h V.h (G0 oN oN)) ak (eM V.h V.h (yc oN oN)) ?_;refine SS ?_;refine cl p8 ?_;refine ab ?_;refine aa ?_;refine ab ?_;refine aa (bg (k+1) (bQ eH ⟨?_,rfl,trivial⟩) oG oG);show some (Row.cells (cU ((List.set _ 0 (lS k)).set 0 (lS (k+1)))) _)=_;rw[List.set_set]
  .have bl:¬ k<args:=by simpa using h
   have:k=args:=by omega
   subst this;exact av eH
 clear wS;rintro s hg;refine⟨_,hg,aB (aw ?_)⟩;refine SS ?_;have hi0:=OL (n:=n) zo;have hR:pa f.blocks args=qL f.blocks (wU (vf n args)+1) (vf n args):=by rw[pa,hn]
 generalize pa f.blocks args=R at hR ⊢
 refine aa (bY (fun s=>∃ n',aI prog s ⟨ay [(4,.rs 1 0 n),(5,.rs 2 0 n)],a7 [(1,.cells (cU R.wsq) 201),(2,.cells (R.re.map B) 4)],n'⟩/\l6 n R) (ab8 (α:=CS×Nat)
  (fun s=>⟨ay [(1,.pt (aW p q f)),(4,.rs 1 0 n),(5,.rs 2 0 n),(8,B s.1.ch)],a7 [(1,.cells (cU s.1.wsq) 201),(2,.cells (s.1.re.map B) 4)],s.2⟩)
  (fun s=>l6 n s.1/\3<=s.2/\(s.1.ch=true->∃ k,wU s.1<k/\qL f.blocks k s.1=R)/\(s.1.ch=false->s.1=R)) (fun s=>2*wU s.1+if s.1.ch=true then 1 else 0) (vf n args,3)
  (bQ eH eH) ⟨hi0,a8 _,fun _=>⟨_,Nat.lt_succ_self _,hR.symm⟩,fun h=>by cases h⟩ ?_) ?_)
 .rintro⟨C,N0⟩ ⟨yG,VS,VT,UR⟩;dsimp only at yG VS VT UR ⊢;refine SS ?_;refine aa ⟨_,rfl,fun h0=>?_,fun h=>?_⟩
  .obtain⟨eb,amx,TN⟩:=VT h0;obtain⟨eb,rfl⟩:∃ j,eb=j+1:=⟨eb - 1,oG⟩
   have TO:=Iv hb yG;refine ws ?_;refine SS ?_;refine aa (aw ?_);refine bu ?_
   refine aa (cy (α:=Nat×Nat)
    (fun k=>⟨ay [(1,.pt (aW p q f)),(4,.rs 1 0 n),(5,.rs 2 0 n),(8,B ((range k.1).foldl (iP f.blocks) ⟨C.wsq,C.re,false⟩).ch),(58,cF f.blocks),(59,I n),(60,I k.1)],a7 [(1,.cells (cU ((range k.1).foldl (iP f.blocks) ⟨C.wsq,C.re,false⟩).wsq) 201),(2,.cells (((range k.1).foldl (iP f.blocks) ⟨C.wsq,C.re,false⟩).re.map B) 4)],k.2⟩)
    (fun k=>k.1<=n/\3<=k.2) (fun k=>n - k.1) (0,N0) (bQ ⟨rfl,rfl,rfl,rfl,rfl,congrArg (fun k:Nat=>I k) hn,rfl,trivial⟩ eH) ⟨Nat.zero_le _,VS⟩ ?_)
   rintro⟨k,N⟩ ⟨hk,hN⟩;dsimp only at hk hN ⊢;have bL:=(EZ (J:=l6 n) (φ:=qw) (f:=iP f.blocks) (l:=range k) (fun k _ s hs=>Q3 hb hs) (s:=⟨C.wsq,C.re,false⟩) ⟨yG.lw,yG.lr,yG.mi,yG.rg⟩).1;have gT:(range (k+1)).foldl (iP f.blocks) ⟨C.wsq,C.re,false⟩=iP f.blocks ((range k).foldl (iP f.blocks) ⟨C.wsq,C.re,false⟩) k:=by rw[List.range_succ,List.foldl_append];rfl
   have TP:k=n->(range k).foldl (iP f.blocks) ⟨C.wsq,C.re,false⟩=py f.blocks C:=fun e=>by rw[e,py,hn]
   generalize (range k).foldl (iP f.blocks) ⟨C.wsq,C.re,false⟩=u at bL gT TP;refine SS ?_;refine aa ⟨_,rfl,fun h=>?_,fun h=>?_⟩
   .have af:k<n:=by simpa using h
    have hx:f.blocks[k]? =some f.blocks[k]:=aU oG;have j3:f.blocks[k]∈f.blocks:=gf _;generalize f.blocks[k]=x at hx j3;have ja:=hb x j3;have M:iP f.blocks u k=if u.re.getD k false=true then(nextR x.fin).foldl (gz x.fin (mq x (u.wsq.getD k [])).1) u else u:=by rw[iP,hx]
    have lw:=bL.lw;have lr:=bL.lr;have mi:=bL.mi;have U:u.wsq[k]? =some u.wsq[k]:=aU oG;have mU:u.re[k]? =some u.re[k]:=aU oG;rw[getD_some U,getD_some mU] at M;have zB:=mi _ (gf (h:=by omega):u.wsq[k]∈u.wsq);generalize u.wsq[k]=w at U M zB;generalize u.re[k]=b at mU M;have kd:=mY (f:=B) mU;refine ws ?_;refine cr ?_;refine aa (aB (aj ?_));refine ab ?_;refine au (mr rfl rfl (ag oG (ag oG rfl)) V.h V.h) ak ⟨V.h,oG⟩ ?_;refine au (j7 rfl (ag oG (ag oG rfl)) kd V.h) ak (j8 V.h V.h kd) ?_;refine SS ?_;refine aa (cR rfl (fun h=>tm (Gj ?_)) fun h=>cI (BR Ym ?_))
    .have NQ:b=false:=by simpa using h
     subst NQ;have M:iP f.blocks u k=u:=M;refine ab ?_;refine aa (bg (k+1,N+1) (bQ ⟨rfl,rfl,rfl,?_,rfl,rfl,rfl,trivial⟩ ⟨?_,?_,trivial⟩) ⟨oM,oM⟩ oM)
     .dsimp only;rw[gT,M];rfl
     .dsimp only;rw[gT,M];exact ag oG (ag oG rfl)
     .dsimp only;rw[gT,M];exact ag oG (ag oG rfl)
    have NR:b=true:=by simpa using h
    subst NR;have M:iP f.blocks u k=(nextR x.fin).foldl (gz x.fin (mq x w).1) u:=M;have nJ:=nJ zB ja.len ja.ins ja.fin ja.rl ja.rf;have uB:=Ir x w;rw[zB] at uB;generalize VR:mq x w=th at nJ uB M;obtain⟨w',NP⟩:=th;dsimp only at uB nJ M;clear kd;refine au (eL (vs:=bH _) rfl (ah _ _ _) V.h V.h rfl) ak (eM V.h V.h (by first|(simp;done)|omega|exact bC rfl)) ?_;refine ab ?_;refine au (Ct rfl rfl (ag oG (ag oG (ah _ _ _))) V.h V.h) ak ⟨V.h,oG⟩ ?_;refine au (eL rfl (ag oG (ag oG (ah _ _ _))) V.h V.h (G0 oN oN)) ak (eM V.h V.h (yc oN oN)) ?_;refine cl nJ ?_;refine cr ?_;refine ct cG (bG (tv (l:=[(1,.pt (aW p q f)),(4,.rs 1 0 n),(5,.rs 2 0 n),(8,B u.ch),(10,.rp N 0),(11,.rp (N+1) 0),(58,cF f.blocks),(59,I n),(60,I k)]) (m':=up (up (a7 [(1,.cells (cU u.wsq) 201),(2,.cells (u.re.map B) 4)]) N (some (.cells (bH x) 59))) (N+1) (some (.cells (w'.map cM) 201))) eH (by rw[uh,uh])) (aw ?_));have uw:=uw (x:=x.fin);have uA:=SI (x:=x.fin) ja.fin.wh
    change aA _ _ _ (aP (nextR x.fin)) at uA
    have gh:=ja.to;have ma:=I9 x.fin;have hwh:=ja.fin.wh;generalize nextR x.fin=l at uA M gh ma;refine au (rN rfl (ag oG (ah _ _ _)) V.h) ak (pQ V.h) ?_;refine au (eL (vs:=bw _) rfl (ag oG (ah _ _ _)) V.h V.h rfl) ak (eM V.h V.h (by first|(simp;done)|omega|exact bC rfl)) ?_;refine cl uw ?_;refine cl uA ?_;refine ab ?_;have LZ:iP f.blocks u k=l.foldl (gz x.fin w') u:=M
    refine aa (cy (α:=Nat×Nat)
     (fun j=>⟨ay [(1,.pt (aW p q f)),(4,.rs 1 0 n),(5,.rs 2 0 n),(8,B ((l.take j.1).foldl (gz x.fin w') u).ch),(10,.rp N 0),(11,.rp (N+1) 0),(58,cF f.blocks),(59,I n),(60,I k),(82,aP l),(83,I l.length),(84,I j.1)],up (up (a7 [(1,.cells (cU ((l.take j.1).foldl (gz x.fin w') u).wsq) 201),(2,.cells (((l.take j.1).foldl (gz x.fin w') u).re.map B) 4)]) N (some (.cells (bH x) 59))) (N+1) (some (.cells (w'.map cM) 201)),j.2⟩)
     (fun j=>j.1<=l.length/\N+2<=j.2) (fun j=>l.length - j.1) (0,N+2) (tv eH rfl) ⟨Nat.zero_le _,a8 _⟩ ?_)
    rintro⟨j,N'⟩ ⟨hj,hN'⟩;dsimp only at hj hN' ⊢;have Ig:=(EZ (J:=l6 n) (φ:=qw) (f:=gz x.fin w') (l:=l.take j) (fun t ht s hs=>Pn hs (gh t (List.mem_of_mem_take ht))) bL).1;have X:∀ t,l[j]? =some t->(l.take (j+1)).foldl (gz x.fin w') u=gz x.fin w' ((l.take j).foldl (gz x.fin w') u) t:=fun t ht=>B2 ht;have Dq:j=l.length->(l.take j).foldl (gz x.fin w') u=iP f.blocks u k:=fun e=>by rw[LZ,df oG]
    generalize (l.take j).foldl (gz x.fin w') u=v at Ig X Dq;clear lw lr mi U mU;have lw:=Ig.lw;have lr:=Ig.lr;have mi:=Ig.mi;refine SS ?_;refine aa ⟨_,rfl,fun h=>?_,fun h=>?_⟩
    .have dq:j<l.length:=by simpa using h
     have ht:l[j]? =some l[j]:=aU dq;have Ew:=gh _ (gf dq);generalize l[j]=t at ht Ew;obtain⟨i,rfl⟩:=kL Ew.1;have dd:i<n:=by omega
     have U:v.wsq[i]? =some v.wsq[i]:=aU oG;have mU:v.re[i]? =some v.re[i]:=aU oG;have NS:=mi _ (gf (h:=by omega):v.wsq[i]∈v.wsq);generalize v.wsq[i]=y at U NS;generalize v.re[i]=b at mU;have kd:=mY (f:=B) mU;have wo:=wo (x:=x.fin) (b:=(i:Int)) (w:=w') uB (by have:=ja.fin.wh;omega) (by have:=ja.fin.wr;omega);have VU:=PV x.fin i w';rw[uB] at VU;have Hh:=Hh NS VU;have DV:=PZ y (iA x.fin i w');rw[NS] at DV;have yes:=Xw (x:=x.fin) (w:=w') U mU;have no:=Yl (x:=x.fin) (w:=w') U mU;generalize mC y (iA x.fin i w')=z at Hh DV yes no;refine ws ?_;refine ax ?_;refine aa (BR Yn ?_);refine ab ?_;refine au (Ct rfl rfl (ag oG (ag oG (ah _ _ _))) V.h V.h) ak ⟨V.h,oG⟩ ?_;refine au (eL rfl (ag oG (ag oG (ah _ _ _))) V.h V.h (G0 oN oN)) ak (eM V.h V.h (yc oN oN)) ?_;refine au (rN rfl (ag oG (ah _ _ _)) V.h) ak (pQ V.h) ?_;refine au (eL (vs:=bw _) rfl (ag oG (ah _ _ _)) V.h V.h rfl) ak (eM V.h V.h (by first|(simp;done)|omega|exact bC rfl)) ?_;refine SS ?_;refine au (eL rfl (ah _ _ _) V.h V.h (np (by first|rfl|exact bC rfl|(simp;done)|(simp;omega)|omega))) ak (eM V.h V.h (by first|rfl|exact bC rfl|(simp;done)|(simp;omega)|omega)) ?_;refine cl wo ?_;refine cl Hh ?_;refine ab ?_;refine ct cG (bG (tv (l:=[(1,.pt (aW p q f)),(4,.rs 1 0 n),(5,.rs 2 0 n),(8,B v.ch),(10,.rp N 0),(11,.rp (N+1) 0),(14,I i),(15,.rp N' 0),(58,cF f.blocks),(59,I n),(60,I k),(82,aP l),(83,I l.length),(84,I j)]) (m':=up (up (up (a7 [(1,.cells (cU v.wsq) 201),(2,.cells (v.re.map B) 4)]) N (some (.cells (bH x) 59))) (N+1) (some (.cells (w'.map cM) 201))) N' (some (.cells (z.map cM) 201))) eH (uh _ _ _ _)) (ep Yo ?_));refine ab ?_;refine au (mr rfl rfl (ag oG (ag oG (ag oG rfl))) V.h V.h) ak ⟨V.h,oG⟩ ?_;refine au (j7 rfl (ag oG (ag oG (ag oG rfl))) kd V.h) ak (j8 V.h V.h kd) ?_;refine ab ?_;refine bd rfl rfl (eL rfl (ah _ _ _) V.h V.h (np (by first|rfl|exact bC rfl|(simp;done)|(simp;omega)|omega))) (fun hc=>⟨ak,(eM V.h V.h (by first|rfl|exact bC rfl|(simp;done)|(simp;omega)|omega))⟩) ?_;refine ab ?_;refine bd rfl rfl (Ct rfl rfl (ag oG (ag oG (ag oG (ah _ _ _)))) V.h V.h) (fun hc=>⟨ak,⟨V.h,oG⟩⟩) ?_;refine bd rfl rfl (eL rfl (ag oG (ag oG (ag oG (ah _ _ _)))) V.h V.h (G0 oN oN)) (fun hc=>⟨ak,(eM V.h V.h (yc oN oN))⟩) ?_;refine bd rfl rfl (afT rfl rfl (by first|assumption|(simp;omega)|omega)) (fun hc=>⟨ak,(afU (by first|assumption|(simp;omega)|omega))⟩) ?_;refine SS ?_;refine ct cG (aO rfl (fun h=>?_) fun h=>?_)
     .have yes:=yes (by
       cases b with
       |false=>exact .inl rfl
       |true=>exact .inr (by simpa using h))
      have X:=(X _ ht).trans yes;clear yes no;refine fC ?_;refine aZ ?_;refine au (eL rfl (ah _ _ _) V.h V.h (np (by first|rfl|exact bC rfl|(simp;done)|(simp;omega)|omega))) ak (eM V.h V.h (by first|rfl|exact bC rfl|(simp;done)|(simp;omega)|omega)) ?_;refine au (Ct rfl rfl (ag oG (ag oG (ag oG (ah _ _ _)))) V.h V.h) ak ⟨V.h,oG⟩ ?_;refine bM (fk rfl rfl (ag oG (ag oG (ag oG (ah _ _ _)))) (Ti oC oN oN (by first|assumption|(simp;omega)|(simp;done)))) ak (Cg (by first|(simp;omega)|(simp;done)) (yc oN oN) (nF _)) ?_;refine au (mr rfl rfl (ag oG (ag oG (ag oG (ag oG rfl)))) V.h V.h) ak ⟨V.h,oG⟩ ?_;refine bM (eg (d:=.s (.bool _)) (cs':=_) rfl rfl (ag oG (ag oG (ag oG (ag oG rfl)))) rfl rfl) ak (bU V.h V.h (by first|(simp;done)|exact⟨rfl,bC rfl⟩|(simp;omega)) rfl) ?_;refine SS ?_;refine aa ?_;refine ab ?_
      refine aa (bg (j+1,N'+1) (bQ (ml:=[(N+1,.cells (w'.map cM) 201),(N,.cells (bH x) 59),(1,.cells (cU ((l.take (j+1)).foldl (gz x.fin w') u).wsq) 201),(2,.cells (((l.take (j+1)).foldl (gz x.fin w') u).re.map B) 4)]) ⟨rfl,rfl,rfl,?_,rfl,rfl,rfl,rfl,rfl,rfl,rfl,rfl,trivial⟩
       ⟨ag oG (ag oG (ag oG (ah _ _ _))),ag oG (ag oG (ag oG (ag oG (ah _ _ _)))),ag oG ?_,?_,trivial⟩) ⟨oM,oM⟩ oM)
      .dsimp only;rw[X];rfl
      .rw[X];exact ah _ _ _
      .rw[X];dsimp only;rw[List.map_set];exact ah _ _ _
     .have no:=no (by
       cases b with
       |false=>simp at h
       |true=>simpa using h)
      have X:=(X _ ht).trans no;refine cT ?_;refine ab ?_
      refine aa (bg (j+1,N'+1) (bQ (ml:=[(N+1,.cells (w'.map cM) 201),(N,.cells (bH x) 59),(1,.cells (cU ((l.take (j+1)).foldl (gz x.fin w') u).wsq) 201),(2,.cells (((l.take (j+1)).foldl (gz x.fin w') u).re.map B) 4)]) ⟨rfl,rfl,rfl,?_,rfl,rfl,rfl,rfl,rfl,rfl,rfl,rfl,trivial⟩
       ⟨ag oG (ah _ _ _),ag oG (ag oG (ah _ _ _)),?_,?_,trivial⟩) ⟨oM,oM⟩ oM)
      .dsimp only;rw[X];rfl
      .rw[X];exact ag oG (ag oG (ag oG rfl))
      .rw[X];exact ag oG (ag oG (ag oG rfl))
    .have bl:¬ j<l.length:=by simpa using h
     have vl:=Dq oG;subst vl;show aq _ _ _ _ _ _ _ _ _;refine ab ?_;refine aa (bg (k+1,N') (bQ ⟨rfl,rfl,rfl,?_,rfl,rfl,rfl,trivial⟩ ⟨?_,?_,trivial⟩) ⟨oM,oM⟩ oM)
     .dsimp only;rw[gT];rfl
     .dsimp only;rw[gT];exact ag oG (ag oG rfl)
     .dsimp only;rw[gT];exact ag oG (ag oG rfl)
   .have bl:¬ k<n:=by simpa using h
    have hl:=TP oG;subst hl;refine bg (py f.blocks C,N) (bQ eH eH) ⟨bL,hN,fun hc=>?_,fun hc=>?_⟩ ?_
    .refine⟨eb,?_,?_⟩
     .have:=TO.2;unfold qw at this;show wU (py f.blocks C)<eb;rw[if_pos hc] at this;omega
     .dsimp only at hc ⊢;rw[<- TN,qL,if_pos hc]
    .dsimp only at hc ⊢;rw[<- TN,qL,if_neg (by simp[hc])]
    .have:=TO.2;unfold qw at this;dsimp only;rw[if_pos h0];split at this<;>rename_i hc
     .rw[if_pos hc];omega
     .rw[if_neg hc];omega
  .have hR':=UR h;subst hR';exact⟨N0,bQ eH eH,yG⟩
 .rintro s ⟨n',hg,Mi⟩;refine⟨_,hg,aw ?_⟩;refine aZ ?_;refine aa (bG (dB [(1,cU R.wsq,201),(2,R.re.map B,4)] ⟨rfl,acJ oG rfl .map,trivial⟩ (l:=[(2,.sl (cU R.wsq) n),(3,.sl (R.re.map B) n)]) ⟨?_,?_,trivial⟩) (gk rfl rfl rfl))
  .show sub (cE 2 (R.re.map B) (prog.cellsOf 4)) (sub (cE 1 (cU R.wsq) (prog.cellsOf 201)) (D.rs 1 0 n))=_;rw[iJ (by rw[rj,I7 Mi.mi,Mi.lw]),adL]
  .show sub (cE 2 (R.re.map B) (prog.cellsOf 4)) (sub (cE 1 (cU R.wsq) (prog.cellsOf 201)) (D.rs 2 0 n))=_;rw[I8 oG,iJ (by rw[c4,List.length_map,Mi.lr,Nat.mul_one])]
end Go.Proofs.Tryz.K
namespace Go.Abs
def jc(r:Nat)(l:List D):D:=match l with
 |[]=>.z
 |_=>.rs r 0 l.length
theorem Dj{r:Nat}{l:List D}(h:l≠[]):jc r l=.rs r 0 l.length:=by cases l with
 |nil=>exact absurd rfl h
 |cons=>rfl
def nI(ρ:Nat->Nat)(L:Nat->List D)(n:Nat):List D:=(range n).map fun i=>jc (ρ i) (L i)
@[simp] theorem amp (ρ : Nat -> Nat) (L : Nat -> List D) (n : Nat) : (nI ρ L n).length = n := by simp [nI]
theorem QO{ρ:Nat->Nat}{L:Nat->List D}{n i:Nat}(hi:i<n):∃ cs,(nI ρ L n).drop i=jc (ρ i) (L i)::cs:=
 ⟨_,mY (f:=fun i=>jc (ρ i) (L i)) (by simp[hi])⟩
theorem ZS{α:Type}{F:Nat->α}{n i:Nat}{x:α}:((range n).map F).set i x=(range n).map (up F i x):=by
 apply List.ext_getElem?;intro k;rw[List.getElem?_set];simp only[List.length_map,List.length_range,List.getElem?_map];split
 .rename_i e;subst e;split
  .rename_i h;simp[h,ah]
  .rename_i h;simp[h]
 .rename_i e;by_cases hk:k<n
  .simp[hk,az F x (Ne.symm e)]
  .simp[hk]
theorem acN{ρ:Nat->Nat}{L:Nat->List D}{n i r:Nat}{l:List D}(hl:l≠[]):(nI ρ L n).set i (.rs r 0 l.length)=nI (up ρ i r) (up L i l) n:=by
 unfold nI;rw[ZS];refine congrArg (fun F=>(range n).map F) (funext fun k=>?_);simp only[up];split
 .rw[Dj hl]
 .rfl
structure jN(m:Mem)(nx j n:Nat)(e et:TypeId)(ρ:Nat->Nat)(L:Nat->List D):Prop where
 row:m j=some (.cells (nI ρ L n) e)
 zt:j<nx
 A6:∀ i,i<n->L i≠[]->m (ρ i)=some (.cells (L i) et)
 lt:∀ i,i<n->L i≠[]->ρ i<nx
 ne:∀ i,i<n->L i≠[]->ρ i≠j
 inj:∀ i k,i<n->k<n->L i≠[]->L k≠[]->ρ i=ρ k->i=k
theorem jN.ext{m m':Mem}{nx C j n:Nat}{e et:TypeId}{ρ:Nat->Nat}{L:Nat->List D}(h:jN m nx j n e et ρ L)(hm:∀ q,q<nx->m' q=m q)(hn:nx<=C):jN m' C j n e et ρ L:=
 ⟨(hm j h.zt).trans h.row,Nat.lt_of_lt_of_le h.zt hn,fun i hi hl=>(hm _ (h.lt i hi hl)).trans (h.A6 i hi hl),fun i hi hl=>Nat.lt_of_lt_of_le (h.lt i hi hl) hn,h.ne,h.inj⟩
theorem jN.HX{m m':Mem}{nx ai j n i r:Nat}{e et:TypeId}{ρ:Nat->Nat}{L:Nat->List D}{l:List D}(h:jN m nx j n e et ρ L)(hi:i<n)(hl:l≠[])(hr:nx<=r)(jo:r<ai)
 (hj:m' j=some (.cells ((nI ρ L n).set i (.rs r 0 l.length)) e)) (ap:m' r=some (.cells l et)) (hk:∀ q,q<nx->q≠j->(L i≠[]->q≠ρ i)->m' q=m q):jN m' ai j n e et (up ρ i r) (up L i l):=by
 have dq:=h.zt
 have old:∀ k,k<n->k≠i->L k≠[]->m' (ρ k)=some (.cells (L k) et):=fun k M J C=>
  (hk _ (h.lt k M C) (h.ne k M C) fun LD e=>J (h.inj k i M hi C LD e)).trans (h.A6 k M C)
 refine⟨by rw[hj,acN hl],oG,fun k M C=>?_,fun k M C=>?_,fun k M C=>?_,fun a b ha hb zs pu X=>?_⟩
 .by_cases J:k=i
  .subst J;rw[ah,ah];exact ap
  .rw[az _ _ J] at C ⊢;rw[az _ _ J];exact old k M J C
 .by_cases J:k=i
  .subst J;rw[ah];exact jo
  .rw[az _ _ J] at C ⊢;have:=h.lt k M C;omega
 .by_cases J:k=i
  .subst J;rw[ah];omega
  .rw[az _ _ J] at C ⊢;exact h.ne k M C
 .by_cases Ek:a=i
  .by_cases U:b=i
   .omega
   .subst Ek;rw[ah,az _ _ U] at X;rw[az _ _ U] at pu;have:=h.lt b hb pu;omega
  .by_cases U:b=i
   .subst U;rw[ah,az _ _ Ek] at X;rw[az _ _ Ek] at zs;have:=h.lt a ha zs;omega
   .rw[az _ _ Ek] at zs X;rw[az _ _ U] at pu X;exact h.inj a b ha hb zs pu X
theorem abz{m:Mem}{nx j n:Nat}{e et:TypeId}{ρ:Nat->Nat}(hj:j<nx)(hm:m j=some (.cells (replicate n .z) e)):jN m nx j n e et ρ (fun _=>[]):=by
 refine⟨?_,hj,fun _ _ h=>absurd rfl h,fun _ _ h=>absurd rfl h,fun _ _ h=>absurd rfl h,fun _ _ _ _ h=>absurd rfl h⟩;rw[hm];congr 2;unfold nI jc;rw[List.map_const',List.length_range]
theorem acO(n:Nat):dC n [.z]=replicate n D.z:=by
 unfold dC
 induction n with
 |zero=>rfl
 |succ n ih=>rw[List.replicate_succ,List.replicate_succ,List.flatten_cons,ih];rfl
def fG(X:Nat->Prop)(d:D):Prop:=∀ i cs sz,X i->sub (cE i cs sz) d=d
def kY(X:Nat->Prop)(r:Row):Prop:=∀ i cs sz,X i->Row.sub (cE i cs sz) r=r
theorem fG.s{X:Nat->Prop}(v:Value):fG X (.s v):=fun _ _ _ _=>rfl
theorem fG.sl{X:Nat->Prop}(es:List D)(n:Nat):fG X (.sl es n):=fun _ _ _ _=>rfl
theorem fG.z{X:Nat->Prop}:fG X .z:=fun _ _ _ _=>rfl
theorem fG.u{X:Nat->Prop}:fG X .u:=fun _ _ _ _=>rfl
theorem fG.rs{X:Nat->Prop}{j off n:Nat}(h:¬ X j):fG X (.rs j off n):=fun i cs sz hi=>I8 fun e=>h (e▸hi)
theorem kY.cells{X:Nat->Prop}{cs:List D}{e:TypeId}(h:∀ d∈cs,fG X d):kY X (.cells cs e):=fun i C sz hi=>by
 show Row.cells (cs.map _) e=_;congr 1
 induction cs with
 |nil=>rfl
 |cons d cs ih=>rw[List.map_cons,h d oS i C sz hi,ih fun d hd=>h d (by simp[hd])]
theorem kY.aj0{X:Nat->Prop}{cs:List D}{e:TypeId}(h:yF cs):kY X (.cells cs e):=kY.cells fun d hd=>by obtain⟨v,rfl⟩:=h d hd;exact .s v
theorem tG(d:D):Wk d d:=fun _ _ _ _ h=>h
theorem A4:Wk .z (.sl [] 0):=fun F β w v hv=>by
 obtain⟨x,rfl⟩:=hv.tX;exact .fZ x 0
theorem Yp{X:Nat->Prop}{l:List (Nat×D)}(h:∀ x∈l,fG X x.2)(t:Nat):fG X (ay l t):=by
 induction l with
 |nil=>exact .u
 |cons x l ih=>
  obtain⟨k,d⟩:=x;simp only[ay];split
  .exact h (k,d) oS
  .exact ih fun y hy=>h y (by simp[hy])
theorem Yq{X:Nat->Prop}{l:List (Nat×Row)}(h:∀ x∈l,kY X x.2){q:Nat}{r:Row}(hq:a7 l q=some r):kY X r:=by
 induction l with
 |nil=>simp[a7] at hq
 |cons x l ih=>
  obtain⟨k,d⟩:=x;simp only[a7] at hq;split at hq
  .cases hq;exact h (k,r) oS
  .exact ih (fun y hy=>h y (by simp[hy])) hq
theorem ZT{l:List (Nat×Row)}{q:Nat}(h:∀ x∈l,x.1≠q):a7 l q=none:=by
 induction l with
 |nil=>rfl
 |cons x l ih=>
  obtain⟨k,d⟩:=x;simp only[a7];rw[if_neg fun e=>h (k,d) oS e.symm];exact ih fun y hy=>h y (by simp[hy])
section
variable{P:Program}
open Classical in
noncomputable def jX(ml:List (Nat×Row))(j n k:Nat)(e et:TypeId)(ρ:Nat->Nat)(L:Nat->List D):Mem:=fun q=>
 if q=j then some (.cells ((range n).map fun i=>if i<k then .sl (L i) (L i).length else jc (ρ i) (L i)) e)
 else if h:∃ i,k<=i/\i<n/\L i≠[]/\ρ i=q then some (.cells (L (Classical.choose h)) et)
 else a7 ml q
theorem abA{m:Mem}{nx j n k:Nat}{e et:TypeId}{ρ:Nat->Nat}{L:Nat->List D}{l:List (Nat×D)}{ml:List (Nat×Row)}{X:Nat->Prop}(h:jN m nx j n e et ρ L)(hs:∀ i,yF (L i))(het:P.cellsOf et=1)
 (U:∀ i,i<n->L i≠[]->X (ρ i)) (wQ:¬ X j) (hl:∀ x∈l,fG X x.2) (ir:∀ x∈ml,kY X x.2/\¬ X x.1) (hk:k<n):
 aI P ⟨ay l,jX ml j n k e et ρ L,nx⟩ ⟨ay l,jX ml j n (k+1) e et ρ L,nx⟩:=by
 by_cases C:L k=[]
 .refine .nv _ _ _ _ _ (fun t=>tG _) fun q=>?_;by_cases hq:q=j
  .subst hq;right;refine⟨_,_,e,by simp only[jX,if_true];rfl,by simp only[jX,if_true];rfl,oS,fun i d d' hd fa=>?_⟩;simp only[List.getElem?_map,cP] at hd fa;obtain⟨a,ha,rfl⟩:=hd;obtain⟨b,hb,rfl⟩:=fa;rw[ha] at hb;cases hb;by_cases h1:a<k
   .rw[if_pos h1,if_pos oG];exact tG _
   .rw[if_neg h1];by_cases h2:a=k
    .subst h2;rw[if_pos oG,C];exact A4
    .rw[if_neg oG];exact tG _
  .left;simp only[jX,if_neg hq]
   have:(∃ i,k+1<=i/\i<n/\L i≠[]/\ρ i=q)↔(∃ i,k<=i/\i<n/\L i≠[]/\ρ i=q):=by
    constructor
    .rintro⟨i,h1,h2⟩;exact⟨i,oG,h2⟩
    .rintro⟨i,h1,h2,J,M⟩
     exact⟨i,by
      rcases Nat.lt_or_ge k i with g|g
      .exact g
      .have:i=k:=by omega
       subst this;exact absurd C J,h2,J,M⟩
   by_cases hc:∃ i,k<=i/\i<n/\L i≠[]/\ρ i=q
   .rw[dif_pos (this.2 hc),dif_pos hc];have e1:=Classical.choose_spec hc;have e2:=Classical.choose_spec (this.2 hc);have:Classical.choose (this.2 hc)=Classical.choose hc:=h.inj _ _ e2.2.1 e1.2.1 e2.2.2.1 e1.2.2.1 (e2.2.2.2.trans e1.2.2.2.symm);rw[this]
   .rw[dif_neg (fun h=>hc (this.1 h)),dif_neg hc]
 .have VV:ρ k≠j:=h.ne k hk C
  have ap:jX ml j n k e et ρ L (ρ k)=some (.cells (L k) et):=by
   have hc:∃ i,k<=i/\i<n/\L i≠[]/\ρ i=ρ k:=⟨k,a8 _,hk,C,rfl⟩
   simp only[jX,if_neg VV,dif_pos hc];have e1:=Classical.choose_spec hc;have:Classical.choose hc=k:=h.inj _ _ e1.2.1 hk e1.2.2.1 C e1.2.2.2;rw[this]
  have hg:=aI.freeze (P:=P) (ay l) (jX ml j n k e et ρ L) nx (ρ k) (L k) et ap;have e1:(fun t=>sub (cE (ρ k) (L k) (P.cellsOf et)) (ay l t))=ay l:=funext fun t=>Yp hl t _ _ _ (U k hk C)
  have e2:(fun q=>if q=ρ k then none else(jX ml j n k e et ρ L q).map (Row.sub (cE (ρ k) (L k) (P.cellsOf et))))=jX ml j n (k+1) e et ρ L:=by
   funext q;by_cases Ey:q=ρ k
   .subst Ey;rw[if_pos rfl]
    have hc:¬ ∃ i,k+1<=i/\i<n/\L i≠[]/\ρ i=ρ k:=by
     rintro⟨i,g1,g2,g3,g4⟩;have:=h.inj _ _ g2 hk g3 C g4;omega
    simp only[jX,if_neg VV,dif_neg hc];exact(ZT fun x hx e=>(ir x hx).2 (e▸U k hk C)).symm
   .rw[if_neg Ey];by_cases uU:q=j
    .subst uU;simp only[jX,if_true,Option.map_some];congr 1;show Row.cells (List.map _ (List.map _ _)) e=_;rw[List.map_map];congr 1;refine List.map_congr_left fun i hi=>?_;have dd:i<n:=by simpa using hi
     simp only[Function.comp_apply];by_cases h1:i<k
     .rw[if_pos h1,if_pos oG];rfl
     .rw[if_neg h1];by_cases h2:i=k
      .subst h2;rw[if_pos oG,Dj C,het];exact iJ oG
      .rw[if_neg oG];by_cases J:L i=[]
       .rw[J];rfl
       .rw[Dj J];exact I8 fun e=>h2 (h.inj _ _ dd hk J C e)
    .simp only[jX,if_neg uU]
     have this:(∃ i,k+1<=i/\i<n/\L i≠[]/\ρ i=q)↔(∃ i,k<=i/\i<n/\L i≠[]/\ρ i=q):=by
      constructor
      .rintro⟨i,h1,h2⟩;exact⟨i,oG,h2⟩
      .rintro⟨i,h1,h2,J,M⟩
       exact⟨i,by
        rcases Nat.lt_or_ge k i with g|g
        .exact g
        .have:i=k:=by omega
         subst this;exact absurd M.symm Ey,h2,J,M⟩
     by_cases hc:∃ i,k<=i/\i<n/\L i≠[]/\ρ i=q
     .rw[dif_pos (this.2 hc),dif_pos hc];have e1:=Classical.choose_spec hc;have e2:=Classical.choose_spec (this.2 hc);have:Classical.choose (this.2 hc)=Classical.choose hc:=h.inj _ _ e2.2.1 e1.2.1 e2.2.2.1 e1.2.2.1 (e2.2.2.2.trans e1.2.2.2.symm);rw[this];exact congrArg some (kY.aj0 (X:=X) (hs _) _ _ _ (U k hk C))
     .rw[dif_neg (fun h=>hc (this.1 h)),dif_neg hc];cases hm:a7 ml q with
      |none=>rfl
      |some r=>exact congrArg some (Yq (fun x hx=>(ir x hx).1) hm _ _ _ (U k hk C))
  rw[e1,e2] at hg;exact hg
theorem PQ{env:Env}{m:Mem}{nx j n:Nat}{e et:TypeId}{ρ:Nat->Nat}{L:Nat->List D}{l:List (Nat×D)}{ml:List (Nat×Row)}(X:Nat->Prop)(h:jN m nx j n e et ρ L)(hs:∀ i,yF (L i))(C:P.cellsOf et=1)
 (J:∀ i,i<n->L i≠[]->X (ρ i)) (U:¬ X j) (he:kX l env) (hl:∀ x∈l,fG X x.2) (hm:CK ml m) (M:∀ x∈ml,kY X x.2/\¬ X x.1):
 aI P ⟨env,m,nx⟩ ⟨ay l,a7 ((j,.cells ((range n).map fun i=>.sl (L i) (L i).length) e)::ml),nx⟩:=by
 have key:∀ k,k<=n->aI P ⟨ay l,jX ml j n 0 e et ρ L,nx⟩ ⟨ay l,jX ml j n k e et ρ L,nx⟩:=fun k=>by
  induction k with
  |zero=>exact fun _=>.refl _
  |succ k ih=>exact fun hk=>(ih oG).trans (abA h hs C J U hl M oG)
 have h0:aI P ⟨env,m,nx⟩ ⟨ay l,jX ml j n 0 e et ρ L,nx⟩:=by
  refine(aI.forget env _ m nx (pz he)).trans (.drop _ _ _ _ fun q=>?_);by_cases hq:q=j
  .subst hq;left;simp only[jX,if_true,Nat.not_lt_zero,if_false];exact h.row.symm
  .simp only[jX,if_neg hq];by_cases hc:∃ i,0<=i/\i<n/\L i≠[]/\ρ i=q
   .rw[dif_pos hc];have e1:=Classical.choose_spec hc;left;have:=h.A6 _ e1.2.1 e1.2.2.1;rw[e1.2.2.2] at this;exact this.symm
   .rw[dif_neg hc];exact JX hm q
 refine h0.trans ((key n (a8 _)).trans (.drop _ _ _ _ fun q=>.inl ?_));by_cases hq:q=j
 .subst hq;simp only[a7,jX,if_true];congr 2;exact List.map_congr_left fun i hi=>by rw[if_pos (by simpa using hi)]
 .simp only[a7,if_neg hq,jX];rw[dif_neg];rintro⟨i,g1,g2,_⟩;omega
end
end Go.Abs
namespace Go.Argus
open Go.Proofs.Tryz.K (nextR)
def jB(b:Nat)(L:Nat->List Int)(t:Int):Nat->List Int:=up L t.toNat (L t.toNat++[(b:Int)])
def pI(bs:List bx)(L:Nat->List Int)(b:Nat):Nat->List Int:=match bs[b]? with
 |none=>L
 |some x=>(nextR x.fin).foldl (jB b) L
def dj(bs:List bx)(k:Nat):Nat->List Int:=(range k).foldl (pI bs) fun _=>[]
def kZ(bs:List bx):List (List Int):=(range bs.length).map (dj bs bs.length)
def cg(L:List (List Int)):D:=.sl (L.map aP) L.length
theorem tz(L:List (List Int)):Tr (cg L):=.sl (.map fun _=>du _)
theorem QP{F:Nat->List Int}{n:Nat}:(D.sl ((range n).map fun i=>.sl ((F i).map I) ((F i).map I).length) n)=cg ((range n).map F):=by
 unfold cg;rw[List.map_map,List.length_map,List.length_range];congr 1;exact List.map_congr_left fun i _=>by simp[aP]
theorem Po{b:Nat}{L:Nat->List Int}{t:Int}{c:Nat}(h:∀ i,(L i).length<=c):∀ i,(jB b L t i).length<=c+1:=fun i=>by
 unfold jB;simp only[up];split
 .have:=h t.toNat;simp;omega
 .have:=h i;omega
theorem adM{L:Nat->List Int}{k:Nat}{l:List Int}:(fun i=>(up L k l i).map I)=up (fun i=>(L i).map I) k (l.map I):=by
 funext i;simp only[up];split<;>rfl
end Go.Argus
namespace Go.Proofs.Tryz.K
theorem Bf{p q:D}{f:al}{n:Nat}(hp:Tr p)(hq:Tr q)(eB:p.one=true)(bN:q.one=true)(hn:f.blocks.length=n)(zh:n<=100000)(hw:∀ b∈f.blocks,b.fin.aR.length<=9)(ht:∀ b∈f.blocks,∀ t∈nextR b.fin,0<=t/\t<n):
 aA prog 130 [.agg (aW p q f)] (cg (kZ f.blocks)):=by
 have bh:∀ a∈[D.agg (aW p q f)],Tr a:=.cons (kb hp hq f) .nil;refine bj afX bh (tz _) ?_;rw[afY];refine aw ?_;refine ab ?_;refine aa (bG (dB [(0,aW p q f,113)] eH (l:=[(1,.pt (aW p q f))]) eH) (aw ?_));refine aZ ?_;refine eA (Ce rfl rfl V.h V.h) ak ⟨oG,rfl,oG,by rw[Ej];omega,V.h⟩ ?_;refine SS ?_;have ij:((f.blocks.length:Nat):Int).toNat=n:=hn;refine aa (bG (bQ (l:=[(1,.pt (aW p q f)),(3,.rs 1 0 n)]) (ml:=[(1,.cells (replicate n .z) 43)]) ⟨rfl,congrArg (fun k=>D.rs 1 0 k) ij,trivial⟩ ⟨?_,trivial⟩) (aB (aw ?_)))
 .exact congrArg (fun c=>some (Row.cells c 43)) ((congrArg (fun k=>dC k [D.z]) ij).trans (acO n))
 refine bu ?_
 refine aa (bY (fun s=>∃ m nx ρ,aI prog s ⟨ay [(3,.rs 1 0 n)],m,nx⟩/\jN m nx 1 n 43 3 ρ (fun i=>(dj f.blocks n i).map I)) (cy (α:=Nat×Mem×Nat)
  (fun k=>⟨ay [(1,.pt (aW p q f)),(3,.rs 1 0 n),(15,cF f.blocks),(16,I n),(17,I k.1)],k.2.1,k.2.2⟩)
  (fun k=>k.1<=n/\(∃ ρ,jN k.2.1 k.2.2 1 n 43 3 ρ (fun i=>(dj f.blocks k.1 i).map I))/\∀ i,(dj f.blocks k.1 i).length<=12*k.1) (fun k=>n - k.1) (0,a7 [(1,.cells (replicate n .z) 43)],2)
  (av ⟨rfl,rfl,rfl,congrArg (fun k:Nat=>I k) hn,rfl,trivial⟩) ⟨Nat.zero_le _,⟨fun _=>0,abz (show 1<2 by decide) rfl⟩,fun _=>a8 _⟩ ?_) ?_)
 .rintro⟨k,m,nx⟩ ⟨hk,⟨ρ,C⟩,hlen⟩;dsimp only at hk C hlen ⊢;have ap:=C.row;have dq:=C.zt;refine SS ?_;refine aa ⟨_,rfl,fun h=>?_,fun h=>?_⟩
  .have af:k<n:=by simpa using h
   have hx:f.blocks[k]? =some f.blocks[k]:=aU oG;have X:f.blocks[k]∈f.blocks:=gf _;generalize f.blocks[k]=x at hx X
   have gT:dj f.blocks (k+1)=(nextR x.fin).foldl (jB k) (dj f.blocks k):=by
    rw[dj,List.range_succ,List.foldl_append];show pI f.blocks _ k=_;rw[pI,hx];rfl
   generalize dj f.blocks k=L0 at C hlen ap gT;refine ws ?_;refine cr ?_;have uw:=uw (x:=x.fin);have uA:=SI (x:=x.fin) (hw x X)
   change aA _ _ _ (aP (nextR x.fin)) at uA
   have gh:=ht x X;have ma:=I9 x.fin;have hwh:=hw x X;generalize nextR x.fin=l at uA gh ma gT;refine aa (aw ?_);refine SS ?_;refine au (eL (vs:=bw _) rfl (ah _ _ _) V.h V.h rfl) ak (eM V.h V.h (by first|(simp;done)|omega|exact bC rfl)) ?_;refine cl uw ?_;refine cl uA ?_;refine ab ?_
   refine aa (cy (α:=Nat×Mem×Nat)
    (fun j=>⟨ay [(1,.pt (aW p q f)),(3,.rs 1 0 n),(4,I k),(15,cF f.blocks),(16,I n),(17,I k),(25,aP l),(26,I l.length),(27,I j.1)],j.2.1,j.2.2⟩)
    (fun j=>j.1<=l.length/\(∃ ρ,jN j.2.1 j.2.2 1 n 43 3 ρ (fun i=>((l.take j.1).foldl (jB k) L0 i).map I))/\∀ i,((l.take j.1).foldl (jB k) L0 i).length<=12*k+j.1) (fun j=>l.length - j.1) (0,up m nx (some (.cells (bH x) 59)),nx+1)
    (tv eH (uh _ _ _ _)) ⟨Nat.zero_le _,⟨ρ,C.ext (fun q hq=>ag oG rfl) oM⟩,hlen⟩ ?_)
   clear C ap hlen;rintro⟨j,m,nx⟩ ⟨hj,⟨ρ,C⟩,hlen⟩;dsimp only at hj C hlen ⊢;have ap:=C.row;have dq:=C.zt;have U:∀ t,l[j]? =some t->(l.take (j+1)).foldl (jB k) L0=jB k ((l.take j).foldl (jB k) L0) t:=fun t ht=>B2 ht;have Dq:j=l.length->(l.take j).foldl (jB k) L0=dj f.blocks (k+1):=fun e=>by rw[gT,df oG]
   generalize (l.take j).foldl (jB k) L0=L at C hlen ap U Dq;refine SS ?_;refine aa ⟨_,rfl,fun h=>?_,fun h=>?_⟩
   .have US:j<l.length:=by simpa using h
    have VW:l[j]? =some l[j]:=aU US;have Ew:=gh _ (gf US);generalize l[j]=t at VW Ew;obtain⟨i,rfl⟩:=kL Ew.1;have J:i<n:=by omega
    have hL:=hlen i;have U:(l.take (j+1)).foldl (jB k) L0=up L i (L i++[(k:Int)]):=U _ VW
    have Dg:∀ i,((l.take (j+1)).foldl (jB k) L0 i).length<=12*k+(j+1):=fun a=>by
     rw[U];exact Po (t:=(i:Int)) hlen a
    have VX:(fun a=>((l.take (j+1)).foldl (jB k) L0 a).map I)=up (fun a=>(L a).map I) i ((L i++[(k:Int)]).map I):=by rw[U];exact adM
    obtain⟨cs,kd⟩:=QO (ρ:=ρ) (L:=fun i=>(L i).map I) J;refine ws ?_;refine ax ?_;refine aa (fC ?_);by_cases hz:L i=[]
    .have zv:jc (ρ i) ((L i).map I)=.z:=by rw[hz];rfl
     rw[zv] at kd;refine bt ?_;refine au (mr rfl rfl (ag oG (ag oG ap)) V.h V.h) ak ⟨V.h,oG⟩ ?_;refine bM (eg (d:=.rs _ _ _) (cs':=_) rfl rfl (ag oG (ag oG ap)) rfl rfl) ak (bU V.h V.h (by first|(simp;done)|exact⟨rfl,bC rfl⟩|(simp;omega)) rfl) ?_;refine aa ?_;refine ab ?_;refine aa (bg (j+1,up (up (up m nx (some (.cells [I k] 3))) (nx+1) (some (.cells [I k] 3))) 1 (some (.cells ((nI ρ (fun i=>(L i).map I) n).set i (.rs (nx+1) 0 1)) 43)),nx+2) (av eH) ⟨oM,⟨up ρ i (nx+1),?_⟩,Dg⟩ oM);dsimp only;rw[VX];refine C.HX J oS oG oG ?_ ?_ (fun q hq uU _=>?_)
     .rw[hz];exact ah _ _ _
     .rw[hz];exact ag oG (ah _ _ _)
     .exact ag oG (ag oG (ag oG rfl))
    .have M:(L i).map I≠[]:=by simpa using hz
     have zv:jc (ρ i) ((L i).map I)=.rs (ρ i) 0 (L i).length:=by rw[Dj M,List.length_map]
     rw[zv] at kd;have gn:=C.A6 i J M;have hρn:=C.lt i J M;have hρ1:=C.ne i J M;refine bt ?_;refine au (mr rfl rfl (ag oG (ag oG (ag oG ap))) V.h V.h) ak ⟨V.h,oG⟩ ?_;refine bM (eg (d:=.rs _ _ _) (cs':=_) rfl rfl (ag oG (ag oG (ag oG ap))) rfl rfl) ak (bU V.h V.h (by first|(simp;done)|exact⟨rfl,bC rfl⟩|(simp;omega)) rfl) ?_;refine aa ?_;refine ab ?_;refine aa (bg (j+1,up (up (up (up m nx (some (.cells [I k] 3))) (ρ i) none) (nx+1) (some (.cells ((L i).map I++[I k]) 3))) 1 (some (.cells ((nI ρ (fun i=>(L i).map I) n).set i (.rs (nx+1) 0 ((L i).length+1))) 43)),nx+2) (av eH) ⟨oM,⟨up ρ i (nx+1),?_⟩,Dg⟩ oM);dsimp only;rw[VX];refine C.HX J oS oG oG ?_ ?_ (fun q hq uU zc=>?_)
     .rw[List.length_map,List.length_append];exact ah _ _ _
     .rw[List.map_append];exact ag oG (ah _ _ _)
     .have:=zc M;exact ag oG (ag oG (ag oG (ag oG rfl)))
   .have bl:¬ j<l.length:=by simpa using h
    have vl:=Dq oG;subst vl;show aq _ _ _ _ _ _ _ _ _;refine ab ?_;refine aa (bg (k+1,m,nx) (av eH) ⟨oM,⟨ρ,C⟩,fun i=>by have:=hlen i;dsimp only at this ⊢;omega⟩ oM)
  .have bl:¬ k<n:=by simpa using h
   have:k=n:=by omega
   subst this;exact⟨m,nx,ρ,av eH,C⟩
 .rintro s ⟨m,nx,ρ,hg,C⟩;have wQ:¬ ∃ i,i<n/\(dj f.blocks n i).map I≠[]/\ρ i=1:=fun⟨i,h1,h2,h3⟩=>C.ne i h1 h2 h3;refine⟨_,hg.trans (PQ (l:=[(3,.rs 1 0 n)]) (ml:=[]) (fun r=>∃ i,i<n/\(dj f.blocks n i).map I≠[]/\ρ i=r) C (fun _=>.map) c3 (fun i h1 h2=>⟨i,h1,h2,rfl⟩) wQ ⟨rfl,trivial⟩ (fun x hx=>?_) trivial (fun x hx=>by cases hx)),aw ?_⟩
  .simp at hx;subst hx;exact .rs wQ
  refine ab ?_;refine aa (bG (dB [(1,_,43)] eH (l:=[(2,cg (kZ f.blocks))]) ⟨?_,trivial⟩) (aF rfl rfl));show sub (cE 1 _ (prog.cellsOf 43)) (D.rs 1 0 n)=_;rw[iJ (by rw[s6];simp),QP,kZ,hn]
end Go.Proofs.Tryz.K
end
