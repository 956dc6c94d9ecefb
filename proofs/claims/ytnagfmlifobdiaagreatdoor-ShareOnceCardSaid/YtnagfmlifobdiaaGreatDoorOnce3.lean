/- Part 3. -/
import Derived.Test.YtnagfmlifobdiaaGreatDoorOnce2
import Derived.Below
import Derived.Carry
import Derived.ChangeOld
import Derived.MakeChecks
import Derived.OpenShut
set_option linter.all false
set_option maxHeartbeats 4000000
set_option maxRecDepth 10000
open List(range)
open List(replicate)
namespace Go.Proofs.Tryz.K
open Go.Abs
theorem kR{α:Sort _}{a b:α}(h:a=b:=by kernel_rfl):a=b:=h
instance:V (prog.cellsOf 1) 1:=⟨c1⟩
instance:V (bq prog 1) false:=⟨a1⟩
instance:V (aI prog 1) true:=⟨t1⟩
instance:V (prog.bytesOf 1) 8:=⟨b1⟩
instance:V (prog.cellsOf 2) 1:=⟨c2⟩
instance:V (prog.bytesOf 2) 8:=⟨b2⟩
instance:V (bq prog 2) false:=⟨a2⟩
instance:V (aI prog 2) true:=⟨t2⟩
instance:V (a8 prog 2) [.s (.int .i64 0)]:=⟨z2⟩
instance:V (prog.cellsOf 3) 1:=⟨c3⟩
instance:V (prog.bytesOf 3) 8:=⟨b3⟩
instance:V (bq prog 3) false:=⟨a3⟩
instance:V (aI prog 3) true:=⟨t3⟩
instance:V (a8 prog 3) [.s (.int .i64 0)]:=⟨z3⟩
instance:V (prog.cellsOf 4) 1:=⟨c4⟩
instance:V (prog.bytesOf 4) 1:=⟨b4⟩
instance:V (bq prog 4) false:=⟨a4⟩
instance:V (aI prog 4) true:=⟨t4⟩
instance:V (a8 prog 4) [.s (.bool false)]:=⟨z4⟩
instance:V (tV prog 4) true:=⟨kR⟩
instance:V (prog.cellsOf 5) 1:=⟨c5⟩
instance:V (prog.bytesOf 5) 1:=⟨b5⟩
instance:V (bq prog 5) false:=⟨a5⟩
instance:V (aI prog 5) true:=⟨t5⟩
instance:V (a8 prog 5) [.s (.int .u8 0)]:=⟨z5⟩
instance:V (prog.bytesOf 6) 1:=⟨b6⟩
instance:V (prog.bytesOf 7) 24:=⟨b7⟩
instance:V (prog.bytesOf 8) 24:=⟨b8⟩
instance:V (prog.cellsOf 9) 1:=⟨c9⟩
instance:V (prog.bytesOf 9) 16:=⟨b9⟩
instance:V (bq prog 9) false:=⟨a9⟩
instance:V (aI prog 9) true:=⟨t9⟩
instance:V (a8 prog 9) [.s (.string "".toUTF8)]:=⟨z9⟩
instance:V (fW prog 9) true:=⟨kR⟩
instance:V (prog.bytesOf 10) 16:=⟨mg⟩
instance:V (aF prog 15) 321:=⟨Pm⟩
instance:V (aF prog 16) 324:=⟨Pn⟩
instance:V (aF prog 17) 331:=⟨Pf⟩
instance:V (prog.cellsOf 22) 1:=⟨kR⟩
instance:V (bq prog 22) false:=⟨kR⟩
instance:V (aI prog 22) true:=⟨kR⟩
instance:V (aF prog 22) 48:=⟨Jr⟩
instance:V (bi prog 22) true:=⟨IJ⟩
instance:V (prog.cellsOf 23) 1:=⟨kR⟩
instance:V (bq prog 23) false:=⟨kR⟩
instance:V (aI prog 23) true:=⟨kR⟩
instance:V (aF prog 23) 43:=⟨Xi⟩
instance:V (bi prog 23) true:=⟨VP⟩
instance:V (prog.cellsOf 27) 1:=⟨CN⟩
instance:V (bq prog 27) false:=⟨Jk⟩
instance:V (aI prog 27) true:=⟨t27⟩
instance:V (a8 prog 27) [.s (.int .i64 0)]:=⟨kR⟩
instance:V (bq prog 31) false:=⟨a31⟩
instance:V (aI prog 31) true:=⟨t31⟩
instance:V (a8 prog 31) [.s .nilFunc]:=⟨z31⟩
instance:V (prog.cellsOf 34) 1:=⟨kR⟩
instance:V (bq prog 34) false:=⟨kR⟩
instance:V (aI prog 34) true:=⟨kR⟩
instance:V (aF prog 34) 9:=⟨sM⟩
instance:V (bi prog 34) true:=⟨lZ⟩
instance:V (bq prog 37) false:=⟨a37⟩
instance:V (aI prog 37) true:=⟨t37⟩
instance:V (a8 prog 37) [.s .nilFunc]:=⟨z37⟩
instance:V (prog.cellsOf 43) 1:=⟨ui⟩
instance:V (prog.bytesOf 43) 24:=⟨Fq⟩
instance:V (bq prog 43) false:=⟨Jj⟩
instance:V (aI prog 43) true:=⟨t43⟩
instance:V (a8 prog 43) [.z]:=⟨kR⟩
instance:V (aF prog 43) 3:=⟨Ai⟩
instance:V (bi prog 43) true:=⟨B3⟩
instance:V (prog.cellsOf 45) 1:=⟨kR⟩
instance:V (bq prog 45) false:=⟨kR⟩
instance:V (aI prog 45) true:=⟨kR⟩
instance:V (aF prog 45) 5:=⟨I9⟩
instance:V (bi prog 45) true:=⟨B5⟩
instance:V (prog.cellsOf 46) 1:=⟨kR⟩
instance:V (bq prog 46) false:=⟨a46⟩
instance:V (aI prog 46) true:=⟨t46⟩
instance:V (a8 prog 46) [.z]:=⟨z46⟩
instance:V (aF prog 46) 59:=⟨OE⟩
instance:V (bi prog 46) true:=⟨Nj⟩
instance:V (prog.cellsOf 48) 8:=⟨pA⟩
instance:V (prog.bytesOf 48) 136:=⟨OQ⟩
instance:V (bq prog 48) true:=⟨Aj⟩
instance:V (aI prog 48) true:=⟨t48⟩
instance:V (a8 prog 48) [.s (.string "".toUTF8),.s (.bool false),.s (.int .i64 0),.s (.int .u8 0),.z,.z,.z,.z]:=⟨kR⟩
instance:V (cr prog 48 0) (some (0,9)):=⟨kR⟩
instance:V (cr prog 48 1) (some (1,4)):=⟨kR⟩
instance:V (cr prog 48 2) (some (2,3)):=⟨kR⟩
instance:V (cr prog 48 3) (some (3,5)):=⟨kR⟩
instance:V (cr prog 48 4) (some (4,45)):=⟨kR⟩
instance:V (cr prog 48 5) (some (5,45)):=⟨kR⟩
instance:V (cr prog 48 6) (some (6,34)):=⟨kR⟩
instance:V (cr prog 48 7) (some (7,46)):=⟨kR⟩
instance:V (bq prog 51) false:=⟨a51⟩
instance:V (aI prog 51) true:=⟨t51⟩
instance:V (a8 prog 51) [.s .nilFunc]:=⟨z51⟩
instance:V (prog.cellsOf 52) 1:=⟨kR⟩
instance:V (bq prog 52) false:=⟨kR⟩
instance:V (aI prog 52) true:=⟨kR⟩
instance:V (aF prog 52) 54:=⟨Xe⟩
instance:V (bi prog 52) true:=⟨VO⟩
instance:V (bq prog 53) true:=⟨a53⟩
instance:V (aI prog 53) true:=⟨t53⟩
instance:V (a8 prog 53) [.s (.int .u8 0),.s (.int .i64 0),.s (.int .i64 0),.s (.int .i64 0),.s (.int .i64 0),.z]:=⟨z53⟩
instance:V (prog.cellsOf 54) 6:=⟨OC⟩
instance:V (prog.bytesOf 54) 64:=⟨OA⟩
instance:V (bq prog 54) true:=⟨kR⟩
instance:V (aI prog 54) true:=⟨kR⟩
instance:V (a8 prog 54) [.s (.int .u8 0),.s (.int .i64 0),.s (.int .i64 0),.s (.int .i64 0),.s (.int .i64 0),.z]:=⟨kR⟩
instance:V (cr prog 54 0) (some (0,5)):=⟨kR⟩
instance:V (cr prog 54 1) (some (1,3)):=⟨kR⟩
instance:V (cr prog 54 2) (some (2,3)):=⟨kR⟩
instance:V (cr prog 54 3) (some (3,3)):=⟨kR⟩
instance:V (cr prog 54 4) (some (4,3)):=⟨kR⟩
instance:V (cr prog 54 5) (some (5,43)):=⟨kR⟩
instance:V (prog.cellsOf 55) 1:=⟨kR⟩
instance:V (bq prog 55) false:=⟨kR⟩
instance:V (aI prog 55) true:=⟨kR⟩
instance:V (aF prog 55) 79:=⟨Ox⟩
instance:V (bi prog 55) true:=⟨EN⟩
instance:V (prog.cellsOf 57) 15:=⟨kR⟩
instance:V (bq prog 57) true:=⟨kR⟩
instance:V (aI prog 57) true:=⟨kR⟩
instance:V (a8 prog 57) [.s (.int .u8 0),.s (.int .i64 0),.s (.int .i64 0),.s (.int .i64 0),.s (.int .i64 0),.s (.string "".toUTF8),.s (.int .u8 0),.s (.int .i64 0),.s (.int .i64 0),.s (.int .i64 0),.s (.int .i64 0),.z,.z,.z,.s (.int .i64 0)]:=⟨kR⟩
instance:V (cr prog 57 0) (some (0,5)):=⟨kR⟩
instance:V (cr prog 57 1) (some (1,3)):=⟨kR⟩
instance:V (cr prog 57 2) (some (2,3)):=⟨kR⟩
instance:V (cr prog 57 3) (some (3,3)):=⟨kR⟩
instance:V (cr prog 57 4) (some (4,3)):=⟨kR⟩
instance:V (cr prog 57 5) (some (5,9)):=⟨kR⟩
instance:V (cr prog 57 6) (some (6,54)):=⟨kR⟩
instance:V (cr prog 57 7) (some (12,43)):=⟨kR⟩
instance:V (cr prog 57 8) (some (13,55)):=⟨kR⟩
instance:V (cr prog 57 9) (some (14,3)):=⟨kR⟩
instance:V (prog.cellsOf 59) 16:=⟨Jb⟩
instance:V (prog.bytesOf 59) 200:=⟨OD⟩
instance:V (bq prog 59) true:=⟨kR⟩
instance:V (aI prog 59) true:=⟨kR⟩
instance:V (a8 prog 59) [.z,.s (.int .u8 0),.s (.int .i64 0),.s (.int .i64 0),.s (.int .i64 0),.s (.int .i64 0),.s (.string "".toUTF8),.s (.int .u8 0),.s (.int .i64 0),.s (.int .i64 0),.s (.int .i64 0),.s (.int .i64 0),.z,.z,.z,.s (.int .i64 0)]:=⟨z59⟩
instance:V (cr prog 59 0) (some (0,52)):=⟨kR⟩
instance:V (cr prog 59 1) (some (1,57)):=⟨kR⟩
instance:V (bq prog 70) true:=⟨a70⟩
instance:V (aI prog 70) true:=⟨t70⟩
instance:V (a8 prog 70) [.s (.int .u8 0),.s (.int .i64 0)]:=⟨z70⟩
instance:V (bq prog 72) true:=⟨a72⟩
instance:V (aI prog 72) true:=⟨t72⟩
instance:V (a8 prog 72) [.s (.int .u8 0),.s (.string "".toUTF8),.s (.int .u8 0),.s (.int .i64 0),.z,.s (.int .i64 0)]:=⟨z72⟩
instance:V (bq prog 75) false:=⟨a75⟩
instance:V (aI prog 75) true:=⟨t75⟩
instance:V (a8 prog 75) [.s .nilFunc]:=⟨z75⟩
instance:V (bq prog 76) false:=⟨a76⟩
instance:V (aI prog 76) true:=⟨t76⟩
instance:V (a8 prog 76) [.s .nilFunc]:=⟨z76⟩
instance:V (prog.cellsOf 79) 2:=⟨Ja⟩
instance:V (prog.bytesOf 79) 24:=⟨Xd⟩
instance:V (bq prog 79) true:=⟨kR⟩
instance:V (aI prog 79) true:=⟨kR⟩
instance:V (a8 prog 79) [.s (.string "".toUTF8),.s (.int .i64 0)]:=⟨kR⟩
instance:V (cr prog 79 0) (some (0,9)):=⟨kR⟩
instance:V (cr prog 79 1) (some (1,3)):=⟨kR⟩
instance:V (prog.cellsOf 82) 3:=⟨nI⟩
instance:V (bq prog 82) true:=⟨uh⟩
instance:V (aI prog 82) true:=⟨t82⟩
instance:V (a8 prog 82) [.z,.z,.z]:=⟨kR⟩
instance:V (cr prog 82 0) (some (0,22)):=⟨kR⟩
instance:V (cr prog 82 1) (some (1,34)):=⟨kR⟩
instance:V (cr prog 82 2) (some (2,23)):=⟨kR⟩
instance:V (prog.cellsOf 86) 4:=⟨xR⟩
instance:V (bq prog 86) true:=⟨CH⟩
instance:V (aI prog 86) true:=⟨t86⟩
instance:V (a8 prog 86) [.z,.z,.z,.z]:=⟨kR⟩
instance:V (cr prog 86 0) (some (0,82)):=⟨kR⟩
instance:V (cr prog 86 1) (some (3,43)):=⟨kR⟩
instance:V (prog.cellsOf 92) 1:=⟨kR⟩
instance:V (bq prog 92) false:=⟨kR⟩
instance:V (aI prog 92) true:=⟨kR⟩
instance:V (a8 prog 92) [.z]:=⟨kR⟩
instance:V (aF prog 92) 4:=⟨Fz⟩
instance:V (bi prog 92) true:=⟨EO⟩
instance:V (prog.cellsOf 93) 1:=⟨kR⟩
instance:V (bq prog 93) false:=⟨kR⟩
instance:V (aI prog 93) true:=⟨kR⟩
instance:V (a8 prog 93) [.s (.map none)]:=⟨kR⟩
instance:V (prog.cellsOf 105) 1:=⟨kR⟩
instance:V (bq prog 105) false:=⟨kR⟩
instance:V (aI prog 105) true:=⟨kR⟩
instance:V (a8 prog 105) [.s (.map none)]:=⟨kR⟩
instance:V (prog.cellsOf 111) 1:=⟨kR⟩
instance:V (bq prog 111) false:=⟨kR⟩
instance:V (aI prog 111) true:=⟨kR⟩
instance:V (prog.cellsOf 113) 10:=⟨Wz⟩
instance:V (bq prog 113) true:=⟨Wy⟩
instance:V (aI prog 113) true:=⟨t113⟩
instance:V (a8 prog 113) [.s (.string "".toUTF8),.s (.bool false),.s (.int .i64 0),.s (.int .u8 0),.z,.z,.z,.z,.s (.map none),.s (.map none)]:=⟨kR⟩
instance:V (cr prog 113 0) (some (0,48)):=⟨kR⟩
instance:V (cr prog 113 1) (some (8,111)):=⟨kR⟩
instance:V (cr prog 113 2) (some (9,111)):=⟨kR⟩
instance:V (prog.cellsOf 121) 2:=⟨No⟩
instance:V (bq prog 121) true:=⟨kR⟩
instance:V (aI prog 121) true:=⟨t121⟩
instance:V (a8 prog 121) [.s (.int .i64 0),.s (.int .i64 0)]:=⟨IF⟩
instance:V (cr prog 121 0) (some (0,3)):=⟨kR⟩
instance:V (cr prog 121 1) (some (1,3)):=⟨kR⟩
instance:V (bq prog 127) false:=⟨a127⟩
instance:V (aI prog 127) true:=⟨t127⟩
instance:V (a8 prog 127) [.s .nilFunc]:=⟨z127⟩
instance:V (bq prog 164) false:=⟨a164⟩
instance:V (aI prog 164) true:=⟨t164⟩
instance:V (a8 prog 164) [.s .nilFunc]:=⟨z164⟩
instance:V (bq prog 171) false:=⟨a171⟩
instance:V (aI prog 171) true:=⟨t171⟩
instance:V (a8 prog 171) [.s .nilFunc]:=⟨z171⟩
instance:V (bq prog 173) true:=⟨a173⟩
instance:V (aI prog 173) true:=⟨t173⟩
instance:V (a8 prog 173) [.s (.int .i64 0),.s (.int .i64 0),.z]:=⟨z173⟩
instance:V (prog.cellsOf 174) 3:=⟨vF⟩
instance:V (prog.bytesOf 174) 40:=⟨V0⟩
instance:V (bq prog 174) true:=⟨VV⟩
instance:V (aI prog 174) true:=⟨t174⟩
instance:V (a8 prog 174) [.s (.int .i64 0),.s (.int .i64 0),.z]:=⟨IE⟩
instance:V (cr prog 174 0) (some (0,121)):=⟨kR⟩
instance:V (cr prog 174 1) (some (2,43)):=⟨kR⟩
instance:V (aF prog 175) 174:=⟨Cb⟩
instance:V (bi prog 175) true:=⟨BM⟩
instance:V (prog.cellsOf 183) 2:=⟨kR⟩
instance:V (aI prog 183) true:=⟨kR⟩
instance:V (a8 prog 183) [.s (.pointer none),.z]:=⟨kR⟩
instance:V (cr prog 183 1) (some (1,45)):=⟨kR⟩
instance:V (aF prog 196) 201:=⟨kR⟩
instance:V (bi prog 196) true:=⟨kR⟩
instance:V (prog.cellsOf 199) 1:=⟨kR⟩
instance:V (bq prog 199) false:=⟨kR⟩
instance:V (aI prog 199) true:=⟨kR⟩
instance:V (prog.cellsOf 201) 20:=⟨sq⟩
instance:V (prog.bytesOf 201) 160:=⟨Ws⟩
instance:V (bq prog 201) true:=⟨a201⟩
instance:V (aI prog 201) true:=⟨t201⟩
instance:V (a8 prog 201) [.s (.int .u64 0),.s (.int .u64 0),.s (.int .u64 0),.s (.int .u64 0),.s (.int .u64 0),.s (.int .u64 0),.s (.int .u64 0),.s (.int .u64 0),.s (.int .u64 0),.s (.int .u64 0),.s (.int .u64 0),.s (.int .u64 0),.s (.int .u64 0),.s (.int .u64 0),.s (.int .u64 0),.s (.int .u64 0),.s (.int .u64 0),.s (.int .u64 0),.s (.int .u64 0),.s (.int .u64 0)]:=⟨z201⟩
instance:V (aF prog 201) 199:=⟨kR⟩
instance:V (oI prog 201) true:=⟨kR⟩
instance:V (pi prog 201) 20:=⟨kR⟩
instance:V (bq prog 212) true:=⟨a212⟩
instance:V (aI prog 212) true:=⟨t212⟩
instance:V (a8 prog 212) [.s (.pointer none),.z]:=⟨z212⟩
instance:V (prog.cellsOf 213) 2:=⟨kR⟩
instance:V (bq prog 213) true:=⟨a213⟩
instance:V (aI prog 213) true:=⟨t213⟩
instance:V (a8 prog 213) [.s (.pointer none),.z]:=⟨z213⟩
instance:V (cr prog 213 0) (some (0,183)):=⟨kR⟩
instance:V (bq prog 232) false:=⟨a232⟩
instance:V (aI prog 232) true:=⟨t232⟩
instance:V (a8 prog 232) [.s .nilFunc]:=⟨z232⟩
instance:V (bq prog 233) false:=⟨a233⟩
instance:V (aI prog 233) true:=⟨t233⟩
instance:V (a8 prog 233) [.s .nilFunc]:=⟨z233⟩
instance:V (prog.cellsOf 237) 6:=⟨kR⟩
instance:V (bq prog 237) true:=⟨NF⟩
instance:V (aI prog 237) true:=⟨kR⟩
instance:V (a8 prog 237) [.s (.int .i64 0),.s (.int .i64 0),.s (.int .i64 0),.s (.int .i64 0),.s (.int .i64 0),.s (.int .i64 0)]:=⟨NG⟩
instance:V (cr prog 237 0) (some (0,3)):=⟨kR⟩
instance:V (cr prog 237 1) (some (1,3)):=⟨kR⟩
instance:V (cr prog 237 2) (some (2,3)):=⟨kR⟩
instance:V (cr prog 237 3) (some (3,3)):=⟨kR⟩
instance:V (cr prog 237 4) (some (4,3)):=⟨kR⟩
instance:V (cr prog 237 5) (some (5,3)):=⟨kR⟩
instance:V (prog.underlying 2) (some (.int .i64)):=⟨u2⟩
instance:V (prog.underlying 3) (some (.int .i64)):=⟨u3⟩
instance:V (prog.underlying 5) (some (.int .u8)):=⟨u5⟩
instance:V (prog.underlying 8) (some (.struct (dY prog 8))):=⟨u8⟩
instance:V (prog.underlying 21) (some (.int .i32)):=⟨kR⟩
instance:V (prog.underlying 45) (some (.slice 5)):=⟨kR⟩
instance:V (prog.underlying 48) (some (.struct (dY prog 48))):=⟨kR⟩
instance:V (((dY prog 48).toList.map fun f=>(f.offset,prog.cellsOf f.type))) [(0,1),(1,1),(2,1),(3,1),(4,1),(5,1),(6,1),(7,1)]:=⟨kR⟩
instance:V (((dY prog 48).toList.all fun f=>(prog.info? f.type).isSome)) true:=⟨kR⟩
instance:V (prog.underlying 54) (some (.struct (dY prog 54))):=⟨kR⟩
instance:V (((dY prog 54).toList.map fun f=>(f.offset,prog.cellsOf f.type))) [(0,1),(1,1),(2,1),(3,1),(4,1),(5,1)]:=⟨kR⟩
instance:V (((dY prog 54).toList.all fun f=>(prog.info? f.type).isSome)) true:=⟨kR⟩
instance:V (prog.underlying 69) (some (.int .u64)):=⟨kR⟩
instance:V (prog.underlying 70) (some (.struct (dY prog 70))):=⟨WZ⟩
instance:V (prog.underlying 72) (some (.struct (dY prog 72))):=⟨WY⟩
instance:V (prog.underlying 82) (some (.struct (dY prog 82))):=⟨kR⟩
instance:V (((dY prog 82).toList.map fun f=>(f.offset,prog.cellsOf f.type))) [(0,1),(1,1),(2,1)]:=⟨kR⟩
instance:V (((dY prog 82).toList.all fun f=>(prog.info? f.type).isSome)) true:=⟨kR⟩
instance:V (prog.underlying 86) (some (.struct (dY prog 86))):=⟨kR⟩
instance:V (((dY prog 86).toList.map fun f=>(f.offset,prog.cellsOf f.type))) [(0,3),(3,1)]:=⟨kR⟩
instance:V (((dY prog 86).toList.all fun f=>(prog.info? f.type).isSome)) true:=⟨kR⟩
instance:V (eL prog 93) 3:=⟨B'⟩
instance:V (fT prog 93) true:=⟨Ca⟩
instance:V (eL prog 105) 9:=⟨Mz⟩
instance:V (fT prog 105) true:=⟨MA⟩
instance:V (eL prog 111) 5:=⟨kR⟩
instance:V (fT prog 111) true:=⟨kR⟩
instance:V (lW prog 111) 237:=⟨MH⟩
instance:V (prog.underlying 113) (some (.struct (dY prog 113))):=⟨kR⟩
instance:V (((dY prog 113).toList.map fun f=>(f.offset,prog.cellsOf f.type))) [(0,8),(8,1),(9,1)]:=⟨kR⟩
instance:V (((dY prog 113).toList.all fun f=>(prog.info? f.type).isSome)) true:=⟨kR⟩
instance:V (prog.underlying 121) (some (.struct (dY prog 121))):=⟨VY⟩
instance:V (((dY prog 121).toList.map fun f=>(f.offset,prog.cellsOf f.type))) [(0,1),(1,1)]:=⟨U5⟩
instance:V (((dY prog 121).toList.all fun f=>(prog.info? f.type).isSome)) true:=⟨U6⟩
instance:V (eL prog 144) 9:=⟨Es⟩
instance:V (fT prog 144) true:=⟨Et⟩
instance:V (eL prog 172) 121:=⟨Mv⟩
instance:V (fT prog 172) true:=⟨Mw⟩
instance:V (prog.underlying 174) (some (.struct (dY prog 174))):=⟨VZ⟩
instance:V (((dY prog 174).toList.map fun f=>(f.offset,prog.cellsOf f.type))) [(0,2),(2,1)]:=⟨U7⟩
instance:V (((dY prog 174).toList.all fun f=>(prog.info? f.type).isSome)) true:=⟨U9⟩
instance:V (eL prog 194) 3:=⟨MD⟩
instance:V (fT prog 194) true:=⟨ME⟩
instance:V (prog.underlying 213) (some (.struct (dY prog 213))):=⟨kR⟩
instance:V (((dY prog 213).toList.map fun f=>(f.offset,prog.cellsOf f.type))) [(0,2)]:=⟨kR⟩
instance:V (((dY prog 213).toList.all fun f=>(prog.info? f.type).isSome)) true:=⟨kR⟩
instance:V (prog.underlying 237) (some (.struct (dY prog 237))):=⟨kR⟩
instance:V (((dY prog 237).toList.map fun f=>(f.offset,prog.cellsOf f.type))) [(0,1),(1,1),(2,1),(3,1),(4,1),(5,1)]:=⟨kR⟩
instance:V (((dY prog 237).toList.all fun f=>(prog.info? f.type).isSome)) true:=⟨kR⟩
end Go.Proofs.Tryz.K
namespace Go.Abs
open Go.Argus
section
variable{P:Program}{Y:ej}{ops:Array Oper}{dr:Bool}{cf:List (Nat×Nat)}{Q:Exit->St->Prop}{r:List Oper}{v:Env}{m:Mem}{n:Nat}{q:kf}{x:Oper}{s:St}{e:List Nat×List Nat}
theorem mf{p:Prop}(h:p:=by first|rfl|exact bJ rfl|(simp;done)|(simp;omega)|omega):p:=h
theorem I3{p:Prop}(h:p:=by first|omega|exact bJ rfl|(simp;done)|(simp;omega)):p:=h
theorem nF{p:Prop}(h:p:=by first|(simp;done)|exact⟨rfl,bJ rfl⟩|(simp;omega)):p:=h
theorem Og{p:Prop}(h:p:=by first|rfl|exact oz _|(simp[oz];done)|exact acy):p:=h
theorem Fj{p:Prop}(h:p:=by first|(simp;done)|omega|exact bJ rfl):p:=h
theorem I4{p:Prop}(h:p:=by unfold maxLen;first|omega|(simp;omega)):p:=h
theorem Oh{p:Prop}(h:p:=by first|rfl|(simp;done)|(simp;omega)):p:=h
theorem Oi{p:Prop}(h:p:=by first|(simp;done)|(simp;omega)):p:=h
theorem rm{p:Prop}(h:p:=by first|(simp;done)|fail):p:=h
theorem CA{p:Prop}(h:p:=by first|decide|simp):p:=h
def oT(x:Oper):Nat:=2*(match x.op with
 | .move ..=>1
 | .assign ..=>2
 | .pick ..=>3
 | .alloc ..=>4
 | .box ..=>5
 | .build ..=>6
 | .buildSlice ..=>7
 | .insert ..=>8
 | .load ..=>9
 | .store ..=>10
 | .nilCheck ..=>11
 | .unOp ..=>12
 | .convert ..=>13
 | .makeFunc ..=>14
 | .makeMap ..=>15
 | .makeSlice ..=>16
 | .slice ..=>17
 | .fieldAddr ..=>18
 | .field ..=>19
 | .indexAddr ..=>20
 | .index ..=>21
 | .lookup ..=>22
 | .mapUpdate ..=>23
 | .extract ..=>24
 | .call ..=>25
 | .binOp .add ..=>26
 | .binOp .sub ..=>27
 | .binOp .mul ..=>28
 | .binOp .quo ..=>29
 | .binOp .rem ..=>30
 | .binOp .and ..=>31
 | .binOp .or ..=>32
 | .binOp .xor ..=>33
 | .binOp .shl ..=>34
 | .binOp .shr ..=>35
 | .binOp .andNot ..=>36
 | .binOp .eql ..=>37
 | .binOp .neq ..=>38
 | .binOp .lss ..=>39
 | .binOp .leq ..=>40
 | .binOp .gtr ..=>41
 | .binOp .geq ..=>42
 |_=>0)+(match x.guard with
 |none=>0
 |_=>1)
theorem SS2(ht:oT x=2:=by exact rfl)(h:SO P Y ops dr x v m n s e:=by intro _ _ _ _ k;first|exact av (cY (v:=.s (.int _ _)) rfl) ak trivial k|exact av (cY (v:=.s (.bool _)) rfl) ak trivial k|exact av (cY (v:=.sl _ _) rfl) ak trivial k|exact av (cY (v:=.rs _ _ _) rfl) ak trivial k|exact av (cY (v:=.fn _ _ _) rfl) ak trivial k|exact av (cY (v:=.s (.string _)) rfl) ak trivial k|exact av (cY (v:=.rp _ _) rfl) ak trivial k|exact av (cY (v:=_) rfl) ak trivial k|exact av (cY (v:=.mp _) rfl) ak trivial k|exact av (cY (v:=.im _) rfl) ak trivial k|fail):SO P Y ops dr x v m n s e:=h
theorem SS4(ht:oT x=4:=by exact rfl)(h:SO P Y ops dr x v m n s e:=by intro _ _ _ _ k;first|exact av (jS (v:=.s (.bool _)) rfl) ak trivial k|exact av (jS (v:=.s (.int _ _)) rfl) ak trivial k|exact av (jS (v:=.sl _ _) rfl) ak trivial k|exact av (jS (v:=.rs _ _ _) rfl) ak trivial k|exact av (jS (v:=.z) rfl) ak trivial k|exact av (jS (v:=.s (.string _)) rfl) ak trivial k|exact av (jS (v:=.mp _) rfl) ak trivial k|exact av (jS (v:=_) rfl) ak trivial k|fail):SO P Y ops dr x v m n s e:=h
theorem ai'(ht:oT x=18:=by exact rfl)(h:SO P Y ops dr x v m n s e:=by intro _ _ _ _ k;first|exact av (lI (vs:=aR _) rfl V.h V.h rfl) ak (lJ V.h V.h rm) k|exact av (lI (vs:=a7 _ _ _) rfl V.h V.h rfl) ak (lJ V.h V.h rm) k|exact av (lI (vs:=bU _) rfl V.h V.h rfl) ak (lJ V.h V.h rm) k|exact av (lI (vs:=cg _) rfl V.h V.h rfl) ak (lJ V.h V.h rm) k|exact av (lI rfl V.h V.h rfl) ak (lJ V.h V.h rm) k|exact av (lI (vs:=bC _) rfl V.h V.h rfl) ak (lJ V.h V.h rm) k|exact av (fz rfl rfl V.h V.h (nY mf)) ak (fA V.h V.h mf) k|exact av (lI (vs:=gF _) rfl V.h V.h rfl) ak (lJ V.h V.h rm) k|exact av (fz (vs:=cg _) rfl (aj _ _ _) V.h V.h rfl) ak (fA V.h V.h Fj) k|exact av (fz (vs:=bC _) rfl rfl V.h V.h rfl) ak (fA V.h V.h Fj) k|exact av (fz rfl (ah oG rfl) V.h V.h (nY mf)) ak (fA V.h V.h mf) k|exact av (fz (vs:=aR _) rfl ap V.h V.h rfl) ak (fA V.h V.h Fj) k|exact av (fz rfl rfl V.h V.h rfl) ak (fA V.h V.h Fj) k|exact av (TQ rfl V.h) ak (TS V.h V.h) k|exact av (kM rfl rfl kd V.h) ak (kN V.h V.h kd) k|exact av (kM rfl ap kd V.h) ak (kN V.h V.h kd) k|exact av (kM rfl (aj _ _ _) kd V.h) ak (kN V.h V.h kd) k|exact av (kM rfl rfl rfl V.h) ak (kN V.h V.h rfl) k|exact av (kM rfl ap rfl V.h) ak (kN V.h V.h rfl) k|fail):SO P Y ops dr x v m n s e:=h
theorem aja(ht:oT x=36:=by exact rfl)(h:SO P Y ops dr x v m n s e:=by intro _ _ _ _ k;first|exact av (SM rfl V.h) ak (qG V.h) k|exact av (sV rfl rfl V.h) ak (qG V.h) k|exact av (sV rfl ap V.h) ak (qG V.h) k|exact av (sV rfl (aj _ _ _) V.h) ak (qG V.h) k|fail):SO P Y ops dr x v m n s e:=h
theorem ajb(ht:oT x=19:=by exact rfl)(h:SO P Y ops dr x v m n s e:=by intro _ _ _ _ k;first|exact bc rfl rfl (TQ rfl V.h) (fun hc=>⟨ak,(TS V.h V.h)⟩) k|exact bc rfl rfl (lI (vs:=a7 _ _ _) rfl V.h V.h rfl) (fun hc=>⟨ak,(lJ V.h V.h rm)⟩) k|exact bc rfl rfl (kM rfl rfl rfl V.h) (fun hc=>⟨ak,(kN V.h V.h rfl)⟩) k|exact bc rfl rfl (lI (vs:=bC _) rfl V.h V.h rfl) (fun hc=>⟨ak,(lJ V.h V.h rm)⟩) k|exact bc rfl rfl (kM rfl (aj _ _ _) rfl V.h) (fun hc=>⟨ak,(kN V.h V.h rfl)⟩) k|exact bc rfl rfl (lI (vs:=cg _) rfl V.h V.h rfl) (fun hc=>⟨ak,(lJ V.h V.h rm)⟩) k|exact bc rfl rfl (fz rfl (ah oG rfl) V.h V.h (nY mf)) (fun hc=>⟨ak,(fA V.h V.h mf)⟩) k|exact bc rfl rfl (lI (vs:=aR _) rfl V.h V.h rfl) (fun hc=>⟨ak,(lJ V.h V.h rm)⟩) k|exact bc rfl rfl (lI rfl V.h V.h rfl) (fun hc=>⟨ak,(lJ V.h V.h rm)⟩) k|exact bc rfl rfl (fz rfl rfl V.h V.h rfl) (fun hc=>⟨ak,(fA V.h V.h Fj)⟩) k|fail):SO P Y ops dr x v m n s e:=h
theorem SS6(ht:oT x=6:=by exact rfl)(h:SO P Y ops dr x v m n s e:=by intro _ _ _ _ k;first|exact KL rfl rfl (by first|exact trivial|exact rfl) k|exact KM rfl rfl (by first|exact trivial|exact rfl) k|exact Lg rfl rfl rfl (fun h=>by first|exact trivial|exact rfl|exact h|(show Eq _ _;rw[h];rfl)|(show Eq _ _;simp[h];done)|(show Eq _ _;simp_all;done)|fail) (fun h=>by first|exact trivial|exact rfl|exact h|(show Eq _ _;rw[h];rfl)|(show Eq _ _;simp[h];done)|(show Eq _ _;simp_all;done)|fail) k|fail):SO P Y ops dr x v m n s e:=h
theorem ajc(ht:oT x=37:=by exact rfl)(h:SO P Y ops dr x v m n s e:=by intro _ _ _ _ k;first|exact bc rfl rfl (SM rfl V.h) (fun hc=>⟨ak,(qG V.h)⟩) k|exact bc rfl rfl (sV rfl rfl V.h) (fun hc=>⟨ak,(qG V.h)⟩) k|exact bc rfl rfl (sV rfl (aj _ _ _) V.h) (fun hc=>⟨ak,(qG V.h)⟩) k|fail):SO P Y ops dr x v m n s e:=h
theorem ajd(ht:oT x=20:=by exact rfl)(h:SO P Y ops dr x v m n s e:=by intro _ _ _ _ k;first|exact bQ (fM (cs':=bU _) rfl rfl (aj _ _ _) rfl) ak (cw V.h V.h nF (by rfl)) k|exact bQ (eR (d:=.s (.string _)) (cs':=_) rfl rfl rfl rfl rfl) ak (cw V.h V.h nF rfl) k|exact bQ (fM rfl rfl rfl (Li mf mf)) ak (Dx mf mf Og) k|exact bQ (fM (cs':=cg _) rfl rfl (aj _ _ _) rfl) ak (cw V.h V.h nF (by rfl)) k|exact bQ (fM rfl rfl (aj _ _ _) (Li mf mf)) ak (Dx mf mf Og) k|exact bQ (fM (cs':=bC _) rfl rfl (aj _ _ _) rfl) ak (cw V.h V.h nF (by rfl)) k|exact bQ (fM (cs':=aR _) rfl rfl rfl rfl) ak (cw V.h V.h nF (by rfl)) k|exact bQ (fM (cs':=aR _) rfl rfl (aj _ _ _) rfl) ak (cw V.h V.h nF (by rfl)) k|exact bQ (fM (cs':=gF _) rfl rfl (aj _ _ _) rfl) ak (cw V.h V.h nF (by rfl)) k|exact bQ (fM rfl rfl rfl rfl) ak (cw V.h V.h nF (by rfl)) k|exact bQ (fM rfl rfl (aj _ _ _) rfl) ak (cw V.h V.h nF (by rfl)) k|exact bQ (eR (d:=.s (.int _ _)) (cs':=[_]) rfl rfl rfl rfl rfl) ak (cw V.h V.h nF rfl) k|exact bQ (eR (d:=.s (.int _ _)) (cs':=_) rfl rfl rfl rfl rfl) ak (cw V.h V.h nF rfl) k|exact bQ (eR (d:=.s (.int _ _)) (cs':=_) rfl rfl (aj _ _ _) rfl rfl) ak (cw V.h V.h nF rfl) k|exact bQ (fM rfl rfl (ah oG rfl) (Li mf mf)) ak (Dx mf mf Og) k|exact bQ (fM rfl rfl rfl (UL (by decide) (by assumption) (by assumption) (by first|assumption|(simp;omega)|(simp;done)|fail))) ak (Dx (by first|(simp;omega)|(simp;done)|fail) (za (by assumption) (by assumption)) (oz _)) k|exact bQ (eR (d:=.sl _ _) (cs':=_) rfl rfl rfl rfl rfl) ak (cw V.h V.h nF rfl) k|exact bQ (eR (d:=.sl _ _) (cs':=_) rfl rfl ap rfl rfl) ak (cw V.h V.h nF rfl) k|exact bQ (eR (d:=.rs _ _ _) (cs':=_) rfl rfl ap rfl rfl) ak (cw V.h V.h nF rfl) k|exact bQ (eR (d:=.z) (cs':=_) rfl rfl rfl rfl rfl) ak (cw V.h V.h nF rfl) k|fail):SO P Y ops dr x v m n s e:=h
theorem aje(ht:oT x=50:=by exact rfl)(h:SO P Y ops dr x v m n s e:=by intro _ _ _ _ k;first|exact av (Ek rfl) ak V.h k|exact av (LI rfl) ak V.h k|exact av (yL rfl ap) ak V.h k|exact jI (jB rfl (ah oG ap) rfl V.h V.h (lE (aj _ _ _) rfl) rfl) ak ⟨V.h,rfl,I3,(by decide),Oh,I4,(by rw[b9];first|omega|(simp;omega)),Oi⟩ k|exact jI (jB rfl (ah oG ap) rfl V.h V.h (lE (aj _ _ _) rfl) rfl) ak ⟨V.h,rfl,I3,(by decide),Oh,I4,(by rw[b3];first|omega|(simp;omega)),Oi⟩ k|exact jI (jB rfl (ah oG iz) rfl V.h V.h (lE (aj _ _ _) rfl) rfl) ak ⟨V.h,rfl,I3,(by decide),Oh,I4,(by rw[b3];first|omega|(simp;omega)),Oi⟩ k|exact eM (Bj rfl rfl V.h V.h (lE (aj _ _ _) rfl)) ak ⟨V.h,I3,(by decide),I4,(by rw[b3];first|omega|(simp;omega))⟩ k|fail):SO P Y ops dr x v m n s e:=h
theorem ajf(ht:oT x=40:=by exact rfl)(h:SO P Y ops dr x v m n s e:=by intro _ _ _ _ k;first|exact av (Hw rfl rfl V.h V.h (by assumption)) ak (TR V.h (by assumption)) k|exact av (rX rfl rfl V.h V.h (wx) (by assumption)) ak (rY V.h (wx) (by assumption)) k|exact av (rX rfl rfl V.h V.h (sU) (by assumption)) ak (rY V.h (sU) (by assumption)) k|exact av (rX rfl rfl V.h V.h (QZ) (by assumption)) ak (rY V.h (QZ) (by assumption)) k|exact av (rX rfl rfl V.h V.h (Kc) (by assumption)) ak (rY V.h (Kc) (by assumption)) k|exact av (aee rfl rfl rfl V.h V.h V.h) ak ⟨V.h,by omega⟩ k|exact av (na rfl rfl ap V.h V.h) ak ⟨V.h,by omega⟩ k|exact av (na rfl rfl (aj _ _ _) V.h V.h) ak ⟨V.h,by omega⟩ k|exact av (DJ rfl rfl rfl V.h V.h) ak ⟨V.h,by omega⟩ k|exact av (aef rfl rfl (aj _ _ _) V.h V.h) ak ⟨V.h,by omega⟩ k|fail):SO P Y ops dr x v m n s e:=h
theorem SS3(ht:oT x=3:=by exact rfl)(h:SO P Y ops dr x v m n s e:=by intro _ _ _ _ k;first|exact bc rfl rfl (cY (v:=.s (.int _ _)) rfl) (fun hc=>⟨ak,trivial⟩) k|exact bc rfl rfl (cY (v:=.s (.bool _)) rfl) (fun hc=>⟨ak,trivial⟩) k|exact bc rfl rfl (cY (v:=.sl _ _) rfl) (fun hc=>⟨ak,trivial⟩) k|exact bc rfl rfl (cY (v:=.fn _ _ _) rfl) (fun hc=>⟨ak,trivial⟩) k|exact bc rfl rfl (cY (v:=.rs _ _ _) rfl) (fun hc=>⟨ak,trivial⟩) k|fail):SO P Y ops dr x v m n s e:=h
theorem ajg(ht:oT x=74:=by exact rfl)(h:SO P Y ops dr x v m n s e:=by intro _ _ _ _ k;first|exact av (D3 rfl rfl oA) ak rfl k|exact av (H4 rfl rfl) ak rfl k|exact av (Hr rfl rfl) ak trivial k|fail):SO P Y ops dr x v m n s e:=h
theorem ajh(ht:oT x=52:=by exact rfl)(h:SO P Y ops dr x v m n s e:=by intro _ _ _ _ k;first|exact av (H5 rfl rfl oG) ak rfl k|fail):SO P Y ops dr x v m n s e:=h
theorem aji(ht:oT x=48:=by exact rfl)(h:SO P Y ops dr x v m n s e:=by intro _ _ _ _ k;first|exact av (rE (v:=.s (.int _ _)) rfl rfl) ak CA k|exact av (rE (v:=.s (.bool _)) rfl rfl) ak CA k|exact av (rE (v:=.sl _ _) rfl rfl) ak CA k|exact av (rE (v:=.z) rfl rfl) ak CA k|exact av (rE (v:=.agg (aR _)) rfl rfl) ak CA k|exact av (rE (v:=.agg _) rfl rfl) ak CA k|fail):SO P Y ops dr x v m n s e:=h
theorem ajj(ht:oT x=78:=by exact rfl)(h:SO P Y ops dr x v m n s e:=by intro _ _ _ _ k;first|exact av (H2 rfl rfl) ak rfl k|fail):SO P Y ops dr x v m n s e:=h
theorem SS8(ht:oT x=8:=by exact rfl)(h:SO P Y ops dr x v m n s e:=by intro _ _ _ _ k;first|exact eM (GB V.h) ak V.h k|fail):SO P Y ops dr x v m n s e:=h
theorem ajk(ht:oT x=14:=by exact rfl)(h:SO P Y ops dr x v m n s e:=by intro _ _ _ _ k;first|exact eM (uw (cs:=[_]) V.h V.h V.h rfl rfl) ak ⟨rfl,by decide,V.h,by decide⟩ k|exact eM (uw (cs:=[]) V.h V.h V.h rfl rfl) ak ⟨rfl,by decide,V.h,by decide⟩ k|exact eM (uw (cs:=[_,_]) V.h V.h V.h rfl rfl) ak ⟨rfl,by decide,V.h,by decide⟩ k|exact eM (uw V.h V.h V.h rfl rfl) ak ⟨rfl,by decide,V.h,by decide⟩ k|fail):SO P Y ops dr x v m n s e:=h
theorem ajl(ht:oT x=75:=by exact rfl)(h:SO P Y ops dr x v m n s e:=by intro _ _ _ _ k;first|exact bc rfl rfl (D3 rfl rfl oA) (fun hc=>⟨ak,rfl⟩) k|exact bc rfl rfl (D3 rfl rfl Em) (fun hc=>⟨ak,rfl⟩) k|exact bc rfl rfl (H4 rfl rfl) (fun hc=>⟨ak,rfl⟩) k|fail):SO P Y ops dr x v m n s e:=h
theorem ajm(ht:oT x=10:=by exact rfl)(h:SO P Y ops dr x v m n s e:=by intro _ _ _ _ k;first|exact eM (tu (cs:=a7 _ _ _) rfl) ak (by first|rfl|exact sW eO bN|exact oz _|exact vg sJ) k|exact eM (tu (cs:=aR _) rfl) ak (by first|rfl|exact sW eO bN|exact oz _|exact vg sJ) k|exact eM (tu rfl) ak (by first|rfl|exact sW eO bN|exact oz _|exact vg sJ) k|exact eM (tu (cs:=cg _) rfl) ak (by first|rfl|exact sW eO bN|exact oz _|exact vg sJ) k|exact eM (tu (cs:=bC _) rfl) ak (by first|rfl|exact sW eO bN|exact oz _|exact vg sJ) k|fail):SO P Y ops dr x v m n s e:=h
theorem ajn(ht:oT x=76:=by exact rfl)(h:SO P Y ops dr x v m n s e:=by intro _ _ _ _ k;first|exact av (T0 rfl rfl tL) ak rfl k|exact av (Mc rfl rfl) ak rfl k|exact av (TO rfl rfl) ak trivial k|fail):SO P Y ops dr x v m n s e:=h
theorem ajo(ht:oT x=51:=by exact rfl)(h:SO P Y ops dr x v m n s e:=by intro _ _ _ _ k;first|exact bc rfl rfl (Ek rfl) (fun hc=>⟨ak,V.h⟩) k|fail):SO P Y ops dr x v m n s e:=h
theorem ajp(ht:oT x=12:=by exact rfl)(h:SO P Y ops dr x v m n s e:=by intro _ _ _ _ k;first|exact av (Gi (cs:=a7 _ _ _) V.h V.h V.h rfl rfl) ak ⟨V.h,V.h⟩ k|exact av (Gi V.h V.h V.h rfl rfl) ak ⟨V.h,V.h⟩ k|fail):SO P Y ops dr x v m n s e:=h
theorem ajq(ht:oT x=24:=by exact rfl)(h:SO P Y ops dr x v m n s e:=by intro _ _ _ _ k;first|exact av (Uw rfl) ak trivial k|fail):SO P Y ops dr x v m n s e:=h
theorem ajr(ht:oT x=25:=by exact rfl)(h:SO P Y ops dr x v m n s e:=by intro _ _ _ _ k;first|exact bc rfl rfl (Uw rfl) (fun hc=>⟨ak,trivial⟩) k|fail):SO P Y ops dr x v m n s e:=h
theorem ajs(ht:oT x=16:=by exact rfl)(h:SO P Y ops dr x v m n s e:=by intro _ _ _ _ k;first|exact bQ (acz rfl rfl rfl rfl V.h) ak ⟨V.h,by kernel_rfl,by kernel_rfl⟩ k|fail):SO P Y ops dr x v m n s e:=h
theorem ajt(ht:oT x=83:=by exact rfl)(h:SO P Y ops dr x v m n s e:=by intro _ _ _ _ k;first|exact bc rfl rfl (LS rfl rfl vy) (fun hc=>⟨ak,rfl⟩) k|exact bc rfl rfl (H3 rfl rfl) (fun hc=>⟨ak,rfl⟩) k|fail):SO P Y ops dr x v m n s e:=h
theorem aju(ht:oT x=77:=by exact rfl)(h:SO P Y ops dr x v m n s e:=by intro _ _ _ _ k;first|exact bc rfl rfl (Mc rfl rfl) (fun hc=>⟨ak,rfl⟩) k|fail):SO P Y ops dr x v m n s e:=h
theorem SS7(ht:oT x=7:=by exact rfl)(h:SO P Y ops dr x v m n s e:=by intro _ _ _ _ k;first|exact Dm rfl rfl rfl rfl (by first|exact fun _=>trivial|exact fun _=>rfl|exact fun hc=>hc) (by first|exact fun _=>trivial|exact fun _=>rfl|exact fun hc=>hc) k|exact Dw rfl rfl rfl rfl rfl (by first|exact fun _=>trivial|exact fun _=>rfl|exact fun hc=>hc) (fun hc h=>by first|exact trivial|exact rfl|exact hc|(show Eq _ _;rw[hc,h];rfl)|(show Eq _ _;rw[h,hc];rfl)|(show Eq _ _;simp[hc,h];done)|(show Eq _ _;simp_all;done)|fail) (fun hc h=>by first|exact trivial|exact rfl|exact hc|(show Eq _ _;rw[hc,h];rfl)|(show Eq _ _;rw[h,hc];rfl)|(show Eq _ _;simp[hc,h];done)|(show Eq _ _;simp_all;done)|fail) k|fail):SO P Y ops dr x v m n s e:=h
theorem ajv(ht:oT x=41:=by exact rfl)(h:SO P Y ops dr x v m n s e:=by intro _ _ _ _ k;first|exact bc rfl rfl (Hw rfl rfl V.h V.h (by assumption)) (fun hc=>⟨ak,(TR V.h (by assumption))⟩) k|fail):SO P Y ops dr x v m n s e:=h
theorem ajw(ht:oT x=82:=by exact rfl)(h:SO P Y ops dr x v m n s e:=by intro _ _ _ _ k;first|exact av (LS rfl rfl vy) ak rfl k|exact av (H3 rfl rfl) ak rfl k|fail):SO P Y ops dr x v m n s e:=h
theorem ajx(ht:oT x=54:=by exact rfl)(h:SO P Y ops dr x v m n s e:=by intro _ _ _ _ k;first|exact av (T2 rfl rfl xj) ak rfl k|exact av (Md rfl rfl oG) ak rfl k|fail):SO P Y ops dr x v m n s e:=h
theorem ajy(ht:oT x=28:=by exact rfl)(h:SO P Y ops dr x v m n s e:=by intro _ _ _ _ k;first|exact av (LJ rfl rfl) ak trivial k|fail):SO P Y ops dr x v m n s e:=h
theorem ajz(ht:oT x=81:=by exact rfl)(h:SO P Y ops dr x v m n s e:=by intro _ _ _ _ k;first|exact bc rfl rfl (HD rfl rfl zu) (fun hc=>⟨ak,rfl⟩) k|exact bc rfl rfl (Ei rfl rfl) (fun hc=>⟨ak,rfl⟩) k|fail):SO P Y ops dr x v m n s e:=h
theorem ajA(ht:oT x=84:=by exact rfl)(h:SO P Y ops dr x v m n s e:=by intro _ _ _ _ k;first|exact av (Ej rfl rfl) ak rfl k|fail):SO P Y ops dr x v m n s e:=h
theorem ajB(ht:oT x=30:=by exact rfl)(h:SO P Y ops dr x v m n s e:=by intro _ _ _ _ k;first|exact eM afT ak trivial k|fail):SO P Y ops dr x v m n s e:=h
theorem ajC(ht:oT x=26:=by exact rfl)(h:SO P Y ops dr x v m n s e:=by intro _ _ _ _ k;first|exact av (ae6 rfl V.h) ak V.h k|fail):SO P Y ops dr x v m n s e:=h
theorem ajD(ht:oT x=79:=by exact rfl)(h:SO P Y ops dr x v m n s e:=by intro _ _ _ _ k;first|exact bc rfl rfl (H2 rfl rfl) (fun hc=>⟨ak,rfl⟩) k|fail):SO P Y ops dr x v m n s e:=h
theorem ajE(ht:oT x=85:=by exact rfl)(h:SO P Y ops dr x v m n s e:=by intro _ _ _ _ k;first|exact bc rfl rfl (Ej rfl rfl) (fun hc=>⟨ak,rfl⟩) k|fail):SO P Y ops dr x v m n s e:=h
theorem ajF(ht:oT x=22:=by exact rfl)(h:SO P Y ops dr x v m n s e:=by intro _ _ _ _ k;first|exact av (Ht rfl ap) ak trivial k|fail):SO P Y ops dr x v m n s e:=h
theorem ajG(ht:oT x=80:=by exact rfl)(h:SO P Y ops dr x v m n s e:=by intro _ _ _ _ k;first|exact av (Ei rfl rfl) ak rfl k|fail):SO P Y ops dr x v m n s e:=h
theorem ajH(ht:oT x=15:=by exact rfl)(h:SO P Y ops dr x v m n s e:=by intro _ _ _ _ k;first|exact LR rfl rfl (uw (cs:=[_]) V.h V.h V.h rfl rfl) ak ⟨rfl,by decide,V.h,by decide⟩ k|fail):SO P Y ops dr x v m n s e:=h
theorem ajI(ht:oT x=55:=by exact rfl)(h:SO P Y ops dr x v m n s e:=by intro _ _ _ _ k;first|exact bc rfl rfl (T2 rfl rfl xj) (fun hc=>⟨ak,rfl⟩) k|fail):SO P Y ops dr x v m n s e:=h
theorem SS(K:aq P Y ops dr cf Q r s (q++[e]))(h:SO P Y ops dr x v m n s e:=by first|exact SS2|exact SS4|exact ai'|exact aja|exact ajb|exact SS6|exact ajc|exact ajd|exact aje|exact ajf|exact SS3|exact ajg|exact ajh|exact aji|exact ajj|exact SS8|exact ajk|exact ajl|exact ajm|exact ajn|exact ajo|exact ajp|exact ajq|exact ajr|exact ajs|exact ajt|exact aju|exact SS7|exact ajv|exact ajw|exact ajx|exact ajy|exact ajz|exact ajA|exact ajB|exact ajC|exact ajD|exact ajE|exact ajF|exact ajG|exact ajH|exact ajI):aq P Y ops dr cf Q (x::r) ⟨v,m,n⟩ q:=h _ _ _ _ K
variable{x2 x3 x4 x5 x6 x7 x8 x9:Oper}{e2 e3 e4 e5 e6 e7 e8 e9:List Nat×List Nat}
theorem ab(K:aq P Y ops dr cf Q r s (q++[e]++[e2]))(h:∀ cf Q r q,aq P Y ops dr cf Q r s (q++[e]++[e2])->aq P Y ops dr cf Q (x::x2::r) ⟨v,m,n⟩ q:=by intro _ _ _ _ k;(iterate 2 refine SS ?_);exact k):aq P Y ops dr cf Q (x::x2::r) ⟨v,m,n⟩ q:=h _ _ _ _ K
theorem ay(K:aq P Y ops dr cf Q r s (q++[e]++[e2]++[e3]))(h:∀ cf Q r q,aq P Y ops dr cf Q r s (q++[e]++[e2]++[e3])->aq P Y ops dr cf Q (x::x2::x3::r) ⟨v,m,n⟩ q:=by intro _ _ _ _ k;(iterate 3 refine SS ?_);exact k):aq P Y ops dr cf Q (x::x2::x3::r) ⟨v,m,n⟩ q:=h _ _ _ _ K
theorem aY(K:aq P Y ops dr cf Q r s (q++[e]++[e2]++[e3]++[e4]))(h:∀ cf Q r q,aq P Y ops dr cf Q r s (q++[e]++[e2]++[e3]++[e4])->aq P Y ops dr cf Q (x::x2::x3::x4::r) ⟨v,m,n⟩ q:=by intro _ _ _ _ k;(iterate 4 refine SS ?_);exact k):aq P Y ops dr cf Q (x::x2::x3::x4::r) ⟨v,m,n⟩ q:=h _ _ _ _ K
theorem bw(K:aq P Y ops dr cf Q r s (q++[e]++[e2]++[e3]++[e4]++[e5]))(h:∀ cf Q r q,aq P Y ops dr cf Q r s (q++[e]++[e2]++[e3]++[e4]++[e5])->aq P Y ops dr cf Q (x::x2::x3::x4::x5::r) ⟨v,m,n⟩ q:=by intro _ _ _ _ k;(iterate 5 refine SS ?_);exact k):aq P Y ops dr cf Q (x::x2::x3::x4::x5::r) ⟨v,m,n⟩ q:=h _ _ _ _ K
theorem cz(K:aq P Y ops dr cf Q r s (q++[e]++[e2]++[e3]++[e4]++[e5]++[e6]))(h:∀ cf Q r q,aq P Y ops dr cf Q r s (q++[e]++[e2]++[e3]++[e4]++[e5]++[e6])->aq P Y ops dr cf Q (x::x2::x3::x4::x5::x6::r) ⟨v,m,n⟩ q:=by intro _ _ _ _ k;(iterate 6 refine SS ?_);exact k):aq P Y ops dr cf Q (x::x2::x3::x4::x5::x6::r) ⟨v,m,n⟩ q:=h _ _ _ _ K
theorem ik(K:aq P Y ops dr cf Q r s (q++[e]++[e2]++[e3]++[e4]++[e5]++[e6]++[e7]))(h:∀ cf Q r q,aq P Y ops dr cf Q r s (q++[e]++[e2]++[e3]++[e4]++[e5]++[e6]++[e7])->aq P Y ops dr cf Q (x::x2::x3::x4::x5::x6::x7::r) ⟨v,m,n⟩ q:=by intro _ _ _ _ k;(iterate 7 refine SS ?_);exact k):aq P Y ops dr cf Q (x::x2::x3::x4::x5::x6::x7::r) ⟨v,m,n⟩ q:=h _ _ _ _ K
theorem du(K:aq P Y ops dr cf Q r s (q++[e]++[e2]++[e3]++[e4]++[e5]++[e6]++[e7]++[e8]))(h:∀ cf Q r q,aq P Y ops dr cf Q r s (q++[e]++[e2]++[e3]++[e4]++[e5]++[e6]++[e7]++[e8])->aq P Y ops dr cf Q (x::x2::x3::x4::x5::x6::x7::x8::r) ⟨v,m,n⟩ q:=by intro _ _ _ _ k;(iterate 8 refine SS ?_);exact k):aq P Y ops dr cf Q (x::x2::x3::x4::x5::x6::x7::x8::r) ⟨v,m,n⟩ q:=h _ _ _ _ K
theorem bh(K:aq P Y ops dr cf Q r s (q++[e]++[e2]++[e3]++[e4]++[e5]++[e6]++[e7]++[e8]++[e9]))(h:∀ cf Q r q,aq P Y ops dr cf Q r s (q++[e]++[e2]++[e3]++[e4]++[e5]++[e6]++[e7]++[e8]++[e9])->aq P Y ops dr cf Q (x::x2::x3::x4::x5::x6::x7::x8::x9::r) ⟨v,m,n⟩ q:=by intro _ _ _ _ k;(iterate 9 refine SS ?_);exact k):aq P Y ops dr cf Q (x::x2::x3::x4::x5::x6::x7::x8::x9::r) ⟨v,m,n⟩ q:=h _ _ _ _ K
end
end Go.Abs
namespace Go.Abs
open Go.ChangeShapes Go.WideShapes
inductive Bq:List Sh->List D->Prop
 |nil:Bq [] []
 |cons {s:Sh} {l:List Sh} {ds:List D} (x:s.val) (hx:s.ok x) (h:Bq l ds):Bq (s::l) (s.arg x::ds)
def xx(P:Program)(n:Nat):List TypeId->Option (List Sh)
 |[]=>some []
 |t::ts=>match uo P n t,xx P n ts with
  |some s,some l=>some (s::l)
  |_,_=>none
theorem abL{P:Program}{n:Nat}{t:TypeId}{ts:List TypeId}{l:List Sh}(h:xx P n (t::ts)=some l):∃ s C,uo P n t=some s/\xx P n ts=some C/\l=s::C:=by
 simp only[xx] at h;split at h
 .rename_i s C h1 h2;simp only[aG] at h;exact⟨s,C,h1,h2,h.symm⟩
 .cases h
section
variable{P:Program}{H:Type}{ec:TypeId×Value->H}{w w':World}{base b0:Nat}{r:Reach}{F:Nat->Prop}
theorem Uo(J:EB F w){n:Nat}:∀ {ts:List TypeId} {C:List Sh} {vs:List Value} {ds:List (DataW H)} {ps:List MemPlace},xx P n ts=some C->C.all Sh.sS=true->
 (∀ (j:Nat) t v,ts[j]? =some t->vs[j]? =some v->Value.okWide P w r b0 t v)->DataW.TrodAll ec P w base (fun _=>true) true ts vs ds ps->
 ∃ aS,Bq C aS/\aS.length=vs.length/\∀ (k:Nat) (d:D) (v:Value),aS[k]? =some d->vs[k]? =some v->R F gU w d v
 |[],C,[],[],_,hs,_,_,_=>by
  simp only[xx,aG] at hs;subst hs;exact⟨[],.nil,rfl,oS⟩
 |t::ts,C,v::vs,d::ds,ps,hs,sT,bB,h=>by
  obtain⟨p,q,h1,h2,_⟩:=h;obtain⟨s,l',M,U,rfl⟩:=abL hs;simp only[List.all_cons,aW] at sT;obtain⟨x,X,hx⟩:=aiP J M sT.1 (bB 0 t v rfl rfl) h1;obtain⟨aS,a1,a2,a3⟩:=Uo J U sT.2 (fun j t v hj hv=>bB (j+1) t v (by simpa using hj) (by simpa using hv)) h2;refine⟨s.arg x::aS,.cons x X a1,by simp[a2],fun k d v hd hv=>?_⟩;cases k with
  |zero=>
   simp only[List.getElem?_cons_zero,aG] at hd hv;subst hd hv;exact hx
  |succ k=>exact a3 k d v (by simpa using hd) (by simpa using hv)
 |[],_,_::_,_,_,_,_,_,h=>by simp[DataW.TrodAll] at h
 |[],_,[],_::_,_,_,_,_,h=>by simp[DataW.TrodAll] at h
 |_::_,_,[],_,_,_,_,_,h=>by simp[DataW.TrodAll] at h
 |_::_,_,_::_,[],_,_,_,_,h=>by simp[DataW.TrodAll] at h
theorem Kept.same(h:Kept w w'){p:MemPlace}(hp:p.block<w.heap.size):w.sameAt w' p:=by
 cases p with
 |cell b o=>exact Go.World.cell?_of_block (w:=w) (h.2.1 b hp)
 |map b=>exact h.2.1 b hp
theorem Kept.frame(h:Kept w w')(C:MemPlace->Prop):w.keptBut w' C:=by
 refine⟨h.2.2.1,h.2.2.2,fun i hi=>?_⟩;rw[h.2.1 i hi];split<;>simp_all
theorem Pw(hl:laidOutB P=true)(h:Kept w w'):∀ {ts:List TypeId} {vs:List Value} {ds:List (DataW H)} {ps:List MemPlace},(ts.all fun t=>P.readableRec t&&decide (t<P.types.size))=true->
 DataW.TrodAll ec P w 0 (fun _=>true) true ts vs ds ps->DataW.TrodAll ec P w' 0 (fun b=>decide (b<w.heap.size)) true ts vs ds ps
 |[],[],[],_,_,h0=>h0
 |t::ts,v::vs,d::ds,ps,ht,h0=>by
  obtain⟨p,q,h1,h2,rfl⟩:=h0;simp only[List.all_cons,aW,decide_eq_true_eq] at ht;have af:∀ x∈p,x.block<w.heap.size:=by obtain⟨m,hm⟩:=h1;exact DataW.trod_lt m _ _ _ hm
  exact⟨p,q,WideElems.Trod_stays hl ht.1.1 ht.1.2 h1 (fun x hx=>h.same (af x hx)) (fun x hx=>by simpa using af x hx),Pw hl h (by simpa using ht.2) h2,rfl⟩
 |[],_::_,_,_,_,h0=>by simp[DataW.TrodAll] at h0
 |[],[],_::_,_,_,h0=>by simp[DataW.TrodAll] at h0
 |_::_,[],_,_,_,h0=>by simp[DataW.TrodAll] at h0
 |_::_,_::_,[],_,_,h0=>by simp[DataW.TrodAll] at h0
theorem P4:∀ {ts:List TypeId} {vs:List Value} {ds:List (DataW H)} {ps:List MemPlace},DataW.TrodAll ec P w 0 (fun _=>true) true ts vs ds ps->ds.length=ts.length
 |[],[],[],_,_=>rfl
 |t::ts,v::vs,d::ds,ps,h0=>by
  obtain⟨p,q,h1,h2,rfl⟩:=h0;simp[P4 h2]
 |[],_::_,_,_,h0=>by simp[DataW.TrodAll] at h0
 |[],[],_::_,_,h0=>by simp[DataW.TrodAll] at h0
 |_::_,[],_,_,h0=>by simp[DataW.TrodAll] at h0
 |_::_,_::_,[],_,h0=>by simp[DataW.TrodAll] at h0
theorem Sw{J:String}{d:DataW Unit}:∀ {l:List (String×DataW Unit)} {ps:List MemPlace},DataW.LaidVars P w l ps->(J,d)∈l->
 ∃ g t cs ek p,P.globalNamed J=some g/\(P.globals[g]?).map (·.type)=some t/\w.var? P J=some cs/\DataW.trod (fun _=>()) P w 0 (fun _=>true) false ek t cs.toList=some (d,p)/\∀ x∈MemPlace.row ⟨g,0,none⟩ cs.size,x∈ps
 |[],_,_,h=>by simp at h
 |(n,e)::r,ps,hv,h=>by
  obtain⟨g,t,cs,ek,p,q,h1,h2,M,U,X,rfl⟩:=hv;rcases List.mem_cons.1 h with h|h
  .cases h;exact⟨g,t,cs,ek,p,h1,h2,M,U,fun x hx=>List.mem_append_left _ (List.mem_append_left _ hx)⟩
  .obtain⟨g',t',cs',C,p',k1,k2,k3,k4,k5⟩:=Sw X h;exact⟨g',t',cs',C,p',k1,k2,k3,k4,fun x hx=>List.mem_append_right _ (k5 x hx)⟩
theorem Rw{e:TypeId}{m:Nat}{spare:Nat->Bool}{held:Bool}(he:P.underlying e=some (.int .u64))(hc:P.cellsOf e=1):∀ {cs:List Value} {l:List Int} {xs:List (DataW H×List MemPlace)},cs.length=l.length->xs.map (·.1)=l.map (fun n=>DataW.lit (.int .u64 n))->
 (∀ i,i<l.length->DataW.trod ec P w base spare held m e ((cs.drop i).take 1)=xs[i]?)->cs=l.map (Value.int .u64 ·)
 |[],[],_,_,_,_=>rfl
 |c::cs,n::l,[],_,hx,_=>by simp at hx
 |c::cs,n::l,x::xs,hl,hx,h=>by
  have h0:=h 0 oS;simp only[List.drop_zero,List.take_succ_cons,List.take_zero,List.getElem?_cons_zero] at h0;obtain⟨b,hb,C,_⟩:=DataW.trod_int he h0;simp only[List.map_cons,List.cons.injEq] at hx;have e1:x.1=DataW.lit (.int .u64 b):=by rw[C]
  rw[hx.1] at e1;simp only[DataW.lit.injEq,Lit.int.injEq,true_and] at e1;subst e1;simp only[List.cons.injEq,and_true] at hb;subst hb;rw[List.map_cons,Rw he hc (cs:=cs) (l:=l) (xs:=xs) (by simpa using hl) hx.2 fun i hi=>by simpa using h (i+1) (by simpa using hi)]
 |[],_::_,_,hl,_,_=>by simp at hl
 |_::_,[],_,hl,_,_=>by simp at hl
theorem aac{laid:List (String×DataW Unit)}{M:String}{g t e:Nat}{l:List Int}(h:laidMet P laid w)(hm:(M,DataW.agg (l.map fun n=>DataW.lit (.int .u64 n)))∈laid)(hg:P.globalNamed M=some g)
 (ht:(P.globals[g]?).map (·.type)=some t) (hu:P.underlying t=some (.array l.length e)) (hs:P.cellsOf t=l.length) (he:P.underlying e=some (.int .u64)) (hc:P.cellsOf e=1) (aC:0<l.length):
 ∃ ty,w.heap[g]? =some (.cells (l.map (Value.int .u64 ·)).toArray ty (0,0)):=by
 obtain⟨ps,hv,_,hp⟩:=h;obtain⟨g',t',cs,ek,p,h1,h2,J,U,X⟩:=Sw hv hm;obtain rfl:g=g':=Option.some.inj (hg.symm.trans h1);obtain rfl:t=t':=Option.some.inj (ht.symm.trans h2);obtain⟨xs,m,_,e2,e3,e4,e5⟩:=DataW.trod_array hu U
 have C:cs.toList=l.map (Value.int .u64 ·):=by
  refine Rw (ec:=fun _=>()) (w:=w) (base:=0) (spare:=fun _=>true) (held:=false) (m:=m) (xs:=xs) he hc (by rw[e3,hs]) ?_ fun i hi=>?_
  .simp only[bR,DataW.agg.injEq] at e2;exact e2.1.symm
  .have:=e5 i hi
   rwa[hc,Nat.mul_one] at this
 have bD:0<cs.size:=by
  have:cs.toList.length=l.length:=by rw[C];simp
  simp at this;omega
 obtain⟨⟨c,ty,hh⟩,_⟩:=hp g 0 (X _ (by
  unfold MemPlace.row;refine List.mem_map.2 ⟨0,by simpa using bD,?_⟩
  simp[Addr.add]))
 refine⟨ty,?_⟩;simp only[World.var?,hg,Option.bind_some,hh,aG] at J;subst J;rw[hh, <- C]
end
theorem YL{C:Checked}{f:FuncId}{fn:Func}{s:ChangeSpec}{H:Type}{ec:TypeId×Value->H}{n:Nat}{wq:List Sh}{tb:TypeId}{F:Nat->Prop}
 (Vp:s.vars=[]) (hs:∀ ds:List (DataW H),ds.length=fn.params.size->s.fn H ds={ results:=[.lit (.bool true)],args:=ds })
 (J:laidOutB C.prog=true) (M:(fn.params.toList.all fun t=>C.prog.readableRec t&&decide (t<C.prog.types.size))=true) (oh:fn.resultTypes= #[tb]) (hb:C.prog.underlying tb=some .bool)
 (mb:xx C.prog n fn.params.toList=some wq) (sT:wq.all Sh.sS=true) (h:∀ aS,Bq wq aS->aB C.prog f aS (.s (.bool true)))
 (W:World) (base:Nat) (args:Array Value) (ds gs:List (DataW H)) (before:List MemPlace) (N4:FB F W) (hU:EB F W)
 (EW:∀ (j:Nat) t v,fn.params[j]? =some t->args[j]? =some v->Value.okWide C.prog W .any base t v)
 (hW:DataW.Whole ec C.prog fn.params.toList s.vars false W args.toList ds gs before):
 Calls C.prog f args W fun e W'=>∃ v,e=.returned v/\s.post ec C.prog fn false true false false W args v W':=by
 have hW':=hW;obtain⟨p,q,U,X,rfl,hfz,eh⟩:=hW;rw[Vp] at X
 have hg:gs=[]/\q=[]:=by
  cases gs with
  |nil=>exact⟨rfl,X⟩
  |cons g gs=>exact X.elim
 obtain⟨rfl,rfl⟩:=hg;obtain⟨aS,a1,a2,a3⟩:=Uo hU mb sT (fun j t v hj hv=>EW j t v (by simpa using hj) (by simpa using hv)) U;refine((h aS a1).2.2 F W args N4 ⟨by simpa using a2.symm,fun k d v hd hv=>a3 k d v hd (by simpa using hv)⟩).mono ?_;rintro e W' ⟨v,rfl,hv,hk⟩;obtain⟨rfl,_⟩:=hv.c6;have hlen:ds.length=fn.params.size:=by simpa using P4 U
 refine⟨_,rfl,ds,[],_,[],p,[],hW',?_,?_,?_,hk.frame _,fun h=>by cases h⟩
 .rw[List.append_nil,hs ds hlen,oh];exact⟨[],[],⟨1,by simp[DataW.trod,Value.cells,hb]⟩,rfl,rfl⟩
 .rw[List.append_nil,hs ds hlen];exact Pw J hk M U
 .rw[List.append_nil,hs ds hlen,Vp];rfl
end Go.Abs
section
open Go Go.Abs Go.Proofs Go.Argus
namespace Go.Proofs.Tryz.K
theorem M9{l:List Int}{g:FuncId}{fs cs:List D}{p:Int->Bool}(ht:Tr (.fn (.func g) fs cs))(hg:∀ x∈l,aB prog g (fs++[U8 x]++cs) (B (p x))):aB prog 226 [ir l,.fn (.func g) fs cs] (I (nt p l)):=by
 refine mh UM.he (.cons (oW _) (.cons ht .nil)) fun C=>?_;have hlen:=(C (ir l) oS).sl.1;unfold maxLen at hlen;refine bj UM (.cons (oW _) (.cons ht .nil)) (Tr.s _) ?_;rw[af8];refine ws ?_;refine SS ?_;refine aa (az (aw ?_));refine ay ?_
 refine aa (bZ (fun s=>aH prog s ⟨ax [],fun _=>none,0⟩/\∀ (j:Nat) y,l[j]? =some y->p y=false) (cH (α:=Nat) (fun k=>⟨ax [(0,ir l),(1,.fn (.func g) fs cs),(7,I l.length),(8,I k)],fun _=>none,0⟩)
  (fun k=>k<=l.length/\∀ j y,j<k->l[j]? =some y->p y=false) (fun k=>l.length - k) 0 (au eH) ⟨oG,fun j y hj=>by omega⟩ ?_) ?_)
 .rintro k ⟨hk,hinv⟩;refine SS ?_;refine aa ⟨_,rfl,fun h=>?_,fun h=>?_⟩
  .have af:k<l.length:=by simpa using h
   have hx:l[k]? =some l[k]:=by simp[af]
   generalize l[k]=x at hx;have M:=hg x (bu hx);refine ws ?_;refine ab ?_;refine er ?_;refine bw ?_;refine cl M ?_;refine aa (aQ rfl (fun hp=>?_) fun hp=>?_)
   .refine ws ?_;refine ab ?_;refine aa (bG (bY (bA (aD rfl ?_))));rw[yp hx hp hinv];rfl
   .refine cP ?_;refine ab ?_;refine aa (bf (k+1) (au eH) ⟨oG,fun j y hj hy=>?_⟩ oG);by_cases e:j=k
    .subst e;rw[hx] at hy;cases hy;exact hp
    .exact hinv j y oG hy
  .have U:¬ k<l.length:=by simpa using h
   exact⟨.forget _ _ _ _ fun _=>.inr rfl,fun j y hy=>hinv j y (by have:=(bI.1 hy).1;omega) hy⟩
 .rintro s ⟨hg,J⟩;refine⟨_,hg,ag ?_⟩;refine SS ?_;refine aa (aD rfl ?_);rw[AP J];rfl
theorem vz{l:List Int}{g:FuncId}{fs cs:List D}{p:Int->Bool}(ht:Tr (.fn (.func g) fs cs))(hg:∀ x∈l,aB prog g (fs++[U8 x]++cs) (B (p x))):aB prog 163 [ir l,.fn (.func g) fs cs] (B (l.any p)):=by
 have M9:=M9 ht hg;refine bj af9 (.cons (oW _) (.cons ht .nil)) (Tr.s _) ?_;rw[af'];refine ws ?_;refine SS ?_;refine er ?_;refine ab ?_;refine cl M9 ?_;refine ab ?_;refine aa (aD rfl ?_);rw[<- AY];rfl
theorem M'{l:List ByteArray}{g:FuncId}{fs cs:List D}{p:ByteArray->Bool}(ht:Tr (.fn (.func g) fs cs))(hg:∀ x∈l,aB prog g (fs++[S x]++cs) (B (p x))):aB prog 166 [bP l,.fn (.func g) fs cs] (I (nt p l)):=by
 refine mh UN.he (.cons (gS _) (.cons ht .nil)) fun C=>?_;have hlen:=(C (bP l) oS).sl.1;unfold maxLen at hlen;refine bj UN (.cons (gS _) (.cons ht .nil)) (Tr.s _) ?_;rw[aga];refine ws ?_;refine SS ?_;refine aa (az (aw ?_));refine ay ?_
 refine aa (bZ (fun s=>aH prog s ⟨ax [],fun _=>none,0⟩/\∀ (j:Nat) y,l[j]? =some y->p y=false) (cH (α:=Nat) (fun k=>⟨ax [(0,bP l),(1,.fn (.func g) fs cs),(7,I l.length),(8,I k)],fun _=>none,0⟩)
  (fun k=>k<=l.length/\∀ j y,j<k->l[j]? =some y->p y=false) (fun k=>l.length - k) 0 (au eH) ⟨oG,fun j y hj=>by omega⟩ ?_) ?_)
 .rintro k ⟨hk,hinv⟩;refine SS ?_;refine aa ⟨_,rfl,fun h=>?_,fun h=>?_⟩
  .have af:k<l.length:=by simpa using h
   have hx:l[k]? =some l[k]:=by simp[af]
   generalize l[k]=x at hx;have M:=hg x (bu hx);refine ws ?_;refine ab ?_;refine er ?_;refine bw ?_;refine cl M ?_;refine aa (aQ rfl (fun hp=>?_) fun hp=>?_)
   .refine ws ?_;refine ab ?_;refine aa (bG (bY (bA (aD rfl ?_))));rw[yp hx hp hinv];rfl
   .refine cP ?_;refine ab ?_;refine aa (bf (k+1) (au eH) ⟨oG,fun j y hj hy=>?_⟩ oG);by_cases e:j=k
    .subst e;rw[hx] at hy;cases hy;exact hp
    .exact hinv j y oG hy
  .have U:¬ k<l.length:=by simpa using h
   exact⟨.forget _ _ _ _ fun _=>.inr rfl,fun j y hy=>hinv j y (by have:=(bI.1 hy).1;omega) hy⟩
 .rintro s ⟨hg,J⟩;refine⟨_,hg,ag ?_⟩;refine SS ?_;refine aa (aD rfl ?_);rw[AP J];rfl
theorem Ix{l:List ByteArray}{g:FuncId}{fs cs:List D}{p:ByteArray->Bool}(ht:Tr (.fn (.func g) fs cs))(hg:∀ x∈l,aB prog g (fs++[S x]++cs) (B (p x))):aB prog 126 [bP l,.fn (.func g) fs cs] (B (l.any p)):=by
 have M':=M' ht hg;refine bj agb (.cons (gS _) (.cons ht .nil)) (Tr.s _) ?_;rw[agc];refine ws ?_;refine SS ?_;refine er ?_;refine ab ?_;refine cl M' ?_;refine ab ?_;refine aa (aD rfl ?_);rw[<- AY];rfl
theorem Na{l:List gh}{g:FuncId}{fs cs:List D}{p:gh->Bool}(ht:Tr (.fn (.func g) fs cs))(hg:∀ x∈l,aB prog g (fs++[.agg (gF x)]++cs) (B (p x))):aB prog 223 [lG l,.fn (.func g) fs cs] (I (nt p l)):=by
 refine mh UO.he (.cons (jz _) (.cons ht .nil)) fun C=>?_;have hlen:=(C (lG l) oS).sl.1;unfold maxLen at hlen;refine bj UO (.cons (jz _) (.cons ht .nil)) (Tr.s _) ?_;rw[agd];refine ws ?_;refine SS ?_;refine aa (az (aw ?_));refine ay ?_
 refine aa (bZ (fun s=>aH prog s ⟨ax [],fun _=>none,0⟩/\∀ (j:Nat) y,l[j]? =some y->p y=false) (cH (α:=Nat) (fun k=>⟨ax [(0,lG l),(1,.fn (.func g) fs cs),(7,I l.length),(8,I k)],fun _=>none,0⟩)
  (fun k=>k<=l.length/\∀ j y,j<k->l[j]? =some y->p y=false) (fun k=>l.length - k) 0 (au eH) ⟨oG,fun j y hj=>by omega⟩ ?_) ?_)
 .rintro k ⟨hk,hinv⟩;refine SS ?_;refine aa ⟨_,rfl,fun h=>?_,fun h=>?_⟩
  .have af:k<l.length:=by simpa using h
   have hx:l[k]? =some l[k]:=by simp[af]
   generalize l[k]=x at hx;have M:=hg x (bu hx);refine ws ?_;refine ab ?_;refine er ?_;refine bw ?_;refine cl M ?_;refine aa (aQ rfl (fun hp=>?_) fun hp=>?_)
   .refine ws ?_;refine ab ?_;refine aa (bG (bY (bA (aD rfl ?_))));rw[yp hx hp hinv];rfl
   .refine cP ?_;refine ab ?_;refine aa (bf (k+1) (au eH) ⟨oG,fun j y hj hy=>?_⟩ oG);by_cases e:j=k
    .subst e;rw[hx] at hy;cases hy;exact hp
    .exact hinv j y oG hy
  .have U:¬ k<l.length:=by simpa using h
   exact⟨.forget _ _ _ _ fun _=>.inr rfl,fun j y hy=>hinv j y (by have:=(bI.1 hy).1;omega) hy⟩
 .rintro s ⟨hg,J⟩;refine⟨_,hg,ag ?_⟩;refine SS ?_;refine aa (aD rfl ?_);rw[AP J];rfl
theorem EK{l:List gh}{g:FuncId}{fs cs:List D}{p:gh->Bool}(ht:Tr (.fn (.func g) fs cs))(hg:∀ x∈l,aB prog g (fs++[.agg (gF x)]++cs) (B (p x))):aB prog 228 [lG l,.fn (.func g) fs cs] (B (l.any p)):=by
 have Na:=Na ht hg;refine bj age (.cons (jz _) (.cons ht .nil)) (Tr.s _) ?_;rw[agf];refine ws ?_;refine SS ?_;refine er ?_;refine ab ?_;refine cl Na ?_;refine ab ?_;refine aa (aD rfl ?_);rw[<- AY];rfl
theorem Ag{l:List Int}{g:FuncId}{fs cs:List D}{p:Int->Bool}(ht:Tr (.fn (.func g) fs cs))(hg:∀ x∈l,aB prog g (fs++[I x]++cs) (B (p x))):aB prog 89 [aT l,.fn (.func g) fs cs] (I (nt p l)):=by
 refine mh VC.he (.cons (di _) (.cons ht .nil)) fun C=>?_;have hlen:=(C (aT l) oS).sl.1;unfold maxLen at hlen;refine bj VC (.cons (di _) (.cons ht .nil)) (Tr.s _) ?_;rw[ajK];refine ws ?_;refine SS ?_;refine aa (az (aw ?_));refine ay ?_
 refine aa (bZ (fun s=>aH prog s ⟨ax [],fun _=>none,0⟩/\∀ (j:Nat) y,l[j]? =some y->p y=false) (cH (α:=Nat) (fun k=>⟨ax [(0,aT l),(1,.fn (.func g) fs cs),(7,I l.length),(8,I k)],fun _=>none,0⟩)
  (fun k=>k<=l.length/\∀ j y,j<k->l[j]? =some y->p y=false) (fun k=>l.length - k) 0 (au eH) ⟨oG,fun j y hj=>by omega⟩ ?_) ?_)
 .rintro k ⟨hk,hinv⟩;refine SS ?_;refine aa ⟨_,rfl,fun h=>?_,fun h=>?_⟩
  .have af:k<l.length:=by simpa using h
   have hx:l[k]? =some l[k]:=by simp[af]
   generalize l[k]=x at hx;have M:=hg x (bu hx);refine ws ?_;refine ab ?_;refine er ?_;refine bw ?_;refine cl M ?_;refine aa (aQ rfl (fun hp=>?_) fun hp=>?_)
   .refine ws ?_;refine ab ?_;refine aa (bG (bY (bA (aD rfl ?_))));rw[yp hx hp hinv];rfl
   .refine cP ?_;refine ab ?_;refine aa (bf (k+1) (au eH) ⟨oG,fun j y hj hy=>?_⟩ oG);by_cases e:j=k
    .subst e;rw[hx] at hy;cases hy;exact hp
    .exact hinv j y oG hy
  .have U:¬ k<l.length:=by simpa using h
   exact⟨.forget _ _ _ _ fun _=>.inr rfl,fun j y hy=>hinv j y (by have:=(bI.1 hy).1;omega) hy⟩
 .rintro s ⟨hg,J⟩;refine⟨_,hg,ag ?_⟩;refine SS ?_;refine aa (aD rfl ?_);rw[AP J];rfl
theorem CB{l:List Int}{g:FuncId}{fs cs:List D}{p:Int->Bool}(ht:Tr (.fn (.func g) fs cs))(hg:∀ x∈l,aB prog g (fs++[I x]++cs) (B (p x))):aB prog 76 [aT l,.fn (.func g) fs cs] (B (l.any p)):=by
 have Ag:=Ag ht hg;refine bj ajL (.cons (di _) (.cons ht .nil)) (Tr.s _) ?_;rw[ajM];refine ws ?_;refine SS ?_;refine er ?_;refine ab ?_;refine cl Ag ?_;refine ab ?_;refine aa (aD rfl ?_);rw[<- AY];rfl
theorem mX{n a b:Int}:aB prog 73 [I n,I a,I b] (B (jO n a b)):=by
 refine bj alX (by simp[Tr.s]) (Tr.s _) ?_;rw[alY];refine ws ?_;refine SS ?_;refine er ?_;refine bh ?_;refine aa (aD (d:=.s (.bool _)) rfl ?_);simp[jO]
theorem alZ{b:Int}:aB prog 164 [U8 b] (B (Gs b)):=by
 refine bj ahO (by simp[Tr.s]) (Tr.s _) ?_;rw[ahP];refine ws ?_;refine SS ?_;refine er ?_;refine ik ?_;refine aa (aD (d:=.s (.bool _)) rfl ?_);simp[Gs]
theorem al0{b:Int}:aB prog 167 [U8 b] (B (Gt b)):=by
 refine bj ahQ (by simp[Tr.s]) (Tr.s _) ?_;rw[ahR];refine ws ?_;refine SS ?_;refine er ?_;refine bh ?_;refine cz ?_;refine aa (aD (d:=.s (.bool _)) rfl ?_);simp[Gt]
theorem sv{s:ByteArray}:aB prog 124 [S s] (B (nU s)):=by
 refine bj ahS (by simp[Tr.s]) (Tr.s _) ?_;have vz:=vz (l:=rJ s) (g:=164) (fs:=[]) (cs:=[]) (p:=Gs) (.fn oS oS) (fun x _=>alZ);rw[ahT];refine ws ?_;refine SS ?_;refine er ?_;refine ab ?_;refine cl mX ?_;refine SS ?_;refine bc rfl rfl (cY (v:=.s (.string _)) rfl) (fun hc=>⟨ak,trivial⟩) ?_;refine bc rfl rfl (RE rfl V.h V.h) (fun hc=>⟨ak,⟨V.h,by have:=lH.1 (by simpa using hc);unfold maxLen;omega⟩⟩) ?_;refine gc vz ?_;refine ay ?_;refine aa (aD (d:=.s (.bool _)) rfl ?_);simp[nU]
theorem ES{s:ByteArray}:aB prog 128 [S s] (B (isName s)):=by
 refine bj ahU (by simp[Tr.s]) (Tr.s _) ?_;have vz:=vz (l:=rJ s) (g:=167) (fs:=[]) (cs:=[]) (p:=Gt) (.fn oS oS) (fun x _=>al0);rw[ahV];refine ws ?_;refine SS ?_;refine er ?_;refine ab ?_;refine cl mX ?_;refine SS ?_;refine bc rfl rfl (cY (v:=.s (.string _)) rfl) (fun hc=>⟨ak,trivial⟩) ?_;refine bc rfl rfl (RE rfl V.h V.h) (fun hc=>⟨ak,⟨V.h,by have:=lH.1 (by simpa using hc);unfold maxLen;omega⟩⟩) ?_;refine gc vz ?_;refine ay ?_;refine aa (aD (d:=.s (.bool _)) rfl ?_);simp[isName]
theorem al1{s:ByteArray}:aB prog 127 [S s] (B !(isName s)):=by
 refine bj ahW (by simp[Tr.s]) (Tr.s _) ?_;rw[ahX];refine ws ?_;refine SS ?_;refine er ?_;refine SS ?_;refine cl ES ?_;refine ab ?_;refine aa (aD rfl rfl)
theorem al2{b m:Int}:aB prog 165 [U8 b,.pt [U8 m]] (B (A3 m b)):=by
 refine bj ahY (.cons (.s _) (.cons (.pt (by simp[Tr.s])) .nil)) (Tr.s _) ?_;rw[ahZ];refine ws ?_;refine SS ?_;refine er ?_;refine du ?_;refine aa (aD (d:=.s (.bool _)) rfl ?_);simp[A3]
theorem NA{l:List Int}{m:Int}:aB prog 125 [ir l,U8 m] (B (rQ l m)):=by
 refine bj ah0 (.cons (oW _) (.cons (.s _) .nil)) (Tr.s _) ?_;have vz:=vz (l:=l) (g:=165) (fs:=[]) (cs:=[.pt [U8 m]]) (p:=A3 m) (.fn oS (.cons (.pt (by simp[Tr.s])) .nil)) (fun x _=>al2);rw[ah1];refine aw ?_;refine eM (Hs (d:=.s (.int _ _)) rfl rfl) ak rfl ?_;refine SS ?_;refine aa (bH (dA [(0,[U8 m],5)] eH (l:=[(0,ir l),(3,.pt [U8 m])]) eH) (ag ?_));refine ab ?_;refine cl vz ?_;refine ab ?_;refine aa (aD rfl rfl)
theorem Kr{p q:D}{f:ai}(h:Real (.agg (a7 p q f))):f.aO.length<=maxLen/\f.bK.length<=maxLen/\f.signals.length<=maxLen/\f.blocks.length<=maxLen:=
 ⟨(h.agg (ir f.aO) (by simp[a7])).sl.1,(h.agg (ir f.bK) (by simp[a7])).sl.1,(h.agg (bP f.signals) (by simp[a7])).sl.1,(h.agg (cG f.blocks) (by simp[a7])).sl.1⟩
section
variable{p q:D}{f:ai}(hp:Tr p)(hq:Tr q)(eO:p.one=true)(bN:q.one=true)
include hp hq eO bN
theorem j8{n:Int}:aB prog 168 [.agg (a7 p q f),I n] (B (jO n 0 (f.blocks.length - 1))):=by
 have C:∀ a∈[D.agg (a7 p q f),I n],Tr a:=.cons (kP hp hq f) (.cons (.s _) .nil);refine mh Vi.he C fun J=>?_;obtain⟨M,U,X,l4⟩:=Kr (J _ (List.mem_cons_self ..));unfold maxLen at*
 refine bj Vi C (Tr.s _) ?_;rw[ah3];refine ws ?_;refine ab ?_;refine er ?_;refine cz ?_;refine cl mX ?_;refine SS ?_;refine aa (aD rfl rfl)
theorem fk{r:Int}:aB prog 169 [.agg (a7 p q f),I r] (U8 (dz f.aO r)):=by
 have C:∀ a∈[D.agg (a7 p q f),I r],Tr a:=.cons (kP hp hq f) (.cons (.s _) .nil);refine mh Vj.he C fun J=>?_;obtain⟨M,U,X,l4⟩:=Kr (J _ (List.mem_cons_self ..));unfold maxLen at*
 refine bj Vj C (Tr.s _) ?_;rw[ah4];refine ws ?_;refine ab ?_;refine aa (az (ag ?_));refine cz ?_;refine cl mX ?_;refine SS ?_;refine aa (cA rfl (fun h=>?_) fun h=>?_)
 .refine az (ag ?_);refine SS ?_;refine aa (dG (aD rfl ?_));rw[Rh (fun hh=>by simp[jO] at h;omega)];rfl
 .have hh:0<=r/\r<f.aO.length:=by simp[jO] at h;omega
  obtain⟨i,rfl⟩:=lv hh.1;have af:i<f.aO.length:=by omega
  have hx:f.aO[i]? =some f.aO[i]:=by simp[af]
  generalize f.aO[i]=x at hx;refine cm (ag ?_);refine ik ?_;refine aa (aD rfl ?_);rw[KT hx];rfl
theorem ama{r:Int}:aB prog 230 [I r,.pt (a7 p q f)] (B !(o7 f.aO r)):=by
 have C:∀ a∈[I r,D.pt (a7 p q f)],Tr a:=.cons (.s _) (.cons (.pt (Dz hp hq f)) .nil);have fk:=fk (f:=f) (r:=r) hp hq eO bN;refine bj ah5 C (Tr.s _) ?_;rw[ah6];refine ws ?_;refine SS ?_;refine er ?_;refine ab ?_;refine cl fk ?_;refine aY ?_;refine gc fk ?_;refine ay ?_;refine aa (aD (d:=.s (.bool _)) rfl ?_);unfold o7;generalize dz f.aO r=k;show D.s (.bool _)=D.s (.bool _);simp only[bne];cases (k==1)<;>cases (k==2)<;>rfl
theorem iJ{l:List Int}:aB prog 172 [.agg (a7 p q f),aT l] (B (rS f.aO l)):=by
 have C:∀ a∈[D.agg (a7 p q f),aT l],Tr a:=.cons (kP hp hq f) (.cons (di _) .nil);have CB:=CB (l:=l) (g:=230) (fs:=[]) (cs:=[.pt (a7 p q f)]) (p:=fun r=> !(o7 f.aO r)) (.fn oS (.cons (.pt (Dz hp hq f)) .nil)) (fun x _=>ama hp hq eO bN);refine bj ah7 C (Tr.s _) ?_;rw[ah8];refine aw ?_;refine ab ?_;refine aa (bH (dA [(0,a7 p q f,113)] eH (l:=[(1,aT l),(2,.pt (a7 p q f))]) eH) (ag ?_));refine ab ?_;refine cl CB ?_;refine ab ?_;refine aa (aD (d:=.s (.bool _)) rfl ?_);simp[rS,List.all_eq_not_any_not]
theorem IP{r n:Int}:aB prog 176 [.agg (a7 p q f),I r,I n] (B (zi f.aO f.bK r n)):=by
 have J:∀ a∈[D.agg (a7 p q f),I r,I n],Tr a:=.cons (kP hp hq f) (.cons (.s _) (.cons (.s _) .nil));refine mh Vk.he J fun M=>?_;obtain⟨U,X,l3,l4⟩:=Kr (M _ (List.mem_cons_self ..));unfold maxLen at*
 have fk:=fk (f:=f) (r:=r) hp hq eO bN;refine bj Vk J (Tr.s _) ?_;rw[ah9];have mX:=mX (n:=n) (a:=0) (b:=f.bK.length - 1);by_cases hh:0<=n/\n<f.bK.length
 .obtain⟨i,rfl⟩:=lv hh.1;have af:i<f.bK.length:=by omega
  have hx:f.bK[i]? =some f.bK[i]:=by simp[af]
  generalize f.bK[i]=x at hx;have C:jO (i:Int) 0 (f.bK.length - 1)=true:=lH.2 oG;rw[C] at mX;refine ws ?_;refine ab ?_;refine aa (dV Ri ?_);refine cz ?_;refine cl mX ?_;refine SS ?_;refine bc rfl rfl (fz (vs:=a7 _ _ _) rfl rfl V.h V.h rfl) (fun hc=>⟨ak,(fA V.h V.h (by first|(simp;done)|omega|exact bJ rfl))⟩) ?_;refine SS ?_;refine gc fk ?_;refine bh ?_;refine cq cx ?_;refine aD (d:=.s (.bool _)) rfl ?_;simp[zi,C,KT hx]
 .have C:jO n 0 (f.bK.length - 1)=false:=abz.2 oG;rw[C] at mX;refine ws ?_;refine ab ?_;refine aa (dV Ri ?_);refine cz ?_;refine cl mX ?_;refine SS ?_;(iterate 10 refine z fun _ _=>?_);refine ab ?_;refine cq cx ?_;refine aD (d:=.s (.bool _)) rfl ?_;simp[zi,C]
end
section
variable{p q:D}{f:ai}(hp:Tr p)(hq:Tr q)(eO:p.one=true)(bN:q.one=true)
include hp hq eO bN
theorem EV{r want kd:Int}:aB prog 227 [.agg (a7 p q f),I r,I want,U8 kd] (B (pO f.aO r want kd)):=by
 have J:∀ a∈[D.agg (a7 p q f),I r,I want,U8 kd],Tr a:=.cons (kP hp hq f) (.cons (.s _) (.cons (.s _) (.cons (.s _) .nil)));have fk:=fk (f:=f) (r:=r) hp hq eO bN;refine bj ah' J (Tr.s _) ?_;rw[aia];refine ws ?_;refine ab ?_;refine er ?_;refine av (fz (vs:=a7 _ _ _) rfl rfl V.h V.h rfl) ak (fA V.h V.h (by first|(simp;done)|omega|exact bJ rfl)) ?_;refine SS ?_;refine cl fk ?_;refine SS ?_;refine aa (az (ag ?_));refine SS ?_;refine aa (yn (ag ?_));refine ab ?_;refine aa (aQ rfl (fun h0=>?_) fun h0=>?_)
 .have h0:want=0:=by simpa using h0
  refine ws ?_;refine ay ?_;refine aa (bG (eE (bA (aD (d:=.s (.bool _)) rfl ?_))));simp[pO,h0]
 have h0:¬ want=0:=by simpa using h0
 refine ws ?_;refine ab ?_;refine aa (aQ rfl (fun h1=>?_) fun h1=>?_)
 .have h1:want=1:=by simpa using h1
  refine ws ?_;refine ay ?_;refine aa (bG (eE (bA (aD (d:=.s (.bool _)) rfl ?_))));simp[pO,h1]
 have h1:¬ want=1:=by simpa using h1
 refine ws ?_;refine ab ?_;refine aa (aQ rfl (fun h2=>?_) fun h2=>?_)
 .have h2:want=2:=by simpa using h2
  refine ws ?_;refine ay ?_;refine aa (bG (eE (bA (aD (d:=.s (.bool _)) rfl ?_))));simp[pO,h2]
 have h2:¬ want=2:=by simpa using h2
 refine ws ?_;refine ab ?_;refine aa (aQ rfl (fun C=>?_) fun C=>?_)
 .have C:want=3:=by simpa using C
  refine ws ?_;refine ik ?_;refine aa (bG (eE (bA (aD (d:=.s (.bool _)) rfl ?_))));simp[pO,C,o7,ib]
 have C:¬ want=3:=by simpa using C
 refine wL (ag ?_);refine du ?_;refine aa (aD (d:=.s (.bool _)) rfl ?_);simp[pO,h0,h1,h2,C,ib,bne]
theorem Cj{x:cv}{s:Shape}:aB prog 170 [.agg (a7 p q f),.agg (cg x),.agg (jT s)] (B (wF f.aO x s)):=by
 have M:∀ a∈[D.agg (a7 p q f),.agg (cg x),.agg (jT s)],Tr a:=.cons (kP hp hq f) (.cons (.agg (uI x)) (.cons (.agg (Rj s)) .nil));have fk:=fun r=>fk (f:=f) (r:=r) hp hq eO bN;have EV:= @EV p q f hp hq eO bN;have iJ:=iJ (f:=f) hp hq eO bN (l:=x.args);have J:=mX (n:=x.n) (a:=s.low) (b:=s.high);refine bj aib M (Tr.s _) ?_;rw[aic];refine aw ?_;refine ab ?_;refine eM (tu (cs:=jT _) rfl) ak (by first|rfl|exact sW eO bN|exact oz _|exact vg sJ) ?_;refine SS ?_;refine aa (bH (dA [(0,a7 p q f,113),(1,cg x,54),(2,jT s,237)] eH (l:=[(3,.pt (a7 p q f)),(4,.pt (cg x)),(5,.pt (jT s))]) eH) (ag ?_));have C:=fk;have fk:=fk x.to;refine ay ?_;refine cl fk ?_;refine SS ?_;refine aa ?_;refine jf (fun s'=>aH prog s' ⟨ax [(3,.pt (a7 p q f)),(4,.pt (cg x)),(5,.pt (jT s)),(7,U8 (A4 f.aO x s))],fun _=>none,3⟩) (ag ?_) fun s' hg=>⟨_,hg,?_⟩
 .refine du ?_;refine aa (aQ rfl (fun h=>tw ?_) fun h=>cO ?_)
  .have h:s.to=0\/s.to=1:=by simpa[ib] using h
   have fk:=C x.a;refine ay ?_;refine cl fk ?_;refine SS ?_;refine aa ?_;show aH _ _ _;refine au (l:=[(3,_),(4,_),(5,_),(7,_)]) ⟨rfl,rfl,rfl,?_,trivial⟩;simp only[A4,if_pos h];rfl
  .have h:¬ (s.to=0\/s.to=1):=by simpa[ib] using h
   show aH _ _ _;refine au (l:=[(3,_),(4,_),(5,_),(7,_)]) ⟨rfl,rfl,rfl,?_,trivial⟩;simp only[A4,if_neg h];rfl
 refine ws ?_;refine bw ?_;refine aa ?_;refine jf (fun s'=>aH prog s' ⟨ax [(3,.pt (a7 p q f)),(4,.pt (cg x)),(5,.pt (jT s)),(7,U8 (A4 f.aO x s)),(8,B (ym f.aO x s))],fun _=>none,3⟩) (ag ?_) fun s' hg=>⟨_,hg,?_⟩
 .refine ab ?_;refine aa (qk (ag ?_));refine ab ?_;refine aa (aQ rfl (fun h=>o0 ?_) fun h=>ag ?_)
  .have h:s.args=5:=by simpa using h
   have mX:=mX (n:=x.args.length) (a:=1) (b:=6);refine ay ?_;refine cl mX ?_;refine aY ?_;refine gc iJ ?_;refine ab ?_;refine aa ?_;refine au ⟨rfl,rfl,rfl,rfl,?_,trivial⟩;show D.s (.bool _)=_;simp[ym,h]
  .have U:¬ s.args=5:=by simpa using h
   refine ab ?_;refine aa (aQ rfl (fun h=>o0 ?_) fun h=>KE ?_)
   .have h:s.args=6:=by simpa using h
    refine du ?_;refine gc iJ ?_;refine ab ?_;refine aa ?_;refine au ⟨rfl,rfl,rfl,rfl,?_,trivial⟩;show D.s (.bool _)=_;simp[ym,h,ib]
   .have X:¬ s.args=6:=by simpa using h
    refine au ⟨rfl,rfl,rfl,rfl,?_,trivial⟩;show D.s (.bool _)=_;simp[ym,U,X,ib]
 refine ws ?_;refine bw ?_;refine cl EV ?_;refine ik ?_;refine gc EV ?_;refine du ?_;refine gc EV ?_;refine bh ?_;refine ab ?_;refine gc mX ?_;refine ab ?_;refine aa (aD (d:=.s (.bool _)) rfl ?_);simp[wF,Bool.and_assoc]
end
theorem ND{x:cv}:aB prog 231 [.agg (cg x)] (B (Bp x)):=by
 have C:∀ a∈[D.agg (cg x)],Tr a:=.cons (.agg (uI x)) .nil;refine bj aie C (Tr.s _) ?_;rw[aif];refine ws ?_;refine ab ?_;refine er ?_;refine bh ?_;refine bh ?_;refine bh ?_;refine ay ?_;refine aa (aD (d:=.s (.bool _)) rfl ?_);simp only[Bp,ib];cases decide (x.op=0)<;>cases decide (x.to=0)<;>cases decide (x.a=0)<;>cases decide (x.b=0)<;>cases decide (x.n=0)<;>rfl
theorem NE{x:Argus.End}:aB prog 173 [.agg (bC x)] (B (tG x)):=by
 have C:∀ a∈[D.agg (bC x)],Tr a:=.cons (.agg (rO x)) .nil;have ND:=ND (x:=x.ins);refine bj aih C (Tr.s _) ?_;rw[aii];refine ws ?_;refine ab ?_;refine er ?_;refine bh ?_;refine bh ?_;refine du ?_;refine bc rfl rfl (Hr rfl rfl) (fun hc=>⟨ak,trivial⟩) ?_;refine bh ?_;refine bh ?_;refine ab ?_;refine bc rfl rfl (fz (vs:=cg _) rfl rfl V.h V.h rfl) (fun hc=>⟨ak,(fA V.h V.h (by first|(simp;done)|omega|exact bJ rfl))⟩) ?_;refine gc ND ?_;refine ab ?_;refine aa (aD (d:=.s (.bool _)) rfl ?_);have:decide (x.name.toList=[])=x.name.toList.isEmpty:=by cases x.name.toList<;>rfl
 simp[tG,ib,Bool.and_assoc,this]
theorem amb{w v:gh}:aB prog 229 [.agg (gF v),.pt (gF w)] (B (v.name.toList==w.name.toList)):=by
 have C:∀ a∈[D.agg (gF v),.pt (gF w)],Tr a:=.cons (.agg (Gv v)) (.cons (.pt (Gv w)) .nil);refine bj aij C (Tr.s _) ?_;rw[aik];refine ws ?_;refine eM (tu (cs:=gF _) rfl) ak (by first|rfl|exact sW eO bN|exact oz _|exact vg sJ) ?_;refine SS ?_;refine er ?_;refine cz ?_;exact aa (aD rfl rfl)
section
variable{p q:D}{f:ai}(hp:Tr p)(hq:Tr q)(eO:p.one=true)(bN:q.one=true)
include hp hq eO bN
theorem tS{x:Argus.End}:aB prog 171 [.agg (a7 p q f),.agg (bC x)] (B (oX f x)):=by
 have J:∀ a∈[D.agg (a7 p q f),.agg (bC x)],Tr a:=.cons (kP hp hq f) (.cons (.agg (rO x)) .nil);refine mh Vl.he J fun U=>?_;have hlen:x.aP.length<=maxLen:=((U _ (List.mem_cons_of_mem _ (List.mem_cons_self ..))).agg (lG x.aP) (by simp[bC])).sl.1;unfold maxLen at hlen;have j8:= @j8 p q f hp hq eO bN;refine bj Vl J (Tr.s _) ?_;rw[ail];refine aw ?_;refine ay ?_;refine aa (bH (dA [(0,a7 p q f,113),(1,bC x,57)] eH (l:=[(2,.pt (a7 p q f)),(3,.pt (bC x))]) eH) (az (aw ?_)));refine aY ?_
 refine aa (bZ (fun s=>∃ n,aH prog s ⟨ax [(2,.pt (a7 p q f)),(3,.pt (bC x))],fun _=>none,n⟩/\∀ (j:Nat) y,x.aP[j]? =some y->sd f x.aP j y=true) (cH (α:=Nat) (fun k=>⟨ax [(2,.pt (a7 p q f)),(3,.pt (bC x)),(8,lG x.aP),(9,I x.aP.length),(10,I k)],fun _=>none,2+k⟩)
  (fun k=>k<=x.aP.length/\∀ j y,j<k->x.aP[j]? =some y->sd f x.aP j y=true) (fun k=>x.aP.length - k) 0 (au eH) ⟨oG,fun j y hj=>by omega⟩ ?_) ?_)
 .rintro k ⟨hk,hinv⟩;refine SS ?_;refine aa ⟨_,rfl,fun h=>?_,fun h=>?_⟩
  .have af:k<x.aP.length:=by simpa using h
   have hx:x.aP[k]? =some x.aP[k]:=by simp[af]
   generalize x.aP[k]=w at hx;refine aw ?_;refine cz ?_;refine aa (bH (dA [(2+k,gF w,79)] ⟨aj _ _ _,trivial⟩ (l:=[(2,.pt (a7 p q f)),(3,.pt (bC x)),(5,I k),(6,.pt (gF w)),(8,lG x.aP),(9,I x.aP.length),(10,I k)]) ⟨rfl,rfl,rfl,kY (sz:=prog.cellsOf 79),rfl,rfl,rfl,trivial⟩) (ag ?_));have ES:=ES (s:=w.name);have EK:=EK (l:=x.aP.take k) (g:=229) (fs:=[]) (cs:=[.pt (gF w)]) (p:=fun v=>v.name.toList==w.name.toList) (.fn oS (.cons (.pt (Gv w)) .nil)) (fun v _=>amb);unfold lG at EK;rw[<- aeI Kc hk] at EK;refine ab ?_;refine cl ES ?_;refine bw ?_;refine gc j8 ?_;refine cz ?_;refine bc rfl rfl (K4 rfl V.h V.h rfl rfl rfl) (fun hc=>⟨ak,⟨V.h,oG,oG,oG⟩⟩) ?_;refine bc rfl rfl (LJ rfl rfl) (fun hc=>⟨ak,trivial⟩) ?_;refine gc EK ?_;refine SS ?_;have hb:((isName w.name&&(eu f w.to&& !(x.aP.take k).any fun v=>v.name.toList==w.name.toList)))=sd f x.aP k w:=rfl;refine aa (aQ rfl (fun hp=>?_) fun hp=>?_)
   .refine ws ?_;refine SS ?_;refine aa (bG (bY (bA (aD (d:=.s (.bool _)) rfl ?_))))
    have C:sd f x.aP k w=false:=by
     rw[<- hb];simp only[eu];revert hp;generalize isName w.name=a;generalize jO w.to 0 (f.blocks.length - 1)=b;generalize (List.any _ _)=c;cases a<;>cases b<;>cases c<;>simp
    simp[oX,YK hx C]
   .refine cP ?_
    have C:sd f x.aP k w=true:=by
     rw[<- hb];simp only[eu];revert hp;generalize isName w.name=a;generalize jO w.to 0 (f.blocks.length - 1)=b;generalize (List.any _ _)=c;cases a<;>cases b<;>cases c<;>simp
    refine ab ?_;refine aa (bf (k+1) (au eH) ⟨oG,fun j y hj hy=>?_⟩ oG);by_cases e:j=k
    .subst e;rw[hx] at hy;cases hy;exact C
    .exact hinv j y oG hy
  .have bm:¬ k<x.aP.length:=by simpa using h
   exact⟨2+k,.forget _ _ _ _ fun t=>qj (l:=[(2,.pt (a7 p q f)),(3,.pt (bC x))]) ⟨rfl,rfl,trivial⟩ t,fun j y hy=>hinv j y (by have:=(bI.1 hy).1;omega) hy⟩
 .rintro s ⟨n,hg,M⟩;refine⟨_,hg,ag ?_⟩;refine bh ?_;refine ay ?_;refine gc j8 ?_;refine ay ?_;refine aa (aD (d:=.s (.bool _)) rfl ?_);have X:=Ze M;simp[oX,eu,X,ib]
end
abbrev P0:D:=.im (qW mA)
abbrev Q0:D:=.im (qW lP)
theorem amc:aB prog 162 [] (.aM [P0,Q0]):=by
 refine bj aim Tr.nil (.aM (.cons (BS _) (.cons (BS _) .nil))) ?_;rw[ain];refine ws ?_;refine av (jS (v:=.s (.map none)) rfl) ak trivial ?_;refine av (jS (v:=.s (.map none)) rfl) ak trivial ?_;refine er ?_;refine bh ?_;refine bh ?_;refine bh ?_;refine cz ?_;refine er ?_;refine bh ?_;refine bh ?_;refine ay ?_;refine aa (aw ?_);refine aY ?_;refine aa (bH (ads [(0,qW mA),(1,qW lP)] eH (l:=[(0,P0),(1,Q0)]) eH) ?_);exact gG rfl rfl rfl
abbrev se(f:ai):D:=.agg (a7 P0 Q0 f)
theorem NC{f:ai}:aB prog 123 [.agg (aR f)] (se f):=by
 have C:∀ a∈[D.agg (aR f)],Tr a:=.cons (.agg (kL f)) .nil;refine bj aio C (kP (BS _) (BS _) f) ?_;rw[aip];refine ws ?_;refine ab ?_;refine er ?_;refine cl amc ?_;refine SS ?_;refine av (rE (v:=.im _) rfl rfl) ak (by first|decide|simp) ?_;refine av (rE (v:=.im _) rfl rfl) ak (by first|decide|simp) ?_;refine av (jS (v:=.im _) rfl) ak trivial ?_;refine av (jS (v:=.im _) rfl) ak trivial ?_;refine er ?_;refine av (fz (vs:=aR _) rfl rfl V.h V.h rfl) ak (fA V.h V.h (by first|(simp;done)|omega|exact bJ rfl)) ?_;refine ay ?_;refine bQ (fM (cs':=a7 _ _ _) rfl rfl rfl rfl) ak (cw V.h V.h (by first|(simp;done)|exact⟨rfl,bJ rfl⟩|(simp;omega)) (by rfl)) ?_;refine aa (tv (iq rfl rfl Wy Wz rfl t113 oS) ?_);rfl
theorem mF:Tr P0:=BS _
theorem mG:Tr Q0:=BS _
section
variable{p q:D}{f:ai}(hp:Tr p)(hq:Tr q)(eO:p.one=true)(bN:q.one=true)
include hp hq eO bN
theorem amd{r kd:Int}:aB prog 177 [I r,.pt (a7 p q f),.pt [U8 kd]] (B !(dv (dz f.aO r) kd)):=by
 have C:∀ a∈[I r,.pt (a7 p q f),.pt [U8 kd]],Tr a:=.cons (.s _) (.cons (.pt (Dz hp hq f)) (.cons (.pt (.cons (.s _) .nil)) .nil));have fk:=fk (f:=f) (r:=r) hp hq eO bN;refine bj aiq C (Tr.s _) ?_;rw[air];refine ws ?_;refine SS ?_;refine aa (dV abA ?_);refine ab ?_;refine cl fk ?_;refine ay ?_;refine cq cx ?_;refine aD (d:=.s (.bool _)) rfl ?_;rfl
end
theorem IM{f:ai}{b ahead:Int}{x:cv}{phis:Bool}:aB prog 131 [se f,I b,.agg (cg x),B phis,I ahead] (B (kB f b x phis ahead)):=by
 have U:∀ a∈[se f,I b,.agg (cg x),B phis,I ahead],Tr a:=.cons (kP mF mG f) (.cons (.s _) (.cons (.agg (uI x)) (.cons (.s _) (.cons (.s _) .nil))));have fk:= @fk P0 Q0 f mF mG rfl rfl;have IP:= @IP P0 Q0 f mF mG rfl rfl;have iJ:= @iJ P0 Q0 f mF mG rfl rfl;have Cj:= @Cj P0 Q0 f mF mG rfl rfl;refine bj ais U (Tr.s _) ?_;rw[ait];refine aw ?_;refine ay ?_;refine aa (bH (dA [(0,a7 P0 Q0 f,113),(1,cg x,54)] eH (l:=[(1,I b),(3,B phis),(4,I ahead),(5,.pt (a7 P0 Q0 f)),(7,.pt (cg x))]) eH) (az (ag ?_)));refine ab ?_;refine aa (yn (ag ?_));refine ab ?_;refine aa (aQ rfl (fun h0=>?_) fun h0=>?_)
 .have h0:x.op=16:=by simpa using h0
  refine ws ?_;refine ik ?_;refine gc fk ?_;refine bh ?_;refine du ?_;refine ab ?_;refine aa (bG (eE (bA (aD (d:=.s (.bool _)) rfl ?_))));simp[kB,h0,dv,uX,ib,Bool.and_assoc]
 have h0:¬ x.op=16:=by simpa using h0
 refine ws ?_;refine ab ?_;refine aa (aQ rfl (fun h1=>?_) fun h1=>?_)
 .have h1:x.op=17:=by simpa using h1
  refine ws ?_;refine bh ?_;refine bh ?_;refine ab ?_;refine gc IP ?_;refine ab ?_;refine aa (bG (eE (bA (aD (d:=.s (.bool _)) rfl ?_))));simp[kB,h1,dv,uX,ib,Bool.and_assoc]
 have h1:¬ x.op=17:=by simpa using h1
 refine ws ?_;refine ab ?_;refine aa (aQ rfl (fun h2=>?_) fun h2=>?_)
 .have h2:x.op=18:=by simpa using h2
  refine ws ?_;refine bh ?_;refine bh ?_;refine ab ?_;refine gc IP ?_;refine ab ?_;refine aa (bG (eE (bA (aD (d:=.s (.bool _)) rfl ?_))));simp[kB,h2,dv,uX,ib,Bool.and_assoc]
 have h2:¬ x.op=18:=by simpa using h2
 refine ws ?_;refine ab ?_;refine aa (aQ rfl (fun C=>?_) fun C=>?_)
 .have C:x.op=19:=by simpa using C
  refine aw ?_;refine ay ?_;refine cl fk ?_;refine ab ?_;refine aa (bH (dA [(2,[U8 (dz f.aO x.to)],5)] eH (l:=[(1,I b),(3,B phis),(4,I ahead),(5,.pt (a7 P0 Q0 f)),(7,.pt (cg x)),(11,.pt [U8 (dz f.aO x.to)])]) eH) (ag ?_));have CB:=CB (l:=x.args) (g:=177) (fs:=[]) (cs:=[.pt (a7 P0 Q0 f),.pt [U8 (dz f.aO x.to)]]) (p:=fun r=> !(dv (dz f.aO r) (dz f.aO x.to))) (.fn oS (.cons (.pt (Dz mF mG f)) (.cons (.pt (.cons (.s _) .nil)) .nil))) (fun r _=>amd mF mG rfl rfl);refine ay ?_;refine cl CB ?_;refine SS ?_;refine er ?_;by_cases hb:phis=true/\0<b
  .obtain⟨rfl,hb⟩:=hb;have vy:decide (0<b)=true:=by simpa using hb
   have iJ:=iJ (l:=[x.to]);have M:∀ {m:Mem},m 3=some (.cells [I x.to] 3)->jK prog [3] m [se f,.rs 3 0 1] [se f,aT [x.to]]:=fun hm=>⟨cN (kP mF mG f),BE hm oS (by rw[c3];rfl) (.cons (.s _) .nil),trivial⟩
   refine du ?_;refine ab ?_;refine tx iJ rfl rfl rfl rfl (M rfl) ak ?_;refine bh ?_;refine bh ?_;refine du ?_;refine ab ?_;refine aa (bG (eE (bA (aD (d:=.s (.bool _)) rfl ?_))));simp[kB,C,hb,dv,uX,ib,Bool.and_assoc,rS]
  .have hf:kB f b x phis ahead=false:=by
    cases phis with
    |false=>simp[kB,C]
    |true=>simp[kB,C,show ¬ 0<b by simpa using hb]
   have hf:D.s (.bool false)=B (kB f b x phis ahead):=by rw[hf]
   cases phis with
   |false=>
    refine ab ?_;(iterate 2 refine z fun _ _=>?_);refine ab ?_;(iterate 5 refine z fun _ _=>?_);refine ab ?_;(iterate 3 refine z fun _ _=>?_);refine ab ?_;(iterate 3 refine z fun _ _=>?_);refine ab ?_;(iterate 3 refine z fun _ _=>?_);refine ab ?_;(iterate 5 refine z fun _ _=>?_);refine ab ?_;(iterate 2 refine z fun _ _=>?_);refine ab ?_;exact aa (bG (eE (bA (aD (d:=.s (.bool _)) rfl hf))))
   |true=>
    have vy:decide (0<b)=false:=by simpa using hb
    refine cz ?_;(iterate 5 refine z fun _ _=>?_);refine ab ?_;(iterate 3 refine z fun _ _=>?_);refine ab ?_;(iterate 3 refine z fun _ _=>?_);refine ab ?_;(iterate 3 refine z fun _ _=>?_);refine ab ?_;(iterate 5 refine z fun _ _=>?_);refine ab ?_;(iterate 2 refine z fun _ _=>?_);refine ab ?_;exact aa (bG (eE (bA (aD (d:=.s (.bool _)) rfl hf))))
 have C:¬ x.op=19:=by simpa using C
 refine wL (ag ?_);have X:fH prog 111 true (cT (.int .u8 x.op) (qW mA))=.aM [.agg (jT ((iw mA x.op).getD Bd)),.s (.bool (iw mA x.op).isSome)]:=Ui rfl _ _ (by rw[MH];unfold mB;rw[NF,NG];rfl);have J:=Tp (P:=prog) (kt:=5) u5 mA;refine aY ?_;refine av (AM rfl rfl V.h X) ak ⟨V.h,by kernel_rfl,J⟩ ?_;refine SS ?_;refine av (rE (v:=.agg (jT _)) rfl rfl) ak (by first|decide|simp) ?_;refine ab ?_;refine bQ (fM (cs':=jT _) rfl rfl rfl rfl) ak (cw V.h V.h (by first|(simp;done)|exact⟨rfl,bJ rfl⟩|(simp;omega)) (by rfl)) ?_;refine SS ?_;refine er ?_;refine aY ?_;refine bc rfl rfl (fz (vs:=jT _) rfl rfl V.h V.h rfl) (fun hc=>⟨ak,(fA V.h V.h (by first|(simp;done)|omega|exact bJ rfl))⟩) ?_;refine gc Cj ?_;refine ab ?_;refine aa (aD (d:=.s (.bool _)) rfl ?_);simp[kB,h0,h1,h2,C]
def Vm(f:ai)(x:Argus.End)(s:St):Prop:=∃ cells n,aH prog s ⟨ax [(2,.pt (a7 P0 Q0 f)),(3,.pt (bC x)),(5,.rp 2 0),(6,B (eA f x).1)],up (fun _=>none) 2 (some (.cells cells 57)),n⟩/\cells.length=15/\∀ m,jK prog [2] m cells (bC (eA f x).2)
theorem vR{l:List Int}{r:Int}:rS l [r]=o7 l r:=by simp[rS]
theorem nA{f:ai}{x r:Argus.End}{env:Env}{m:Mem}{nx:Nat}{cells:List D}{ok:Bool}(hr:eA f x=(ok,r))(he:lN [(2,.pt (a7 P0 Q0 f)),(3,.pt (bC x)),(5,.rp 2 0),(6,B ok)] env)(hm:m 2=some (.cells cells 57))(hl:cells.length=15)
 (hs:∀ m,jK prog [2] m cells (bC r)):Vm f x ⟨env,m,nx⟩:=by
 refine⟨cells,nx,?_,hl,?_⟩
 .rw[hr];exact Sl he (acu hm)
 .rw[hr];exact hs
theorem IL{f:ai}{x:Argus.End}:aB prog 129 [se f,.agg (bC x)] (B (iW f x)):=by
 have bg:∀ a∈[se f,.agg (bC x)],Tr a:=.cons (kP mF mG f) (.cons (.agg (rO x)) .nil);have j8:= @j8 P0 Q0 f mF mG rfl rfl;have fk:= @fk P0 Q0 f mF mG rfl rfl;have iJ:= @iJ P0 Q0 f mF mG rfl rfl;have Cj:= @Cj P0 Q0 f mF mG rfl rfl;have tS:= @tS P0 Q0 f mF mG rfl rfl;refine bj aiu bg (Tr.s _) ?_;rw[aiv];refine aw ?_;refine ay ?_;refine aa (bH (dA [(0,a7 P0 Q0 f,113),(1,bC x,57)] eH (l:=[(2,.pt (a7 P0 Q0 f)),(3,.pt (bC x))]) eH) (ag ?_));refine ab ?_;refine bQ (fM (cs':=bC _) rfl rfl rfl rfl) ak (cw V.h V.h (by first|(simp;done)|exact⟨rfl,bJ rfl⟩|(simp;omega)) (by rfl)) ?_;refine SS ?_;refine er ?_;refine ab ?_;refine aa ?_;refine jf (Vm f x) (ag ?_) fun s hs=>?_
 .refine ab ?_;refine aa (qk (ag ?_));refine ab ?_;refine aa (aQ rfl (fun h=>?_) fun h=>?_)
  .have h:x.kind=1:=by simpa using h
   refine o0 ?_;refine ay ?_;refine cl j8 ?_;refine ay ?_;refine aa ?_;exact nA (r:={ x with kind:=0,to:=0 }) (by simp[eA,h,dv,ib,Bool.and_assoc,eu]) ⟨rfl,rfl,rfl,rfl,trivial⟩ rfl rfl (fun m=>by repeat' (first|exact trivial|exact cN (Tr.s _)|exact cN (di _)|exact cN (jz _)|exact amo|refine And.intro ?_ ?_))
  have h1:¬ x.kind=1:=by simpa using h
  clear h;refine ws ?_;refine ab ?_;refine aa (aQ rfl (fun h=>?_) fun h=>?_)
  .have h:x.kind=2:=by simpa using h
   refine o0 ?_;refine ay ?_;refine cl fk ?_;refine bw ?_;refine gc j8 ?_;refine bw ?_;refine gc j8 ?_;refine du ?_;refine aa ?_;exact nA (r:={ x with kind:=0,a:=0,to:=0,fY:=0 }) (by simp[eA,h,dv,ib,Bool.and_assoc,eu]) ⟨rfl,rfl,rfl,rfl,trivial⟩ rfl rfl (fun m=>by repeat' (first|exact trivial|exact cN (Tr.s _)|exact cN (di _)|exact cN (jz _)|exact amo|refine And.intro ?_ ?_))
  have h2:¬ x.kind=2:=by simpa using h
  clear h;refine ws ?_;refine ab ?_;refine aa (aQ rfl (fun h=>?_) fun h=>?_)
  .have h:x.kind=3:=by simpa using h
   refine ws ?_;refine cz ?_;refine er ?_;refine du ?_;refine ab ?_;refine aa (aQ rfl (fun hr=>?_) fun hr=>?_)
   .have hr:f.result≠0/\f.iter=false:=by simpa[bne,ib] using hr
    refine RX Z7 ?_;refine ay ?_;refine cl fk ?_;refine bw ?_;refine cq cx ?_;exact nA (r:={ x with kind:=0,a:=0 }) (by simp[eA,h,dv,ib,Bool.and_assoc,hr.1,hr.2]) ⟨rfl,rfl,rfl,rfl,trivial⟩ rfl rfl (fun m=>by repeat' (first|exact trivial|exact cN (Tr.s _)|exact cN (di _)|exact cN (jz _)|exact amo|refine And.intro ?_ ?_))
   .have hr:¬ (f.result≠0/\f.iter=false):=by simpa[bne,ib] using hr
    refine KE ?_;exact nA (r:={ x with kind:=0,a:=0 }) (by simp only[eA,h];simp only[if_neg hr];simp[dv,ib]) ⟨rfl,rfl,rfl,rfl,trivial⟩ rfl rfl (fun m=>by repeat' (first|exact trivial|exact cN (Tr.s _)|exact cN (di _)|exact cN (jz _)|exact amo|refine And.intro ?_ ?_))
  have h3:¬ x.kind=3:=by simpa using h
  clear h;refine ws ?_;refine ab ?_;refine aa (aQ rfl (fun h=>?_) fun h=>?_)
  .have h:x.kind=4:=by simpa using h
   refine o0 ?_;refine ab ?_;refine cl ES ?_;refine ay ?_;refine aa ?_;exact nA (r:={ x with kind:=0,name:=.empty }) (by simp[eA,h,dv,ib,Bool.and_assoc]) ⟨rfl,rfl,rfl,rfl,trivial⟩ rfl rfl (fun m=>by repeat' (first|exact trivial|exact cN (Tr.s _)|exact cN (di _)|exact cN (jz _)|exact amo|refine And.intro ?_ ?_))
  have h4:¬ x.kind=4:=by simpa using h
  clear h;refine ws ?_;refine ab ?_;refine aa (aQ rfl (fun h=>?_) fun h=>?_)
  .have h:x.kind=5:=by simpa using h
   refine ws ?_;have kg:fH prog 111 true (cT (.int .u8 x.ins.op) (qW lP))=.aM [.agg (jT ((iw lP x.ins.op).getD Bd)),.s (.bool (iw lP x.ins.op).isSome)]:=Ui rfl _ _ (by rw[MH];unfold mB;rw[NF,NG];rfl);have Jp:=Tp (P:=prog) (kt:=5) u5 lP;refine bw ?_;refine av (AM rfl rfl V.h kg) ak ⟨V.h,by kernel_rfl,Jp⟩ ?_;refine SS ?_;refine av (rE (v:=.agg (jT _)) rfl rfl) ak (by first|decide|simp) ?_;refine ab ?_;refine bQ (fM (cs':=jT _) rfl rfl rfl rfl) ak (cw V.h V.h (by first|(simp;done)|exact⟨rfl,bJ rfl⟩|(simp;omega)) (by rfl)) ?_;refine SS ?_;refine er ?_;refine bw ?_;refine bc rfl rfl (fz (vs:=jT _) rfl rfl V.h V.h rfl) (fun hc=>⟨ak,(fA V.h V.h (by first|(simp;done)|omega|exact bJ rfl))⟩) ?_;refine gc Cj ?_;refine bw ?_;refine gc j8 ?_;refine aY ?_;refine gc tS ?_;refine ab ?_;refine aa (o0 ?_);refine bh ?_;refine aa ?_;exact nA (r:={ x with kind:=0,ins:=o6,to:=0,aP:=[],others:= -1 }) (by simp[eA,h,dv,ib,Bool.and_assoc,eu]) ⟨rfl,rfl,rfl,rfl,trivial⟩ rfl rfl (fun m=>by repeat' (first|exact trivial|exact cN (Tr.s _)|exact cN (di _)|exact cN (jz _)|exact amo|refine And.intro ?_ ?_))
  have h5:¬ x.kind=5:=by simpa using h
  clear h;refine ws ?_;refine ab ?_;refine aa (aQ rfl (fun h=>?_) fun h=>?_)
  .have h:x.kind=6:=by simpa using h
   refine ws ?_;have sv:=sv (s:=x.name);have aiw:=iJ (l:=[x.a]);have iJ:=iJ (l:=x.args);have X:∀ {m:Mem},m 3=some (.cells [I x.a] 3)->jK prog [3] m [se f,.rs 3 0 1] [se f,aT [x.a]]:=fun hm=>⟨cN (kP mF mG f),BE hm oS (by rw[c3];rfl) (.cons (.s _) .nil),trivial⟩
   cases C:nU x.name with
   |false=>
    rw[C] at sv;refine ab ?_;refine cl sv ?_;refine du ?_;refine ab ?_;refine gc iJ ?_;refine bh ?_;(iterate 3 refine z fun _ _=>?_);refine bw ?_;refine gc j8 ?_;refine aY ?_;refine gc tS ?_;refine ab ?_;refine aa (o0 ?_);refine bh ?_;refine ay ?_;refine aa ?_;exact nA (r:={ x with kind:=0,name:=.empty,args:=[],a:=0,to:=0,aP:=[],others:= -1 }) (by simp[eA,h,dv,ib,Bool.and_assoc,eu,C]) ⟨rfl,rfl,rfl,rfl,trivial⟩ rfl rfl (fun m=>by repeat' (first|exact trivial|exact cN (Tr.s _)|exact cN (di _)|exact cN (jz _)|exact amo|refine And.intro ?_ ?_))
   |true=>
    rw[C] at sv;by_cases J:(x.args.length:Int)<=6
    rotate_left
    .have zu:decide ((x.args.length:Int)<=6)=false:=by simpa using J
     refine ab ?_;refine cl sv ?_;refine du ?_;refine ab ?_;refine gc iJ ?_;refine bh ?_;(iterate 3 refine z fun _ _=>?_);refine bw ?_;refine gc j8 ?_;refine aY ?_;refine gc tS ?_;refine ab ?_;refine aa (o0 ?_);refine bh ?_;refine ay ?_;refine aa ?_;exact nA (r:={ x with kind:=0,name:=.empty,args:=[],a:=0,to:=0,aP:=[],others:= -1 }) (by simp[eA,h,dv,ib,Bool.and_assoc,eu,C,J]) ⟨rfl,rfl,rfl,rfl,trivial⟩ rfl rfl (fun m=>by repeat' (first|exact trivial|exact cN (Tr.s _)|exact cN (di _)|exact cN (jz _)|exact amo|refine And.intro ?_ ?_))
    have zu:decide ((x.args.length:Int)<=6)=true:=by simpa using J
    cases M:rS f.aO x.args with
    |false=>
     rw[M] at iJ;refine ab ?_;refine cl sv ?_;refine du ?_;refine ab ?_;refine gc iJ ?_;refine bh ?_;(iterate 3 refine z fun _ _=>?_);refine bw ?_;refine gc j8 ?_;refine aY ?_;refine gc tS ?_;refine ab ?_;refine aa (o0 ?_);refine bh ?_;refine ay ?_;refine aa ?_;exact nA (r:={ x with kind:=0,name:=.empty,args:=[],a:=0,to:=0,aP:=[],others:= -1 }) (by simp[eA,h,dv,ib,Bool.and_assoc,eu,C,J,M]) ⟨rfl,rfl,rfl,rfl,trivial⟩ rfl rfl (fun m=>by repeat' (first|exact trivial|exact cN (Tr.s _)|exact cN (di _)|exact cN (jz _)|exact amo|refine And.intro ?_ ?_))
    |true=>
     rw[M] at iJ;by_cases U:x.a= -1
     .have oA:(x.a== -1)=true:=by simpa using U
      refine ab ?_;refine cl sv ?_;refine du ?_;refine ab ?_;refine gc iJ ?_;refine bh ?_;(iterate 2 refine z fun _ _=>?_);refine Wr ?_;refine bw ?_;refine gc j8 ?_;refine aY ?_;refine gc tS ?_;refine ab ?_;refine aa (o0 ?_);refine bh ?_;refine ay ?_;refine aa ?_;exact nA (r:={ x with kind:=0,name:=.empty,args:=[],a:=0,to:=0,aP:=[],others:= -1 }) (by simp[eA,h,dv,ib,Bool.and_assoc,eu,C,J,M,U]) ⟨rfl,rfl,rfl,rfl,trivial⟩ rfl rfl (fun m=>by repeat' (first|exact trivial|exact cN (Tr.s _)|exact cN (di _)|exact cN (jz _)|exact amo|refine And.intro ?_ ?_))
     .have oA:(x.a== -1)=false:=by simpa using U
      refine ab ?_;refine cl sv ?_;refine du ?_;refine ab ?_;refine gc iJ ?_;refine du ?_;refine ab ?_;refine tx aiw rfl rfl rfl rfl (X rfl) ak ?_;refine cz ?_;refine gc j8 ?_;refine aY ?_;refine gc tS ?_;refine ab ?_;refine aa (o0 ?_);refine bh ?_;refine ay ?_;refine aa ?_;exact nA (r:={ x with kind:=0,name:=.empty,args:=[],a:=0,to:=0,aP:=[],others:= -1 }) (by simp[eA,h,dv,ib,Bool.and_assoc,eu,C,J,M,U,vR]) ⟨rfl,rfl,rfl,rfl,trivial⟩ rfl rfl (fun m=>by repeat' (first|exact trivial|exact cN (Tr.s _)|exact cN (di _)|exact cN (jz _)|exact amo|refine And.intro ?_ ?_))
  have h6:¬ x.kind=6:=by simpa using h
  clear h;refine ws ?_;refine ab ?_;refine aa (aQ rfl (fun h=>?_) fun h=>?_)
  .have h:x.kind=7:=by simpa using h
   refine ws ?_;refine ab ?_;refine cl sv ?_;refine du ?_;refine ab ?_;refine gc iJ ?_;refine bw ?_;refine gc fk ?_;refine cz ?_;refine gc j8 ?_;refine ab ?_;refine aa (o0 ?_);refine du ?_;refine aa ?_;exact nA (r:={ x with kind:=0,name:=.empty,args:=[],a:=0,to:=0 }) (by simp[eA,h,dv,ib,Bool.and_assoc,eu]) ⟨rfl,rfl,rfl,rfl,trivial⟩ rfl rfl (fun m=>by repeat' (first|exact trivial|exact cN (Tr.s _)|exact cN (di _)|exact cN (jz _)|exact amo|refine And.intro ?_ ?_))
  have h7:¬ x.kind=7:=by simpa using h
  clear h;refine ws ?_;refine ab ?_;refine aa (aQ rfl (fun h=>?_) fun h=>?_)
  .have h:x.kind=8:=by simpa using h
   refine ws ?_;have iJ:=iJ (l:=[x.b]);have MG:∀ {m:Mem},m 3=some (.cells [I x.b] 3)->jK prog [3] m [se f,.rs 3 0 1] [se f,aT [x.b]]:=fun hm=>⟨cN (kP mF mG f),BE hm oS (by rw[c3];rfl) (.cons (.s _) .nil),trivial⟩
   by_cases C:dz f.aO x.a=3
   .have oA:(dz f.aO x.a==3)=true:=by simpa using C
    refine ay ?_;refine cl fk ?_;refine cz ?_;refine tx iJ rfl rfl rfl rfl (MG rfl) ak ?_;refine bw ?_;refine gc j8 ?_;refine bw ?_;refine gc j8 ?_;refine aY ?_;refine gc tS ?_;refine ab ?_;refine aa (o0 ?_);refine bh ?_;refine ay ?_;refine aa ?_;exact nA (r:={ x with kind:=0,a:=0,b:=0,to:=0,fY:=0,aP:=[],others:= -1 }) (by simp[eA,h,dv,ib,Bool.and_assoc,eu,C,vR]) ⟨rfl,rfl,rfl,rfl,trivial⟩ rfl rfl (fun m=>by repeat' (first|exact trivial|exact cN (Tr.s _)|exact cN (di _)|exact cN (jz _)|exact amo|refine And.intro ?_ ?_))
   .have oA:(dz f.aO x.a==3)=false:=by simpa using C
    refine ay ?_;refine cl fk ?_;refine bw ?_;(iterate 2 refine z fun _ _=>?_);refine bw ?_;refine gc j8 ?_;refine bw ?_;refine gc j8 ?_;refine aY ?_;refine gc tS ?_;refine ab ?_;refine aa (o0 ?_);refine bh ?_;refine ay ?_;refine aa ?_;exact nA (r:={ x with kind:=0,a:=0,b:=0,to:=0,fY:=0,aP:=[],others:= -1 }) (by simp[eA,h,dv,ib,Bool.and_assoc,eu,C]) ⟨rfl,rfl,rfl,rfl,trivial⟩ rfl rfl (fun m=>by repeat' (first|exact trivial|exact cN (Tr.s _)|exact cN (di _)|exact cN (jz _)|exact amo|refine And.intro ?_ ?_))
  have h8:¬ x.kind=8:=by simpa using h
  clear h;refine ws ?_;refine ab ?_;refine aa (aQ rfl (fun h=>?_) fun h=>?_)
  .have h:x.kind=9:=by simpa using h
   refine RX Z8 ?_;refine ik ?_;refine gc fk ?_;refine bh ?_;refine gc j8 ?_;refine cz ?_;refine cq cx ?_;exact nA (r:={ x with kind:=0,a:=0,to:=0 }) (by simp[eA,h,dv,ib,Bool.and_assoc,eu]) ⟨rfl,rfl,rfl,rfl,trivial⟩ rfl rfl (fun m=>by repeat' (first|exact trivial|exact cN (Tr.s _)|exact cN (di _)|exact cN (jz _)|exact amo|refine And.intro ?_ ?_))
  .have h9:¬ x.kind=9:=by simpa using h
   refine KE ?_;exact nA (r:={ x with kind:=0 }) (by simp[eA,h1,h2,h3,h4,h5,h6,h7,h8,h9]) ⟨rfl,rfl,rfl,rfl,trivial⟩ rfl rfl (fun m=>by repeat' (first|exact trivial|exact cN (Tr.s _)|exact cN (di _)|exact cN (jz _)|exact amo|refine And.intro ?_ ?_))
 .obtain⟨cells,n,hg,hl,hs⟩:=hs;refine⟨_,hg,ag ?_⟩;have gP:(cells.drop 0).take 15=cells:=by rw[List.drop_zero,dq oG]
  have NE:=NE (x:=(eA f x).2);have aix:∀ {m:Mem},m 2=m 2->jK prog [2] m [.agg ((cells.drop 0).take 15)] [.agg (bC (eA f x).2)]:=fun {m} _=>⟨afF (by rw[gP];exact hs m),trivial⟩
  have he:iW f x=((eA f x).1&&tG (eA f x).2):=rfl;generalize (eA f x).1=ok at he;cases ok with
  |true=>
   refine ay ?_;refine tx NE rfl rfl rfl rfl (aix rfl) ak ?_;refine ab ?_;refine aa (aD (d:=.s (.bool _)) rfl ?_);rw[he];simp
  |false=>
   refine ab ?_;(iterate 2 refine z fun _ _=>?_);refine ab ?_;refine aa (aD (d:=.s (.bool _)) rfl ?_);rw[he];simp
theorem vB{n:Int}(hn: -1000000<=n/\n<=1000000):aB prog 182 [I n] (I (nO n)):=by
 refine bj aiy (by simp[Tr.s]) (Tr.s _) ?_;rw[aiz];refine ws ?_;refine SS ?_;refine er ?_;refine ay ?_;exact aa (aD rfl rfl)
theorem B2{x:cv}:aB prog 235 [.agg (cg x)] (I (kO x)):=by
 have bg:∀ a∈[D.agg (cg x)],Tr a:=.cons (.agg (uI x)) .nil;refine bj aiA bg (Tr.s _) ?_;rw[aiB];refine aw ?_;refine ab ?_;refine aa (bH (dA [(0,cg x,54)] eH (l:=[(1,.pt (cg x))]) eH) (az (ag ?_)));refine ab ?_;refine aa (yn ?_);refine jf (fun s=>aH prog s ⟨ax [(1,.pt (cg x)),(4,U8 x.op),(5,B (bO uE x.op))],fun _=>none,1⟩) (ag ?_) fun s hg=>⟨_,hg,?_⟩
 .refine ab ?_;refine aa (aQ rfl (fun h=>cO ?_) fun e1=>ag ?_)
  .have h:x.op=1:=by simpa using h
   refine au ⟨rfl,rfl,?_,trivial⟩;show D.s (.bool (x.op==1))=_;rw[h];rfl
  refine ab ?_;refine aa (aQ rfl (fun h=>cO ?_) fun e2=>ag ?_)
  .have h:x.op=2:=by simpa using h
   refine au ⟨rfl,rfl,?_,trivial⟩;show D.s (.bool (x.op==2))=_;rw[h];rfl
  refine ab ?_;refine aa (aQ rfl (fun h=>cO ?_) fun e3=>ag ?_)
  .have h:x.op=3:=by simpa using h
   refine au ⟨rfl,rfl,?_,trivial⟩;show D.s (.bool (x.op==3))=_;rw[h];rfl
  refine ab ?_;refine aa (aQ rfl (fun h=>cO ?_) fun e4=>ag ?_)
  .have h:x.op=4:=by simpa using h
   refine au ⟨rfl,rfl,?_,trivial⟩;show D.s (.bool (x.op==4))=_;rw[h];rfl
  refine ab ?_;refine aa (aQ rfl (fun h=>cO ?_) fun e5=>ag ?_)
  .have h:x.op=5:=by simpa using h
   refine au ⟨rfl,rfl,?_,trivial⟩;show D.s (.bool (x.op==5))=_;rw[h];rfl
  refine ab ?_;refine aa (aQ rfl (fun h=>cO ?_) fun e6=>ag ?_)
  .have h:x.op=6:=by simpa using h
   refine au ⟨rfl,rfl,?_,trivial⟩;show D.s (.bool (x.op==6))=_;rw[h];rfl
  refine ab ?_;refine aa (aQ rfl (fun h=>cO ?_) fun e7=>ag ?_)
  .have h:x.op=7:=by simpa using h
   refine au ⟨rfl,rfl,?_,trivial⟩;show D.s (.bool (x.op==7))=_;rw[h];rfl
  refine ab ?_;refine aa (aQ rfl (fun h=>cO ?_) fun e8=>ag ?_)
  .have h:x.op=8:=by simpa using h
   refine au ⟨rfl,rfl,?_,trivial⟩;show D.s (.bool (x.op==8))=_;rw[h];rfl
  refine ab ?_;refine aa (aQ rfl (fun h=>cO ?_) fun e9=>ag ?_)
  .have h:x.op=9:=by simpa using h
   refine au ⟨rfl,rfl,?_,trivial⟩;show D.s (.bool (x.op==9))=_;rw[h];rfl
  refine ab ?_;refine aa (aQ rfl (fun h=>cO ?_) fun XV=>ag ?_)
  .have h:x.op=10:=by simpa using h
   refine au ⟨rfl,rfl,?_,trivial⟩;show D.s (.bool (x.op==10))=_;rw[h];rfl
  refine ab ?_;refine aa (aQ rfl (fun h=>cO ?_) fun J=>ag ?_)
  .have h:x.op=11:=by simpa using h
   refine au ⟨rfl,rfl,?_,trivial⟩;show D.s (.bool (x.op==11))=_;rw[h];rfl
  refine ab ?_;refine aa (aQ rfl (fun h=>cO ?_) fun M=>ag ?_)
  .have h:x.op=13:=by simpa using h
   refine au ⟨rfl,rfl,?_,trivial⟩;show D.s (.bool (x.op==13))=_;rw[h];rfl
  refine ab ?_;refine aa (aQ rfl (fun h=>cO ?_) fun U=>ag ?_)
  .have h:x.op=14:=by simpa using h
   refine au ⟨rfl,rfl,?_,trivial⟩;show D.s (.bool (x.op==14))=_;rw[h];rfl
  refine ab ?_;refine aa (aQ rfl (fun h=>cO ?_) fun Pf=>tw ?_)
  .have h:x.op=17:=by simpa using h
   refine au ⟨rfl,rfl,?_,trivial⟩;show D.s (.bool (x.op==17))=_;rw[h];rfl
  refine ab ?_;refine aa ?_;refine au ⟨rfl,rfl,?_,trivial⟩;show D.s (.bool (x.op==19))=_;simp[bO,uE,e1,e2,e3,e4,e5,e6,e7,e8,e9,XV,J,M,U,Pf]
 refine aQ rfl (fun h1=>?_) fun h1=>?_
 .refine ws ?_;refine ay ?_;refine aa (bG (eE (bA (aD (d:=I x.to) rfl ?_))));simp[kO,h1]
 refine jf (fun s=>aH prog s ⟨ax [(1,.pt (cg x)),(4,U8 x.op),(23,B (bO yv x.op))],fun _=>none,1⟩) (ag ?_) fun s hg=>⟨_,hg,?_⟩
 .refine ab ?_;refine aa (aQ rfl (fun h=>cO ?_) fun X=>ag ?_)
  .have h:x.op=30:=by simpa using h
   refine au ⟨rfl,rfl,?_,trivial⟩;show D.s (.bool (x.op==30))=_;rw[h];rfl
  refine ab ?_;refine aa (aQ rfl (fun h=>cO ?_) fun Ph=>ag ?_)
  .have h:x.op=31:=by simpa using h
   refine au ⟨rfl,rfl,?_,trivial⟩;show D.s (.bool (x.op==31))=_;rw[h];rfl
  refine ab ?_;refine aa (aQ rfl (fun h=>cO ?_) fun Pj=>ag ?_)
  .have h:x.op=32:=by simpa using h
   refine au ⟨rfl,rfl,?_,trivial⟩;show D.s (.bool (x.op==32))=_;rw[h];rfl
  refine ab ?_;refine aa (aQ rfl (fun h=>cO ?_) fun Pk=>ag ?_)
  .have h:x.op=33:=by simpa using h
   refine au ⟨rfl,rfl,?_,trivial⟩;show D.s (.bool (x.op==33))=_;rw[h];rfl
  refine ab ?_;refine aa (aQ rfl (fun h=>cO ?_) fun sM=>ag ?_)
  .have h:x.op=34:=by simpa using h
   refine au ⟨rfl,rfl,?_,trivial⟩;show D.s (.bool (x.op==34))=_;rw[h];rfl
  refine ab ?_;refine aa (aQ rfl (fun h=>cO ?_) fun C=>tw ?_)
  .have h:x.op=36:=by simpa using h
   refine au ⟨rfl,rfl,?_,trivial⟩;show D.s (.bool (x.op==36))=_;rw[h];rfl
  refine ab ?_;refine aa ?_;refine au ⟨rfl,rfl,?_,trivial⟩;show D.s (.bool (x.op==37))=_;simp[bO,yv,X,Ph,Pj,Pk,sM,C]
 refine aQ rfl (fun h2=>?_) fun h2=>?_
 .refine ws ?_;refine ay ?_;refine aa (bG (eE (bA (aD (d:=I x.to) rfl ?_))));simp[kO,h2]
 refine wL (ag ?_);refine SS ?_;refine aa (aD (d:=I (-1)) rfl ?_);simp[kO,h1,h2]
theorem Nx{x:Argus.End}:aB prog 186 [.agg (bC x)] (I (ku x)):=by
 have J:∀ a∈[D.agg (bC x)],Tr a:=.cons (.agg (rO x)) .nil;have B2:=B2 (x:=x.ins);refine bj aiC J (Tr.s _) ?_;rw[aiD];refine aw ?_;refine ab ?_;refine aa (bH (dA [(0,bC x,57)] eH (l:=[(1,.pt (bC x))]) eH) (az (ag ?_)));refine ab ?_;refine aa (yn (ag ?_));refine ab ?_;refine aa (aQ rfl (fun h1=>?_) fun h1=>?_)
 .have h1:x.kind=5:=by simpa using h1
  refine ws ?_;refine ab ?_;refine cl B2 ?_;refine SS ?_;refine aa (bG (eE (bA (aD (d:=I (kO x.ins)) rfl ?_))));simp[ku,h1]
 have h1:¬ x.kind=5:=by simpa using h1
 refine jf (fun s=>aH prog s ⟨ax [(1,.pt (bC x)),(4,U8 x.kind),(10,B (bO [6,7] x.kind))],fun _=>none,1⟩) (ag ?_) fun s hg=>⟨_,hg,?_⟩
 .refine ab ?_;refine aa (aQ rfl (fun h=>cO ?_) fun e6=>tw ?_)
  .have h:x.kind=6:=by simpa using h
   refine au ⟨rfl,rfl,?_,trivial⟩;show D.s (.bool (x.kind==6))=_;rw[h];rfl
  refine ab ?_;refine aa ?_;refine au ⟨rfl,rfl,?_,trivial⟩;show D.s (.bool (x.kind==7))=_;simp[bO,e6]
 refine aQ rfl (fun h2=>?_) fun h2=>?_
 .refine ws ?_;refine ay ?_;refine aa (bG (eE (bA (aD (d:=I x.a) rfl ?_))));simp[ku,h1,h2]
 refine ws ?_;refine ab ?_;refine aa (aQ rfl (fun C=>?_) fun C=>?_)
 .have C:x.kind=8:=by simpa using C
  refine ws ?_;refine ay ?_;refine aa (bG (eE (bA (aD (d:=I x.b) rfl ?_))));simp[ku,h2,C];simp[bO]
 have C:¬ x.kind=8:=by simpa using C
 refine wL (ag ?_);refine SS ?_;refine aa (aD (d:=I (-1)) rfl ?_);simp[ku,h1,h2,C]
theorem sN{l:List Int}(hl:l.length<=100000):aB prog 93 [aT l] (aT l):=by
 have J:∀ a∈[aT l],Tr a:=.cons (di _) .nil;refine bj ame J (di _) ?_;rw[amf];have M:(l.map I).take (l.length*1)=l.map I:=dq oS
 have last:AW prog c8 true (.seq (.region 3 (Z yQ 3) false) .ret) (iD prog [.tmp 2] fun d x=>d=aT l) ⟨ax [(0,aT l)],fun _=>none,0⟩:=by
  refine aw ?_;refine ab ?_;refine jI (jB rfl rfl rfl V.h V.h (rI M) rfl) ak ⟨V.h,rfl,(by first|omega|exact bJ rfl|(simp;done)|(simp;omega)),oC,(by first|rfl|(simp;done)|(simp;omega)),(by unfold maxLen;first|omega|(simp;omega)),(by rw[b3];first|omega|(simp;omega)),(by first|(simp;done)|(simp;omega))⟩ ?_;refine SS ?_;refine aa (bH (dA [(1,l.map I,3)] eH (l:=[(2,aT l)]) ⟨?_,trivial⟩) (aD rfl rfl));show Cv _ [(1,l.map I,3)] (.rs 1 0 (0+l.length))=.sl (l.map I) l.length;rw[Nat.zero_add];exact xc c3 (dq oS)
 refine ws ?_;refine SS ?_;refine aa ?_;refine jf (fun s=>aH prog s ⟨ax [(0,aT l)],fun _=>none,0⟩) (ag ?_) fun s hg=>⟨_,hg,last⟩
 cases l with
 |nil=>
  refine SS ?_;refine av (HE rfl) ak V.h ?_;refine aa (Tb rfl (aw ?_) (cO (au eH)));refine SS ?_;exact aa (bH (yq (n0:=2) rfl) (bG (bA (aD rfl rfl))))
 |cons a l=>
  have C:(a::l).length≠0:=by simp
  refine SS ?_;refine av (HF rfl C) ak V.h ?_;exact aa (aQ rfl (fun h=>oH) fun h=>cO (au eH))
theorem Cf{x:cv}(hx:x.op=10\/x.op=38->x.args.length<=1000):aB prog 181 [.agg (cg x)] (aT (ei x)):=by
 have bg:∀ a∈[D.agg (cg x)],Tr a:=.cons (.agg (uI x)) .nil;refine bj aiE bg (di _) ?_;rw[aiF];refine aw ?_;refine ab ?_;refine aa (bH (dA [(0,cg x,54)] eH (l:=[(1,.pt (cg x))]) eH) (az (ag ?_)));refine ab ?_;refine aa (yn ?_);refine jf (fun s=>aH prog s ⟨ax [(1,.pt (cg x)),(4,U8 x.op),(5,B (bO uN x.op))],fun _=>none,1⟩) (ag ?_) fun s hg=>⟨_,hg,?_⟩
 .refine ab ?_;refine aa (aQ rfl (fun h=>cO ?_) fun e2=>ag ?_)
  .have h:x.op=2:=by simpa using h
   refine au ⟨rfl,rfl,?_,trivial⟩;show D.s (.bool (x.op==2))=_;rw[h];rfl
  refine ab ?_;refine aa (aQ rfl (fun h=>cO ?_) fun e8=>ag ?_)
  .have h:x.op=8:=by simpa using h
   refine au ⟨rfl,rfl,?_,trivial⟩;show D.s (.bool (x.op==8))=_;rw[h];rfl
  refine ab ?_;refine aa (aQ rfl (fun h=>cO ?_) fun Pc=>ag ?_)
  .have h:x.op=11:=by simpa using h
   refine au ⟨rfl,rfl,?_,trivial⟩;show D.s (.bool (x.op==11))=_;rw[h];rfl
  refine ab ?_;refine aa (aQ rfl (fun h=>cO ?_) fun Pd=>ag ?_)
  .have h:x.op=13:=by simpa using h
   refine au ⟨rfl,rfl,?_,trivial⟩;show D.s (.bool (x.op==13))=_;rw[h];rfl
  refine ab ?_;refine aa (aQ rfl (fun h=>cO ?_) fun Pe=>ag ?_)
  .have h:x.op=14:=by simpa using h
   refine au ⟨rfl,rfl,?_,trivial⟩;show D.s (.bool (x.op==14))=_;rw[h];rfl
  refine ab ?_;refine aa (aQ rfl (fun h=>cO ?_) fun Pm=>ag ?_)
  .have h:x.op=15:=by simpa using h
   refine au ⟨rfl,rfl,?_,trivial⟩;show D.s (.bool (x.op==15))=_;rw[h];rfl
  refine ab ?_;refine aa (aQ rfl (fun h=>cO ?_) fun Pn=>ag ?_)
  .have h:x.op=16:=by simpa using h
   refine au ⟨rfl,rfl,?_,trivial⟩;show D.s (.bool (x.op==16))=_;rw[h];rfl
  refine ab ?_;refine aa (aQ rfl (fun h=>cO ?_) fun U=>tw ?_)
  .have h:x.op=18:=by simpa using h
   refine au ⟨rfl,rfl,?_,trivial⟩;show D.s (.bool (x.op==18))=_;rw[h];rfl
  refine ab ?_;refine aa ?_;refine au ⟨rfl,rfl,?_,trivial⟩;show D.s (.bool (x.op==36))=_;simp[bO,uN,e2,e8,Pc,Pd,Pe,Pm,Pn,U]
 refine aQ rfl (fun h1=>?_) fun h1=>?_
 .refine aw ?_;refine aY ?_;refine aa (bH (dA [(1,([x.a]).map I,3)] eH (l:=[(2,aT ([x.a]))]) ⟨xc c3 rfl,trivial⟩) (bG (eE (bA (aD (d:=aT ([x.a])) rfl ?_)))));exact congrArg aT (by unfold ei;rw[if_pos h1])
 refine jf (fun s=>aH prog s ⟨ax [(1,.pt (cg x)),(4,U8 x.op),(18,B (bO yC x.op))],fun _=>none,1⟩) (ag ?_) fun s hg=>⟨_,hg,?_⟩
 .refine ab ?_;refine aa (aQ rfl (fun h=>cO ?_) fun e3=>ag ?_)
  .have h:x.op=3:=by simpa using h
   refine au ⟨rfl,rfl,?_,trivial⟩;show D.s (.bool (x.op==3))=_;rw[h];rfl
  refine ab ?_;refine aa (aQ rfl (fun h=>cO ?_) fun e4=>ag ?_)
  .have h:x.op=4:=by simpa using h
   refine au ⟨rfl,rfl,?_,trivial⟩;show D.s (.bool (x.op==4))=_;rw[h];rfl
  refine ab ?_;refine aa (aQ rfl (fun h=>cO ?_) fun e5=>ag ?_)
  .have h:x.op=5:=by simpa using h
   refine au ⟨rfl,rfl,?_,trivial⟩;show D.s (.bool (x.op==5))=_;rw[h];rfl
  refine ab ?_;refine aa (aQ rfl (fun h=>cO ?_) fun e6=>ag ?_)
  .have h:x.op=6:=by simpa using h
   refine au ⟨rfl,rfl,?_,trivial⟩;show D.s (.bool (x.op==6))=_;rw[h];rfl
  refine ab ?_;refine aa (aQ rfl (fun h=>cO ?_) fun e7=>ag ?_)
  .have h:x.op=7:=by simpa using h
   refine au ⟨rfl,rfl,?_,trivial⟩;show D.s (.bool (x.op==7))=_;rw[h];rfl
  refine ab ?_;refine aa (aQ rfl (fun h=>cO ?_) fun M=>ag ?_)
  .have h:x.op=12:=by simpa using h
   refine au ⟨rfl,rfl,?_,trivial⟩;show D.s (.bool (x.op==12))=_;rw[h];rfl
  refine ab ?_;refine aa (aQ rfl (fun h=>cO ?_) fun Pg=>ag ?_)
  .have h:x.op=30:=by simpa using h
   refine au ⟨rfl,rfl,?_,trivial⟩;show D.s (.bool (x.op==30))=_;rw[h];rfl
  refine ab ?_;refine aa (aQ rfl (fun h=>cO ?_) fun Ph=>ag ?_)
  .have h:x.op=31:=by simpa using h
   refine au ⟨rfl,rfl,?_,trivial⟩;show D.s (.bool (x.op==31))=_;rw[h];rfl
  refine ab ?_;refine aa (aQ rfl (fun h=>cO ?_) fun Pj=>ag ?_)
  .have h:x.op=32:=by simpa using h
   refine au ⟨rfl,rfl,?_,trivial⟩;show D.s (.bool (x.op==32))=_;rw[h];rfl
  refine ab ?_;refine aa (aQ rfl (fun h=>cO ?_) fun Pk=>ag ?_)
  .have h:x.op=33:=by simpa using h
   refine au ⟨rfl,rfl,?_,trivial⟩;show D.s (.bool (x.op==33))=_;rw[h];rfl
  refine ab ?_;refine aa (aQ rfl (fun h=>cO ?_) fun sM=>ag ?_)
  .have h:x.op=34:=by simpa using h
   refine au ⟨rfl,rfl,?_,trivial⟩;show D.s (.bool (x.op==34))=_;rw[h];rfl
  refine ab ?_;refine aa (aQ rfl (fun h=>cO ?_) fun X=>tw ?_)
  .have h:x.op=35:=by simpa using h
   refine au ⟨rfl,rfl,?_,trivial⟩;show D.s (.bool (x.op==35))=_;rw[h];rfl
  refine ab ?_;refine aa ?_;refine au ⟨rfl,rfl,?_,trivial⟩;show D.s (.bool (x.op==37))=_;simp[bO,yC,e3,e4,e5,e6,e7,M,Pg,Ph,Pj,Pk,sM,X]
 refine aQ rfl (fun h2=>?_) fun h2=>?_
 .refine aw ?_;refine cz ?_;refine aa (bH (dA [(1,([x.a,x.b]).map I,3)] eH (l:=[(2,aT ([x.a,x.b]))]) ⟨xc c3 rfl,trivial⟩) (bG (eE (bA (aD (d:=aT ([x.a,x.b])) rfl ?_)))));exact congrArg aT (by unfold ei;rw[if_neg (by simp[h1]),if_pos h2])
 refine ws ?_;refine ab ?_;refine aa (aQ rfl (fun C=>?_) fun C=>?_)
 .have C:x.op=10:=by simpa using C
  have sN:=sN (l:=x.args) (by have:=hx (.inl C);omega);refine ws ?_;refine ab ?_;refine cl sN ?_;refine SS ?_;refine aa (bG (eE (bA (aD (d:=aT x.args) rfl ?_))));exact congrArg aT (by unfold ei;rw[if_neg (by simp[h1]),if_neg (by simp[h2]),if_pos C])
 have C:¬ x.op=10:=by simpa using C
 refine ws ?_;refine ab ?_;refine aa (aQ rfl (fun J=>?_) fun J=>?_)
 .have J:x.op=38:=by simpa using J
  have hl:=hx (.inr J);have jo:(x.args.map I).take (x.args.length*1)=x.args.map I:=dq oS;refine aw ?_;refine ik ?_;refine jI (jB rfl rfl rfl V.h V.h (rI jo) rfl) ak ⟨V.h,rfl,(by first|omega|exact bJ rfl|(simp;done)|(simp;omega)),oC,(by first|rfl|(simp;done)|(simp;omega)),(by unfold maxLen;first|omega|(simp;omega)),(by rw[b3];first|omega|(simp;omega)),(by first|(simp;done)|(simp;omega))⟩ ?_;refine SS ?_;refine aa (bH (dA [(2,(x.a::x.b::x.args).map I,3)] eH (l:=[(2,aT (x.a::x.b::x.args))]) ⟨?_,trivial⟩) (bG (eE (bA (aD (d:=aT (x.a::x.b::x.args)) rfl ?_)))))
  .show Cv _ [(2,_,3)] (.rs 2 0 (2+x.args.length))=_;refine(xc c3 (es:=(x.a::x.b::x.args).map I) (dq oP)).trans ?_;rw[Nat.add_comm];rfl
  .exact congrArg aT (by unfold ei;rw[if_neg (by simp[h1]),if_neg (by simp[h2]),if_neg C,if_pos J])
 have J:¬ x.op=38:=by simpa using J
 refine wL (aw ?_);refine SS ?_;refine aa (bH (yq (n0:=2) rfl) (aD (d:=aT []) rfl ?_));exact congrArg aT (by unfold ei;rw[if_neg (by simp[h1]),if_neg (by simp[h2]),if_neg C,if_neg J])
theorem Ny{x:Argus.End}(hx:x.kind=5->x.ins.op=10\/x.ins.op=38->x.ins.args.length<=1000)(hy:x.kind=6\/x.kind=7->x.args.length<=1000):aB prog 184 [.agg (bC x)] (aT (dX x)):=by
 have M:∀ a∈[D.agg (bC x)],Tr a:=.cons (.agg (rO x)) .nil;refine bj aiG M (di _) ?_;rw[aiH];refine aw ?_;refine ab ?_;refine aa (bH (dA [(0,bC x,57)] eH (l:=[(1,.pt (bC x))]) eH) (az (ag ?_)));refine ab ?_;refine aa (yn ?_);refine jf (fun s=>aH prog s ⟨ax [(1,.pt (bC x)),(4,U8 x.kind),(5,B (bO [2,8,9] x.kind))],fun _=>none,1⟩) (ag ?_) fun s hg=>⟨_,hg,?_⟩
 .refine ab ?_;refine aa (aQ rfl (fun h=>cO ?_) fun e2=>ag ?_)
  .have h:x.kind=2:=by simpa using h
   refine au ⟨rfl,rfl,?_,trivial⟩;show D.s (.bool (x.kind==2))=_;rw[h];rfl
  refine ab ?_;refine aa (aQ rfl (fun h=>cO ?_) fun e8=>tw ?_)
  .have h:x.kind=8:=by simpa using h
   refine au ⟨rfl,rfl,?_,trivial⟩;show D.s (.bool (x.kind==8))=_;rw[h];rfl
  refine ab ?_;refine aa ?_;refine au ⟨rfl,rfl,?_,trivial⟩;show D.s (.bool (x.kind==9))=_;simp[bO,e2,e8]
 refine aQ rfl (fun h1=>?_) fun h1=>?_
 .refine aw ?_;refine aY ?_;refine aa (bH (dA [(1,([x.a]).map I,3)] eH (l:=[(2,aT ([x.a]))]) ⟨xc c3 rfl,trivial⟩) (bG (eE (bA (aD (d:=aT ([x.a])) rfl ?_)))));exact congrArg aT (by unfold dX;rw[if_pos h1])
 refine ws ?_;refine ab ?_;refine aa (aQ rfl (fun h2=>?_) fun h2=>?_)
 .have h2:x.kind=3:=by simpa using h2
  refine ws ?_;refine ay ?_;refine aa (aQ rfl (fun C=>?_) fun C=>?_)
  .have C:¬ x.a= -1:=by simpa[bne,ib] using C
   refine aw ?_;refine aY ?_;refine aa (bH (dA [(1,([x.a]).map I,3)] eH (l:=[(2,aT ([x.a]))]) ⟨xc c3 rfl,trivial⟩) (bG (eE (bA (aD (d:=aT ([x.a])) rfl ?_)))));exact congrArg aT (by unfold dX;rw[if_neg (by simp[h1]),if_pos h2,if_pos C])
  .have C:x.a= -1:=by simpa[bne,ib] using C
   refine wL (aw ?_);refine SS ?_;refine aa (bH (yq (n0:=2) rfl) (aD (d:=aT []) rfl ?_));exact congrArg aT (by unfold dX;rw[if_neg (by simp[h1]),if_pos h2,if_neg (by simp[C])])
 have h2:¬ x.kind=3:=by simpa using h2
 refine ws ?_;refine ab ?_;refine aa (aQ rfl (fun C=>?_) fun C=>?_)
 .have C:x.kind=5:=by simpa using C
  have Cf:=Cf (x:=x.ins) (hx C);refine ws ?_;refine ab ?_;refine cl Cf ?_;refine SS ?_;refine aa (bG (eE (bA (aD (d:=aT (ei x.ins)) rfl ?_))));exact congrArg aT (by unfold dX;rw[if_neg (by simp[h1]),if_neg h2,if_pos C])
 have C:¬ x.kind=5:=by simpa using C
 refine jf (fun s=>aH prog s ⟨ax [(1,.pt (bC x)),(4,U8 x.kind),(25,B (bO [6,7] x.kind))],fun _=>none,1⟩) (ag ?_) fun s hg=>⟨_,hg,?_⟩
 .refine ab ?_;refine aa (aQ rfl (fun h=>cO ?_) fun e6=>tw ?_)
  .have h:x.kind=6:=by simpa using h
   refine au ⟨rfl,rfl,?_,trivial⟩;show D.s (.bool (x.kind==6))=_;rw[h];rfl
  refine ab ?_;refine aa ?_;refine au ⟨rfl,rfl,?_,trivial⟩;show D.s (.bool (x.kind==7))=_;simp[bO,e6]
 refine aQ rfl (fun J=>?_) fun J=>?_
 .have U:x.kind=6\/x.kind=7:=by simpa[bO] using J
  have sN:=sN (l:=x.args) (by have:=hy U;omega);refine ws ?_;refine ab ?_;refine cl sN ?_;refine SS ?_;refine aa (bG (eE (bA (aD (d:=aT x.args) rfl ?_))));exact congrArg aT (by unfold dX;rw[if_neg (by simp[h1]),if_neg h2,if_neg C,if_pos J])
 refine wL (aw ?_);refine SS ?_;refine aa (bH (yq (n0:=2) rfl) (aD (d:=aT []) rfl ?_));exact congrArg aT (by unfold dX;rw[if_neg (by simp[h1]),if_neg h2,if_neg C,if_neg (by simp[J])])
end Go.Proofs.Tryz.K
end
namespace Go.Abs
instance(d:D):Decidable d.ask:=match d with
 | .cB c _=>inferInstanceAs (Decidable (c=true))
 | .u | .s _ | .ub | .agg _ | .aM _ | .z | .sl _ _ | .sc _ _ | .pt _ | .rs _ _ _ | .rp _ _ | .mp _ | .im _ | .fn _ _ _=>isTrue trivial
structure fj where
 pre:Prop
 [dec:Decidable pre]
 val:D
 aU:List (Nat×Option Row):=[]
 rd:List Nat:=[]
 new:Nat:=0
structure PD(α:Type) where
 p:Prop
 [dec:Decidable p]
 d:α
def fj.jd(e:fj):dy:=⟨e.pre,e.val,e.aU,e.rd,e.new⟩
def H6(op:BinOp)(x y:Value):Option (PD Value):=
 match op,x,y with
 | .shl,.int k a,.int _ b=>some ⟨0<=b,.int k (k.wrap (a*2 ^ (min b.toNat k.bits)))⟩
 | .shr,.int k a,.int _ b=>some ⟨0<=b,.int k (a.fdiv (2 ^ (min b.toNat k.bits)))⟩
 | .add,.int k a,.int k' b=>some ⟨k=k',.int k (k.wrap (a+b))⟩
 | .sub,.int k a,.int k' b=>some ⟨k=k',.int k (k.wrap (a - b))⟩
 | .mul,.int k a,.int k' b=>some ⟨k=k',.int k (k.wrap (a*b))⟩
 | .quo,.int k a,.int k' b=>some ⟨k=k'/\b≠0,.int k (k.wrap (a.tdiv b))⟩
 | .rem,.int k a,.int k' b=>some ⟨k=k'/\b≠0,.int k (a.tmod b)⟩
 | .and,.int k a,.int k' b=>some ⟨k=k',.int k (mj .and k a b)⟩
 | .or,.int k a,.int k' b=>some ⟨k=k',.int k (mj .or k a b)⟩
 | .xor,.int k a,.int k' b=>some ⟨k=k',.int k (mj .xor k a b)⟩
 | .andNot,.int k a,.int k' b=>some ⟨k=k',.int k (mj .andNot k a b)⟩
 | .eql,.int k a,.int k' b=>some ⟨k=k',.bool (a==b)⟩
 | .neq,.int k a,.int k' b=>some ⟨k=k',.bool (a !=b)⟩
 | .lss,.int k a,.int k' b=>some ⟨k=k',.bool (decide (a<b))⟩
 | .leq,.int k a,.int k' b=>some ⟨k=k',.bool (decide (a<=b))⟩
 | .gtr,.int k a,.int k' b=>some ⟨k=k',.bool (decide (b<a))⟩
 | .geq,.int k a,.int k' b=>some ⟨k=k',.bool (decide (b<=a))⟩
 | .eql,.string a,.string b=>some ⟨True,.bool (a.toList==b.toList)⟩
 | .neq,.string a,.string b=>some ⟨True,.bool !(a.toList==b.toList)⟩
 | .lss,.string a,.string b=>some ⟨True,.bool (Op.bytesLess a.toList b.toList)⟩
 | .geq,.string a,.string b=>some ⟨True,.bool !(Op.bytesLess a.toList b.toList)⟩
 |_,_,_=>none
def K6(P:Program)(op:BinOp)(t:TypeId)(xs ys:List D):Option (PD D):=
 match op,vd P t,oq xs ys with
 | .eql,some ks,some q=>some ⟨q.1.map jZ=ks/\P.eqGuardType P.depth t=false,.s (.bool (gn q.1 q.2))⟩
 | .neq,some ks,some q=>some ⟨q.1.map jZ=ks/\P.eqGuardType P.depth t=false,.s (.bool !(gn q.1 q.2))⟩
 |_,_,_=>none
def Mi(P:Program)(op:BinOp)(t:TypeId)(x y:D):Option (PD D):=
 match x,y with
 | .s (.bool a),.s (.bool b)=>match op with
  | .eql=>some ⟨tV P t=true,.s (.bool (a==b))⟩
  | .neq=>some ⟨tV P t=true,.s (.bool !(a==b))⟩
  |_=>none
 | .s a,.s b=>(H6 op a b).map fun r=> @PD.mk _ r.p r.dec (.s r.d)
 | .agg xs,.agg ys=>K6 P op t xs ys
 |_,_=>none
def H7(P:Program)(m:Mem)(op:BinOp)(t:TypeId)(x:D)(y:Operand):Option fj:=
 match y,op,x with
 | .const (.slice none 0 0),.eql,.sl _ n=>some { pre:=bi P t=true,val:=if n=0 then .ub else .s (.bool false) }
 | .const (.pointer none),.eql,.rp i _=>match m i with
  |some _=>some { pre:=xF P t=true,val:=.s (.bool false),rd:=[i] }
  |none=>none
 | .const (.pointer none),.neq,.rp i _=>match m i with
  |some _=>some { pre:=xF P t=true,val:=.s (.bool true),rd:=[i] }
  |none=>none
 |_,_,_=>none
def Mj(P:Program)(m:Mem)(t:TypeId):D->Option fj
 | .sl _ n=>some { pre:=bi P t=true,val:=.s (.int .i64 n) }
 | .rs i _ n=>match m i with
  |some _=>some { pre:=bi P t=true,val:=.s (.int .i64 n),rd:=[i] }
  |none=>none
 | .z=>some { pre:=bi P t=true,val:=.s (.int .i64 0) }
 | .s (.string b)=>some { pre:=fW P t=true,val:=.s (.int .i64 b.size) }
 | .agg _=>some { pre:=oI P t=true,val:=.s (.int .i64 (pi P t)) }
 |_=>none
def FV(m:Mem)(sz:Nat):D->Option (PD (List Nat×Nat×List D))
 | .sl es n=>some ⟨n*sz<=es.length,([],n,es.take (n*sz))⟩
 | .z=>some ⟨True,([],0,[])⟩
 | .rs i off n=>match m i with
  |some (.cells cs _)=>some ⟨off+n*sz<=cs.length,([i],n,(cs.drop off).take (n*sz))⟩
  |_=>none
 |_=>none
def Kz(P:Program)(m:Mem)(nx:Nat)(t:TypeId)(s x:D):Option fj:=
 let e:=aF P t
 let sz:=P.cellsOf e
 match FV m sz x with
 |none=>none
 |some (@PD.mk _ p _ (rd,k,news))=>
  match s with
  | .z=>some { pre:=bi P t=true/\p/\0<sz/\k<=maxLen/\k*P.bytesOf e<=140737488355328,val:=.rs nx 0 k,aU:=[(nx,some (.cells news e))],rd:=rd,new:=1 }
  | .rs i off n=>match m i with
   |some (.cells cs e')=>some { pre:=bi P t=true/\e'=e/\p/\0<sz/\off+n*sz=cs.length/\n+k<=maxLen/\(n+k)*P.bytesOf e<=140737488355328/\i∉rd,val:=.rs nx 0 (n+k),aU:=[(i,none),(nx,some (.cells (cs.drop off++news) e))],rd:=i::rd,new:=1 }
   |_=>none
  |_=>none
def KA(P:Program)(m:Mem)(t:TypeId)(x k:D)(ok:Bool):Option fj:=match qO k,x with
 |some key,.mp i=>match m i with
  |some (.map es)=>some { pre:=fT P t=true/\cL P (eL P t) key=true/\es.all (fun e=>cL P (eL P t) e.1)=true,val:=fH P t ok (cT key es),rd:=[i] }
  |_=>none
 |some key,.im es=>some { pre:=fT P t=true/\cL P (eL P t) key=true/\es.all (fun e=>cL P (eL P t) e.1)=true,val:=fH P t ok (cT key es) }
 |some key,.s (.map none)=>some { pre:=fT P t=true/\cL P (eL P t) key=true,val:=fH P t ok none }
 |_,_=>none
def Gl(P:Program)(m:Mem)(t:TypeId)(x k v:D):Option fj:=match qO k,x with
 |some key,.mp i=>match m i with
  |some (.map es)=>some { pre:=fT P t=true/\cL P (eL P t) key=true/\es.all (fun e=>cL P (eL P t) e.1)=true,val:=.aM [],aU:=[(i,some (.map (gp key v es)))],rd:=[i] }
  |_=>none
 |_,_=>none
def KB(P:Program)(m:Mem)(t:TypeId)(x k:D):Option fj:=match qO k,x with
 |some key,.mp i=>match m i with
  |some (.map es)=>some { pre:=fT P t=true/\cL P (eL P t) key=true/\es.all (fun e=>cL P (eL P t) e.1)=true,val:=.aM [],aU:=[(i,some (.map (tI key es)))],rd:=[i] }
  |_=>none
 |_,_=>none
def F7(P:Program)(m:Mem)(nx:Nat)(b:Builtin)(ts:Array TypeId)(args:List D):Option fj:=
 match b,args with
 | .len,[x]=>Mj P m (ts.getD 0 0) x
 | .append,[s,x]=>if ts.getD 0 0=ts.getD 1 0 then Kz P m nx (ts.getD 0 0) s x else none
 | .min,[.s (.int k a),.s (.int k' b)]=>some { pre:=k=k',val:=.s (.int k (if b<a then b else a)) }
 | .clear,[.rs i off n]=>match m i with
  |some (.cells cs e)=>some { pre:=bi P (ts.getD 0 0)=true/\off+n*P.cellsOf e<=cs.length/\e=aF P (ts.getD 0 0),val:=.aM [],aU:=[(i,some (.cells (gW cs off (dB n (a8 P e))) e))],rd:=[i] }
  |_=>none
 | .delete,[x,k]=>KB P m (ts.getD 0 0) x k
 |_,_=>none
def K7(P:Program)(m:Mem)(t:TypeId)(x:D)(lo hi C:Option D):Option fj:=
 match x with
 | .sl es n=>match ed lo 0,ed hi n,C with
  |some l,some h,none=>some { pre:=bi P t=true/\0<=l/\l<=h/\h<=n,val:=.sl ((es.drop (l.toNat*P.cellsOf (aF P t))).take ((h - l).toNat*P.cellsOf (aF P t))) (h - l).toNat }
  |some l,some h,some d=>match d.int? with
   |some k=>some { pre:=bi P t=true/\hi.isSome=true/\0<=l/\l<=h/\h<=k/\k<=n,val:=.sl ((es.drop (l.toNat*P.cellsOf (aF P t))).take ((h - l).toNat*P.cellsOf (aF P t))) (h - l).toNat }
   |none=>none
  |_,_,_=>none
 | .rs i off n=>match m i with
  |some (.cells _ e)=>match ed lo 0,ed hi n,C with
   |some l,some h,none=>some { pre:=(bi P t=true/\P.cellsOf e=P.cellsOf (aF P t))/\0<=l/\l<=h/\h<=n,val:=.rs i (off+l.toNat*P.cellsOf (aF P t)) (h - l).toNat,rd:=[i] }
   |_,_,_=>none
  |_=>none
 | .s (.string b)=>match ed lo 0,ed hi b.size,C with
  |some l,some h,none=>some { pre:=fW P t=true/\0<=l/\l<=h/\h<=b.size,val:=.s (.string (b.extract l.toNat h.toNat)) }
  |_,_,_=>none
 |_=>none
def j6(P:Program)(o:Op)(ρ:Operand->D)(m:Mem)(nx:Nat):Option fj:=
 match o with
 | .move x=>some { pre:=True,val:=ρ x }
 | .assign x=>some { pre:=True,val:=ρ x }
 | .pick c a b=>match (ρ c).core.fi with
  |some t=>some { pre:=(t=true->(ρ a).ask/\(ρ a).core.fi.isSome=true)/\(t=false->(ρ b).ask/\(ρ b).core.fi.isSome=true),val:=.s (.bool (if t then(ρ a).core.fi.getD false else(ρ b).core.fi.getD false)) }
  |none=>none
 | .alloc t=>some { pre:=aI P t=true,val:=.rp nx 0,aU:=[(nx,some (.cells (a8 P t) t))],new:=1 }
 | .box t x=>some { pre:=(ρ x).cells.all D.one=true,val:=.rp nx 0,aU:=[(nx,some (.cells (ρ x).cells t))],new:=1 }
 | .build t ps=>match P.underlying t with
  |some (.struct fs)=>(hP (fun i=>(fs[i]?).map fun f=>(f.offset,P.cellsOf f.type)) (a8 P t) (ps.toList.map fun q=>(q.1,ρ q.2))).map fun cs=>{ pre:=aI P t=true/\fs.toList.all (fun f=>(P.info? f.type).isSome)=true,val:=.agg cs }
  |some (.array _ e)=>(hP (fun i=>some (i*P.cellsOf e,P.cellsOf e)) (a8 P t) (ps.toList.map fun q=>(q.1,ρ q.2))).map fun cs=>{ pre:=aI P t=true/\aI P e=true,val:=.agg cs }
  |_=>none
 | .buildSlice t n ps=>(hP (fun i=>some (i*P.cellsOf (aF P t),P.cellsOf (aF P t))) (dB n (a8 P (aF P t))) (ps.toList.map fun q=>(q.1,ρ q.2))).map fun cs=>
   { pre:=cs.all D.one=true/\n*P.cellsOf (aF P t)<=2 ^ 24/\bi P t=true/\n<=maxLen,val:=.rs nx 0 n,aU:=[(nx,some (.cells cs (aF P t)))],new:=1 }
 | .load t a=>match ρ a with
  | .pt cs=>some { pre:=aI P t=true/\P.cellsOf t<=cs.length,val:=hD P t cs }
  | .rp i off=>match m i with
   |some (.cells cs _)=>some { pre:=aI P t=true/\off+P.cellsOf t<=cs.length,val:=hD P t (cs.drop off),rd:=[i] }
   |_=>none
  |_=>none
 | .store t a x=>match ρ a with
  | .rp i off=>match m i with
   |some (.cells cs e)=>some { pre:=aI P t=true/\(ρ x).cells.length=P.cellsOf t/\off+P.cellsOf t<=cs.length/\(ρ x).cells.all D.one=true,val:=.aM [],aU:=[(i,some (.cells (gW cs off (ρ x).cells) e))],rd:=[i] }
   |_=>none
  |_=>none
 | .nilCheck x=>match ρ x with
  | .pt cs=>some { pre:=True,val:=.pt cs }
  | .rp i off=>match m i with
   |some _=>some { pre:=True,val:=.rp i off,rd:=[i] }
   |none=>none
  |_=>none
 | .binOp op t x y _=>match H7 P m op t (ρ x) y with
  |some e=>some e
  |none=>(Mi P op t (ρ x) (ρ y)).map fun r=> @fj.mk r.p r.dec r.d [] [] 0
 | .unOp op _ x=>match ρ x with
  | .s v=>(zP op v).map fun r=>{ pre:=True,val:=.s r }
  |_=>none
 | .convert src dst x=>match P.underlying dst,ρ x with
  |some (.int k),.s (.int _ n)=>some { pre:=aI P src=true,val:=.s (.int k (k.wrap n)) }
  |some (.slice e),.s (.string b)=>match P.underlying e with
   |some (.int .u8)=>some { pre:=fW P src=true/\b.size<=maxLen,val:=.sl (b.data.toList.map fun c=>.s (.int .u8 c.toNat)) b.size }
   |_=>none
  |_,_=>none
 | .makeFunc f fs cs=>some { pre:=True,val:=.fn f (fs.toList.map ρ) (cs.toList.map ρ) }
 | .makeMap _ r=>match r with
  |none=>some { pre:=True,val:=.mp nx,aU:=[(nx,some (.map []))],new:=1 }
  |some _=>none
 | .makeSlice t l c=>match ρ l,ρ c with
  | .s (.int .i64 n),.s (.int .i64 k)=>some { pre:=0<=n/\n=k/\n<=9223372036854775807/\P.bytesOf (aF P t)*n<=281474976710656/\bi P t=true,val:=.rs nx 0 n.toNat,aU:=[(nx,some (.cells (dB n.toNat (a8 P (aF P t))) (aF P t)))],new:=1 }
  |_,_=>none
 | .lookup t x k ok=>KA P m t (ρ x) (ρ k) ok
 | .mapUpdate t x k v=>Gl P m t (ρ x) (ρ k) (ρ v)
 | .insert t x k v=>Gl P m t (ρ x) (ρ k) (ρ v)
 | .slice t x lo hi C=>K7 P m t (ρ x) (lo.map ρ) (hi.map ρ) (C.map ρ)
 | .fieldAddr t x k=>match cr P t k,ρ x with
  |some (off,ft),.pt cs=>some { pre:=0<P.cellsOf ft,val:=.pt (cs.drop off) }
  |some (off,ft),.rp i o=>match m i with
   |some _=>some { pre:=0<P.cellsOf ft,val:=.rp i (o+off),rd:=[i] }
   |none=>none
  |_,_=>none
 | .field t x k=>match cr P t k,ρ x with
  |some (off,ft),.agg cs=>some { pre:=aI P ft=true/\off+P.cellsOf ft<=cs.length,val:=hD P ft (cs.drop off) }
  |_,_=>none
 | .indexAddr t x i=>match ρ x,ρ i with
  | .sl es n,.s (.int _ k)=>some { pre:=bi P t=true/\0<=k/\k<n/\(k.toNat+1)*P.cellsOf (aF P t)<=es.length,val:=.pt (es.drop (k.toNat*P.cellsOf (aF P t))) }
  | .rs j off n,.s (.int _ k)=>match m j with
   |some _=>some { pre:=bi P t=true/\0<=k/\k<n,val:=.rp j (off+k.toNat*P.cellsOf (aF P t)),rd:=[j] }
   |none=>none
  | .rp j off,.s (.int _ k)=>match m j with
   |some _=>some { pre:=oI P t=true/\0<=k/\k<pi P t,val:=.rp j (off+k.toNat*P.cellsOf (aF P t)),rd:=[j] }
   |none=>none
  |_,_=>none
 | .index t x i=>match ρ x,ρ i with
  | .s (.string b),.s (.int _ k)=>some { pre:=fW P t=true/\0<=k/\k<b.size,val:=.s (.int .u8 (b.data.toList.getD k.toNat 0).toNat) }
  | .agg cs,.s (.int _ k)=>some { pre:=oI P t=true/\0<=k/\k<pi P t/\(k.toNat+1)*P.cellsOf (aF P t)<=cs.length,val:=hD P (aF P t) (cs.drop (k.toNat*P.cellsOf (aF P t))) }
  |_,_=>none
 | .extract x k=>match ρ x with
  | .aM cs=>some { pre:=k<cs.length,val:=cs.getD k .u }
  |_=>none
 | .call c=>match c.callee with
  | .builtin b=>if c.argTypes.size=c.args.size then F7 P m nx b c.argTypes (c.args.toList.map ρ) else none
  |_=>none
 |_=>none
theorem ab7(op:BinOp)(x y:Value):sf op x y=(H6 op x y).map fun r=>(r.p,r.d):=by
 cases op<;>cases x<;>first|rfl|(cases y<;>rfl)
theorem Zp(P:Program)(op:BinOp)(t:TypeId)(xs ys:List D):yH P op t xs ys=(K6 P op t xs ys).map fun r=>(r.p,r.d):=by
 unfold yH K6;cases op<;>first|rfl|skip
 all_goals cases vd P t<;>first|rfl|skip
 all_goals cases oq xs ys<;>rfl
theorem ab8(P:Program)(op:BinOp)(t:TypeId)(x y:D):vw P op t x y=(Mi P op t x y).map fun r=>(r.p,r.d):=by
 have hs:∀ a b,(sf op a b).map (fun r=>(r.1,D.s r.2))=((H6 op a b).map fun r=> @PD.mk _ r.p r.dec (D.s r.d)).map fun r=>(r.p,r.d):=fun a b=>by
  rw[ab7];cases H6 op a b<;>rfl
 cases x with
 |s a=>
  cases y with
  |s b=>
   cases a with
   |bool a=>
    cases b with
    |bool b=>cases op<;>rfl
    |_=>exact hs _ _
   |_=>exact hs _ _
  |_=>cases a<;>rfl
 |agg xs=>
  cases y with
  |agg ys=>exact Zp P op t xs ys
  |_=>rfl
 |_=>rfl
theorem ab9(P:Program)(m:Mem)(op:BinOp)(t:TypeId)(x:D)(y:Operand):ns P m op t x y=(H7 P m op t x y).map fj.jd:=by
 unfold ns H7;split<;>split<;>simp_all[fj.jd]
 all_goals split<;>simp_all[fj.jd]
theorem ab'(P:Program)(m:Mem)(t:TypeId)(x:D):ot P m t x=(Mj P m t x).map fj.jd:=by
 unfold ot Mj;split<;>first|rfl|skip
 all_goals split<;>simp_all[fj.jd]
theorem Yk(m:Mem)(sz:Nat)(x:D):jP m sz x=(FV m sz x).map fun r=>(r.p,r.d):=by
 unfold jP FV;split<;>first|rfl|skip
 all_goals split<;>simp_all
theorem YS(P:Program)(m:Mem)(nx:Nat)(t:TypeId)(s x:D):rN P m nx t s x=(Kz P m nx t s x).map fj.jd:=by
 unfold rN Kz;simp only[Yk];cases FV m (P.cellsOf (aF P t)) x with
 |none=>rfl
 |some r=>
  obtain⟨p,rd,k,news⟩:=r;simp only[Option.map_some];split<;>first|rfl|skip
  all_goals split<;>simp_all[fj.jd]
theorem YT(P:Program)(m:Mem)(t:TypeId)(x k:D)(ok:Bool):oZ P m t x k ok=(KA P m t x k ok).map fj.jd:=by
 unfold oZ KA;split<;>first|rfl|skip
 all_goals split<;>simp_all[fj.jd]
theorem PJ(P:Program)(m:Mem)(t:TypeId)(x k v:D):nS P m t x k v=(Gl P m t x k v).map fj.jd:=by
 unfold nS Gl;split<;>first|rfl|skip
 all_goals split<;>simp_all[fj.jd]
theorem YU(P:Program)(m:Mem)(t:TypeId)(x k:D):s4 P m t x k=(KB P m t x k).map fj.jd:=by
 unfold s4 KB;split<;>first|rfl|skip
 all_goals split<;>simp_all[fj.jd]
theorem YD(P:Program)(m:Mem)(nx:Nat)(b:Builtin)(ts:Array TypeId)(args:List D):fL P m nx b ts args=(F7 P m nx b ts args).map fj.jd:=by
 cases b with
 |len=>
  match args with
  |[]=>rfl
  |[x]=>exact ab' _ _ _ _
  |_::_::_=>rfl
 |append=>
  match args with
  |[]=>rfl
  |[x]=>rfl
  |[s,x]=>
   simp only[fL,F7];split
   .exact YS _ _ _ _ _ _
   .rfl
  |_::_::_::_=>rfl
 |min=>
  match args with
  |[]=>rfl
  |[x]=>
   cases x with
   |s a=>cases a<;>rfl
   |_=>rfl
  |[x,y]=>
   cases x with
   |s a=>
    cases a with
    |int k a=>
     cases y with
     |s b=>cases b<;>rfl
     |_=>rfl
    |_=>rfl
   |_=>rfl
  |x::y::_::_=>
   cases x with
   |s a=>
    cases a with
    |int k a=>
     cases y with
     |s b=>cases b<;>rfl
     |_=>rfl
    |_=>rfl
   |_=>rfl
 |clear=>
  match args with
  |[]=>rfl
  |[x]=>
   cases x with
   |rs i off n=>
    simp only[fL,F7];cases m i with
    |none=>rfl
    |some r=>cases r<;>rfl
   |_=>rfl
  |x::_::_=>cases x<;>rfl
 |delete=>
  match args with
  |[]=>rfl
  |[x]=>rfl
  |[x,k]=>exact YU _ _ _ _ _
  |_::_::_::_=>rfl
 |_=>rfl
theorem Zq(P:Program)(m:Mem)(t:TypeId)(x:D)(lo hi C:Option D):nd P m t x lo hi C=(K7 P m t x lo hi C).map fj.jd:=by
 unfold nd K7;cases x with
 |sl es n=>
  simp only;cases ed lo 0<;>first|rfl|skip
  cases ed hi n<;>first|rfl|skip
  cases C with
  |none=>rfl
  |some d=>
   simp only;cases d.int? <;>rfl
 |rs i off n=>
  simp only;cases m i with
  |none=>rfl
  |some r=>
   cases r<;>first|rfl|skip
   simp only;cases ed lo 0<;>first|rfl|skip
   cases ed hi n<;>first|rfl|skip
   cases C<;>rfl
 |s v=>
  cases v<;>first|rfl|skip
  simp only;cases ed lo 0<;>first|rfl|skip
  rename_i b _;cases ed hi b.size<;>first|rfl|skip
  cases C<;>rfl
 |_=>rfl
theorem SN(P:Program)(o:Op)(ρ:Operand->D)(m:Mem)(nx:Nat):bd P o ρ m nx=(j6 P o ρ m nx).map fj.jd:=by
 cases o with
 |call c=>
  simp only[bd,j6];cases c.callee with
  |builtin b=>
   simp only;split
   .exact YD _ _ _ _ _ _
   .rfl
  |_=>rfl
 |binOp op t x y _=>
  simp only[bd,j6,ab9,ab8];cases H7 P m op t (ρ x) y with
  |some e=>rfl
  |none=>
   cases Mi P op t (ρ x) (ρ y) with
   |some r=>rfl
   |none=>rfl
 |lookup t x k ok=>exact YT _ _ _ _ _ _
 |mapUpdate t x k v=>exact PJ _ _ _ _ _ _
 |insert t x k v=>exact PJ _ _ _ _ _ _
 |slice t x lo hi J=>exact Zq _ _ _ _ _ _ _
 |build t ps=>
  simp only[bd,j6];cases P.underlying t with
  |none=>rfl
  |some u=>
   cases u with
   |struct fs=>simp only;cases hP _ _ _<;>rfl
   |array n e=>simp only;cases hP _ _ _<;>rfl
   |_=>rfl
 |buildSlice t n ps=>
  simp only[bd,j6];cases hP _ _ _<;>rfl
 |unOp op t x=>
  simp only[bd,j6];cases ρ x with
  |s v=>simp only;cases zP op v<;>rfl
  |_=>rfl
 |load t a=>
  simp only[bd,j6];cases ρ a with
  |rp i off=>simp only;cases m i with
   |none=>rfl
   |some r=>cases r<;>rfl
  |_=>rfl
 |store t a x=>
  simp only[bd,j6];cases ρ a with
  |rp i off=>simp only;cases m i with
   |none=>rfl
   |some r=>cases r<;>rfl
  |_=>rfl
 |pick c a b=>
  simp only[bd,j6];cases (ρ c).core.fi <;>rfl
 |nilCheck x=>
  simp only[bd,j6];cases ρ x with
  |rp i off=>simp only;cases m i<;>rfl
  |_=>rfl
 |makeMap t r=>cases r<;>rfl
 |makeSlice t l c=>
  simp only[bd,j6];cases ρ l with
  |s v=>
   cases v with
   |int k n=>
    cases k with
    |i64=>
     cases ρ c with
     |s v=>cases v with
      |int k n=>cases k<;>rfl
      |_=>rfl
     |_=>rfl
    |_=>rfl
   |_=>rfl
  |_=>rfl
 |convert src dst x=>
  simp only[bd,j6];cases P.underlying dst with
  |none=>rfl
  |some u=>
   cases u with
   |int k=>cases ρ x with
    |s v=>cases v<;>rfl
    |_=>rfl
   |slice e=>cases ρ x with
    |s v=>cases v with
     |string b=>
      simp only;cases P.underlying e with
      |none=>rfl
      |some u=>
       cases u with
       |int k=>cases k<;>rfl
       |_=>rfl
     |_=>rfl
    |_=>rfl
   |_=>rfl
 |fieldAddr t x k=>
  simp only[bd,j6];cases cr P t k with
  |none=>rfl
  |some q=>
   obtain⟨off,C⟩:=q;cases ρ x with
   |rp i o=>simp only;cases m i<;>rfl
   |_=>rfl
 |field t x k=>
  simp only[bd,j6];cases cr P t k with
  |none=>rfl
  |some q=>
   obtain⟨off,C⟩:=q;cases ρ x<;>rfl
 |indexAddr t x i=>
  simp only[bd,j6];cases ρ x with
  |sl es n=>cases ρ i with
   |s v=>cases v<;>rfl
   |_=>rfl
  |rs j off n=>cases ρ i with
   |s v=>cases v with
    |int k n=>simp only;cases m j<;>rfl
    |_=>rfl
   |_=>rfl
  |rp j off=>cases ρ i with
   |s v=>cases v with
    |int k n=>simp only;cases m j<;>rfl
    |_=>rfl
   |_=>rfl
  |_=>rfl
 |index t x i=>
  simp only[bd,j6];cases ρ x with
  |s v=>cases v with
   |string b=>cases ρ i with
    |s v=>cases v<;>rfl
    |_=>rfl
   |_=>rfl
  |agg cs=>cases ρ i with
   |s v=>cases v<;>rfl
   |_=>rfl
  |_=>rfl
 |extract x k=>
  simp only[bd,j6];cases ρ x<;>rfl
 |_=>rfl
inductive T(α:Type) where
 |leaf
 |node (v:Option α) (l r:T α)
def T.get{α:Type}:T α->Nat->Option α
 | .leaf,_=>none
 | .node v l r,i=>bif Nat.beq i 0 then v else bif Nat.beq (i % 2) 1 then l.get (i / 2) else r.get (i / 2 - 1)
def T.set{α:Type}:Nat->T α->Nat->Option α->T α
 |0,t,_,_=>t
 |f+1,.leaf,i,v=>bif Nat.beq i 0 then .node v .leaf .leaf else bif Nat.beq (i % 2) 1 then .node none (T.set f .leaf (i / 2) v) .leaf else .node none .leaf (T.set f .leaf (i / 2 - 1) v)
 |f+1,.node v0 l r,i,v=>bif Nat.beq i 0 then .node v l r else bif Nat.beq (i % 2) 1 then .node v0 (T.set f l (i / 2) v) r else .node v0 l (T.set f r (i / 2 - 1) v)
theorem T.uz{α:Type}(v:Option α)(l r:T α)(i:Nat):(T.node v l r).get i=if i=0 then v else if i % 2=1 then l.get (i / 2) else r.get (i / 2 - 1):=by
 simp only[T.get,Bool.cond_eq_ite,Nat.beq_eq]
theorem T.DF{α:Type}(v:Option α):∀ (f:Nat) (t:T α) (i j:Nat),i+1<2 ^ f->(T.set f t i v).get j=if j=i then v else t.get j
 |0,t,i,j,h=>by simp at h
 |f+1,t,i,j,h=>by
  have h2:2 ^ (f+1)=2*2 ^ f:=by rw[Nat.pow_succ];omega
  have U:i % 2=1->i / 2+1<2 ^ f:=fun _=>by omega
  have X:i≠0->i % 2≠1->i / 2 - 1+1<2 ^ f:=fun _ _=>by omega
  have M:∀ k,(T.leaf:T α).get k=none:=fun k=>rfl;cases t with
  |leaf=>
   simp only[T.set,Bool.cond_eq_ite,Nat.beq_eq];by_cases h0:i=0
   .subst h0;simp only[if_true,T.uz,M];by_cases hj:j=0<;>simp[hj]
   .rw[if_neg h0];by_cases h1:i % 2=1
    .rw[if_pos h1,T.uz,T.DF v f _ _ _ (U h1)];simp only[M];by_cases hj:j=i
     .subst hj;simp[h0,h1]
     .rw[if_neg hj];by_cases J:j=0
      .rw[if_pos J]
      .rw[if_neg J];by_cases C:j % 2=1
       .rw[if_pos C,if_neg oG]
       .rw[if_neg C]
    .rw[if_neg h1,T.uz,T.DF v f _ _ _ (X h0 h1)];simp only[M];by_cases hj:j=i
     .subst hj;simp[h0,h1]
     .rw[if_neg hj];by_cases J:j=0
      .rw[if_pos J]
      .rw[if_neg J];by_cases C:j % 2=1
       .rw[if_pos C]
       .rw[if_neg C,if_neg oG]
  |node v0 l r=>
   simp only[T.set,Bool.cond_eq_ite,Nat.beq_eq];by_cases h0:i=0
   .subst h0;simp only[if_true,T.uz];by_cases hj:j=0<;>simp[hj]
   .rw[if_neg h0];by_cases h1:i % 2=1
    .rw[if_pos h1,T.uz,T.uz,T.DF v f _ _ _ (U h1)];by_cases hj:j=i
     .subst hj;simp[h0,h1]
     .rw[if_neg hj];by_cases J:j=0
      .rw[if_pos J,if_pos J]
      .rw[if_neg J,if_neg J];by_cases C:j % 2=1
       .rw[if_pos C,if_pos C,if_neg oG]
       .rw[if_neg C,if_neg C]
    .rw[if_neg h1,T.uz,T.uz,T.DF v f _ _ _ (X h0 h1)];by_cases hj:j=i
     .subst hj;simp[h0,h1]
     .rw[if_neg hj];by_cases J:j=0
      .rw[if_pos J,if_pos J]
      .rw[if_neg J,if_neg J];by_cases C:j % 2=1
       .rw[if_pos C,if_pos C]
       .rw[if_neg C,if_neg C,if_neg oG]
def T.put{α:Type}(t:T α)(i:Nat)(v:Option α):Option (T α):=bif Nat.blt i 1000000 then some (T.set 20 t i v) else none
theorem T.SP{α:Type}{t C:T α}{i:Nat}{v:Option α}(h:t.put i v=some C)(j:Nat):C.get j=if j=i then v else t.get j:=by
 unfold T.put at h;cases hb:Nat.blt i 1000000 with
 |false=>rw[hb] at h;cases h
 |true=>
  rw[hb] at h;simp only[cond_true,aG] at h;subst h;have:i<1000000:=by simpa using hb
  exact T.DF v 20 t i j oG
structure cV where
 env:T D
 mem:T Row
 nx:Nat
def dD(t:T D):Env:=fun i=>(t.get i).getD .u
def gq(t:T Row):Mem:=fun i=>t.get i
def cV.st(c:cV):St:=⟨dD c.env,gq c.mem,c.nx⟩
theorem KC{t C:T D}{i:Nat}{d:D}(h:t.put i (some d)=some C):dD C=up (dD t) i d:=by
 funext j;simp only[dD,T.SP h,Dt];split<;>rfl
theorem RK{t C:T Row}{i:Nat}{r:Option Row}(h:t.put i r=some C):gq C=up (gq t) i r:=by
 funext j;simp only[gq,T.SP h,Dt]
def BX(t:T D):Option Nat->D->Option (T D)
 |none,_=>some t
 |some i,d=>t.put i (some d)
def EG(m:T Row):List (Nat×Option Row)->Option (T Row)
 |[]=>some m
 |(i,r)::us=>match m.put i r with
  |some m'=>EG m' us
  |none=>none
theorem K8{t C:T D}{dst:Option Nat}{d:D}(h:BX t dst d=some C)(m:Mem)(nx:Nat):(⟨dD C,m,nx⟩:St)=St.put ⟨dD t,m,nx⟩ dst d:=by
 cases dst with
 |none=>simp only[BX,aG] at h;subst h;rfl
 |some i=>simp only[BX] at h;simp only[St.put,KC h]
theorem RL:∀ {us:List (Nat×Option Row)} {m m':T Row},EG m us=some m'->gq m'=cK (gq m) us
 |[],m,m',h=>by simp only[EG,aG] at h;subst h;rfl
 |(i,r)::us,m,m',h=>by
  simp only[EG] at h;cases hp:m.put i r with
  |none=>rw[hp] at h;cases h
  |some C=>
   rw[hp] at h;simp only at h;rw[RL h,RK hp];rfl
def rj:Nat->D->Bool
 |0,_=>false
 |n+1,d=>match d with
  | .rs .. | .rp .. | .mp _ | .sc .. =>false
  | .cB _ d=>rj n d
  | .agg cs | .aM cs | .pt cs | .sl cs _=>cs.all (rj n)
  | .fn _ fs cs=>fs.all (rj n)&&cs.all (rj n)
  | .im es=>es.all fun x=>rj n x.2
  |_=>true
section
variable{P:Program}{F:Nat->Prop}{β:aE}{w:World}
theorem qq:∀ {n:Nat} {d:D},rj n d=true->Tr d
 |0,_,h=>by cases h
 |n+1,d,h=>by
  cases d with
  |rs=>cases h
  |rp=>cases h
  |mp=>cases h
  |sc=>cases h
  |cB c d=>exact .cB (qq h)
  |agg cs=>exact .agg fun d hd=>qq (bS.1 h d hd)
  |aM cs=>exact .aM fun d hd=>qq (bS.1 h d hd)
  |sl cs n=>exact .sl fun d hd=>qq (bS.1 h d hd)
  |pt cs=>exact .pt fun d hd=>qq (bS.1 h d hd)
  |fn f fs cs=>
   simp only[rj,aW] at h;exact .fn (fun d hd=>qq (bS.1 h.1 d hd)) fun d hd=>qq (bS.1 h.2 d hd)
  |im es=>exact .im fun x hx=>qq (bS.1 h x hx)
  |s v=>exact .s v
  |ub=>exact .ub
  |u=>exact .u
  |z=>exact .z
def iE{α β:Type}(f:α->Option (β×List Nat)):List α->Option (List β×List Nat)
 |[]=>some ([],[])
 |x::xs=>match f x with
  |none=>none
  |some y=>match iE f xs with
   |none=>none
   |some ys=>some (y.1::ys.1,y.2++ys.2)
theorem F8{α β:Type}{f:α->Option (β×List Nat)}:∀ {xs:List α} {ys:List β} {r:List Nat},iE f xs=some (ys,r)->
 ys.length=xs.length/\(∀ (k:Nat) (y:β),ys[k]? =some y->∃ x r',xs[k]? =some x/\f x=some (y,r')/\∀ i∈r',i∈r)
 |[],ys,r,h=>by simp only[iE,aG,bR] at h;obtain⟨rfl,rfl⟩:=h;simp
 |x::xs,ys,r,h=>by
  simp only[iE] at h;cases hx:f x with
  |none=>rw[hx] at h;cases h
  |some y=>
   rw[hx] at h;simp only at h;cases C:iE f xs with
   |none=>rw[C] at h;cases h
   |some J=>
    rw[C] at h;simp only[aG,bR] at h;obtain⟨rfl,rfl⟩:=h;obtain⟨h1,h2⟩:=F8 (ys:=J.1) (r:=J.2) C;refine⟨by simp[h1],fun k z hz=>?_⟩;cases k with
    |zero=>
     simp only[List.getElem?_cons_zero,aG] at hz;subst hz;exact⟨x,y.2,rfl,hx,fun i hi=>by simp[hi]⟩
    |succ k=>
     obtain⟨x',r',M,U,X⟩:=h2 k z (by simpa using hz);exact⟨x',r',by simpa using M,U,fun i hi=>by simp[X i hi]⟩
def cJ(P:Program)(m:Mem):Nat->D->Option (D×List Nat)
 |0,_=>none
 |n+1,d=>match d with
  | .mp i=>match m i with
   |some (.map es)=>(iE (fun x=>(cJ P m n x.2).map fun y=>((x.1,y.1),y.2)) es).map fun x=>(.im x.1,i::x.2)
   |_=>none
  | .im es=>(iE (fun x=>(cJ P m n x.2).map fun y=>((x.1,y.1),y.2)) es).map fun x=>(.im x.1,x.2)
  | .rs i off k=>match m i with
   |some (.cells cs e)=>(iE (cJ P m n) ((cs.drop off).take (k*P.cellsOf e))).map fun x=>(.sl x.1 k,i::x.2)
   |_=>none
  | .rp i off=>match m i with
   |some (.cells cs _)=>(iE (cJ P m n) (cs.drop off)).map fun x=>(.pt x.1,i::x.2)
   |_=>none
  | .cB true d=>(cJ P m n d).map fun x=>(.cB true x.1,x.2)
  | .cB false _=>some (.cB false .u,[])
  | .agg cs=>(iE (cJ P m n) cs).map fun x=>(.agg x.1,x.2)
  | .aM cs=>(iE (cJ P m n) cs).map fun x=>(.aM x.1,x.2)
  | .sl cs k=>(iE (cJ P m n) cs).map fun x=>(.sl x.1 k,x.2)
  | .pt cs=>(iE (cJ P m n) cs).map fun x=>(.pt x.1,x.2)
  | .fn f fs cs=>match iE (cJ P m n) fs with
   |none=>none
   |some x=>(iE (cJ P m n) cs).map fun y=>(.fn f x.1 y.1,x.2++y.2)
  | .s v=>some (.s v,[])
  | .ub=>some (.ub,[])
  | .u=>some (.u,[])
  | .z=>some (.z,[])
  | .sc .. =>none
theorem rK{α β:Type}{f:α->Option (β×List Nat)}{xs:List α}{ys:List β}{r:List Nat}(h:iE f xs=some (ys,r)){p:β->Prop}(hp:∀ x y r',f x=some (y,r')->p y):∀ y∈ys,p y:=fun y hy=>by
 obtain⟨k,hk⟩:=dN hy;obtain⟨x,r',_,h2,_⟩:=(F8 h).2 k y hk;exact hp x y r' h2
theorem GF{m:Mem}:∀ {n:Nat} {d d':D} {r:List Nat},cJ P m n d=some (d',r)->Tr d'
 |0,_,_,_,h=>by cases h
 |n+1,d,d',r,h=>by
  have ih:∀ x y r',cJ P m n x=some (y,r')->Tr y:=fun x y r' h=>GF h
  have C:∀ (x:Value×D) (y:Value×D) r',(cJ P m n x.2).map (fun y=>((x.1,y.1),y.2))=some (y,r')->Tr y.2:=fun x y r' h=>by
   simp only[cU,bR] at h;obtain⟨z,hz,rfl,_⟩:=h;exact GF (r:=z.2) hz
  cases d with
  |sc=>cases h
  |mp i=>
   simp only[cJ] at h;split at h
   .simp only[cU,bR] at h;obtain⟨x,hx,rfl,_⟩:=h;exact .im (rK (ys:=x.1) (r:=x.2) hx C)
   .cases h
  |im es=>
   simp only[cJ,cU,bR] at h;obtain⟨x,hx,rfl,_⟩:=h;exact .im (rK (ys:=x.1) (r:=x.2) hx C)
  |rs i off k=>
   simp only[cJ] at h;split at h
   .simp only[cU,bR] at h;obtain⟨x,hx,rfl,_⟩:=h;exact .sl (rK (ys:=x.1) (r:=x.2) hx ih)
   .cases h
  |rp i off=>
   simp only[cJ] at h;split at h
   .simp only[cU,bR] at h;obtain⟨x,hx,rfl,_⟩:=h;exact .pt (rK (ys:=x.1) (r:=x.2) hx ih)
   .cases h
  |cB c d=>
   cases c with
   |true=>
    simp only[cJ,cU,bR] at h;obtain⟨x,hx,rfl,_⟩:=h;exact .cB (GF (r:=x.2) hx)
   |false=>simp only[cJ,aG,bR] at h;obtain⟨rfl,_⟩:=h;exact .cB .u
  |agg cs=>
   simp only[cJ,cU,bR] at h;obtain⟨x,hx,rfl,_⟩:=h;exact .agg (rK (ys:=x.1) (r:=x.2) hx ih)
  |aM cs=>
   simp only[cJ,cU,bR] at h;obtain⟨x,hx,rfl,_⟩:=h;exact .aM (rK (ys:=x.1) (r:=x.2) hx ih)
  |sl cs k=>
   simp only[cJ,cU,bR] at h;obtain⟨x,hx,rfl,_⟩:=h;exact .sl (rK (ys:=x.1) (r:=x.2) hx ih)
  |pt cs=>
   simp only[cJ,cU,bR] at h;obtain⟨x,hx,rfl,_⟩:=h;exact .pt (rK (ys:=x.1) (r:=x.2) hx ih)
  |fn f fs cs=>
   simp only[cJ] at h;cases hx:iE (cJ P m n) fs with
   |none=>rw[hx] at h;cases h
   |some x=>
    rw[hx] at h;simp only[cU,bR] at h;obtain⟨y,hy,rfl,_⟩:=h;exact .fn (rK (ys:=x.1) (r:=x.2) hx ih) (rK (ys:=y.1) (r:=y.2) hy ih)
  |s v=>simp only[cJ,aG,bR] at h;obtain⟨rfl,_⟩:=h;exact .s v
  |ub=>simp only[cJ,aG,bR] at h;obtain⟨rfl,_⟩:=h;exact .ub
  |u=>simp only[cJ,aG,bR] at h;obtain⟨rfl,_⟩:=h;exact .u
  |z=>simp only[cJ,aG,bR] at h;obtain⟨rfl,_⟩:=h;exact .z
def Looks(P:Program)(F:Nat->Prop)(β:aE)(w:World)(m:Mem)(rds:List Nat):Prop:=∀ i∈rds,∀ r,m i=some r->∃ p,β i=some p/\cC P F β w r p/\∀ b,p.bF=some b->¬ F b
theorem AE(b:Nat):gU.free b:=fun i p hp=>by cases hp
theorem DY{m:Mem}:∀ {n:Nat} {d d':D} {r:List Nat},cJ P m n d=some (d',r)->Looks P F β w m r->∀ {v:Value},R F β w d v->R F gU w d' v
 |0,_,_,_,h,_,_,_=>by cases h
 |n+1,d,d',r,h,hl,v,hv=>by
  have many:∀ {xs ys:List D} {r':List Nat},iE (cJ P m n) xs=some (ys,r')->(∀ i∈r',i∈r)->ys.length=xs.length/\∀ (k:Nat) (d:D) (u:Value),ys[k]? =some d->(∀ M,xs[k]? =some M->R F β w M u)->R F gU w d u:=fun h hr=>by
   obtain⟨h1,h2⟩:=F8 h;refine⟨h1,fun k d u hd hu=>?_⟩;obtain⟨x,r2,C,J,X⟩:=h2 k d hd;exact DY J (fun i hi=>hl i (hr i (X i hi))) (hu x C)
  have look:∀ {i:Nat} {cs:List D} {e:TypeId},i∈r->m i=some (.cells cs e)->∃ p,β i=some p/\cC P F β w (.cells cs e) p/\∀ b,p.bF=some b->¬ F b:=fun hi hm=>hl _ hi _ hm
  have Vy:∀ {es ys:List (Value×D)} {r':List Nat} {ms:Array MapEntry},iE (fun x=>(cJ P m n x.2).map fun y=>((x.1,y.1),y.2)) es=some (ys,r')->(∀ i∈r',i∈r)->ms.size=es.length->(es.map (·.1)).Nodup->
   (∀ (k:Nat) (x:Value×D) (m:MapEntry),es[k]? =some x->ms[k]? =some m->m.key=x.1/\R F β w x.2 m.val)->
   ms.size=ys.length/\(ys.map (·.1)).Nodup/\(∀ (k:Nat) (x:Value×D) (m:MapEntry),ys[k]? =some x->ms[k]? =some m->m.key=x.1)/\∀ (k:Nat) (x:Value×D) (m:MapEntry),ys[k]? =some x->ms[k]? =some m->R F gU w x.2 m.val:=fun {es ys r' ms} h hr bD eh hh=>by
   obtain⟨h1,h2⟩:=F8 h
   have key:∀ (k:Nat) (y:Value×D),ys[k]? =some y->∃ x r2,es[k]? =some x/\y.1=x.1/\cJ P m n x.2=some (y.2,r2)/\∀ i∈r2,i∈r':=fun k y hy=>by
    obtain⟨x,r2,C,J,X⟩:=h2 k y hy;simp only[cU,bR] at J;obtain⟨z,hz,rfl,rfl⟩:=J;exact⟨x,z.2,C,rfl,hz,X⟩
   have keys:ys.map (·.1)=es.map (·.1):=by
    refine List.ext_getElem? fun k=>?_;simp only[List.getElem?_map];cases hy:ys[k]? with
    |some y=>
     obtain⟨x,_,C,J,_⟩:=key k y hy;simp[C,J]
    |none=>
     have:es[k]? =none:=by
      rw[List.getElem?_eq_none_iff] at hy ⊢;omega
     simp[this]
   refine⟨by rw[h1];exact bD,by rw[keys];exact eh,fun k y mm hy fq=>?_,fun k y mm hy fq=>?_⟩
   .obtain⟨x,r2,C,J,_⟩:=key k y hy;rw[J];exact(hh k x mm C fq).1
   .obtain⟨x,r2,C,_,X,g4⟩:=key k y hy;exact DY X (fun i hi=>hl i (hr i (g4 i hi))) (hh k x mm C fq).2
  cases d with
  |sc=>cases h
  |mp i=>
   simp only[cJ] at h;split at h
   .rename_i es hm;simp only[cU,bR] at h;obtain⟨x,hx,rfl,rfl⟩:=h;obtain⟨p,hp,ap,py⟩:=hl i (List.mem_cons_self ..) _ hm;cases hv with
    |zO _ _ h1 _=>rw[h1] at hp;cases hp;exact absurd rfl ap.live
    |mp _ b h1=>
     rw[h1] at hp;cases hp;cases ap with
     |map _ _ ms clock C J X g4=>
      obtain⟨k1,k2,k3,k4⟩:=Vy (ys:=x.1) (r':=x.2) hx (fun i hi=>List.mem_cons_of_mem _ hi) J X g4;exact .im x.1 b ms clock (py b rfl) (AE b) C k1 k2 k3 k4
   .cases h
  |im es=>
   simp only[cJ,cU,bR] at h;obtain⟨x,hx,rfl,rfl⟩:=h;cases hv with
   |im _ b ms clock hf hb hc J X g4 g5=>
    obtain⟨k1,k2,k3,k4⟩:=Vy (ys:=x.1) (r':=x.2) hx (fun _ h=>h) J X (fun k x m hx hm=>⟨g4 k x m hx hm,g5 k x m hx hm⟩);exact .im x.1 b ms clock hf (AE b) hc k1 k2 k3 k4
  |rs i off k=>
   simp only[cJ] at h;split at h
   .rename_i cs e hm;simp only[cU,bR] at h;obtain⟨x,hx,rfl,rfl⟩:=h;obtain⟨p,hp,ap,py⟩:=look (List.mem_cons_self ..) hm;obtain⟨C,J⟩:=many (ys:=x.1) (r':=x.2) hx (fun i hi=>List.mem_cons_of_mem _ hi)
    have nil:(cs.drop off).take (k*P.cellsOf e)=[]->x.1=[]:=fun e=>by
     rw[e] at C;exact List.eq_nil_of_length_eq_zero (by simpa using C)
    cases hv with
    |lp _ _ _ _ h1 _=>
     rw[h1] at hp;cases hp;exact absurd rfl ap.live
    |jr _ a h1=>
     rw[h1] at hp;cases hp;cases ap;rw[nil oS];exact .gy a 0
    |j9 _ _ a b o len room sz h1=>
     rw[nil oS];exact .gy a 0
    |rs _ _ _ cap b o len room sz h1 hn dk h2 h3=>
     rw[h1] at hp;cases hp;obtain⟨dw,hl,bD,_⟩:=ap.rd;obtain⟨us,u1,u2⟩:=(dw.drop off).take (k*P.cellsOf e)
     have af:b<w.heap.size:=by
      cases ap with
      |cells _ _ _ _ _ _ c hb=>exact(Array.getElem?_eq_some_iff.1 hb).1
     exact .sl x.1 k b (o+off) cap us (py b rfl) (AE b) af hn dk (fun j hj=>u1 j (by rw[<- C];exact hj)) fun j d hd=>J j d _ hd fun M U=>u2 j M U
   .cases h
  |rp i off=>
   simp only[cJ] at h;split at h
   .rename_i cs e hm;simp only[cU,bR] at h;obtain⟨x,hx,rfl,rfl⟩:=h;obtain⟨p,hp,ap,py⟩:=look (List.mem_cons_self ..) hm;obtain⟨C,J⟩:=many (ys:=x.1) (r':=x.2) hx (fun i hi=>List.mem_cons_of_mem _ hi);cases hv with
    |qY _ _ _ h1 _=>
     rw[h1] at hp;cases hp;exact absurd rfl ap.live
    |rp _ _ b o len room sz h1=>
     rw[h1] at hp;cases hp;obtain⟨dw,hl,bD,_⟩:=ap.rd;obtain⟨us,u1,u2⟩:=dw.drop off
     have af:b<w.heap.size:=by
      cases ap with
      |cells _ _ _ _ _ _ c hb=>exact(Array.getElem?_eq_some_iff.1 hb).1
     exact .pt x.1 b (o+off) us (py b rfl) (AE b) af (fun j hj=>u1 j (by rw[<- C];exact hj)) fun j d hd=>J j d _ hd fun M U=>u2 j M U
   .cases h
  |cB c d=>
   cases hv with
   |cB _ _ _ h1 h2=>
   cases c with
   |true=>
    simp only[cJ,cU,bR] at h;obtain⟨x,hx,rfl,rfl⟩:=h;exact .cB true _ v (fun _=>DY (r:=x.2) hx hl (h1 rfl)) oS
   |false=>simp only[cJ,aG,bR] at h;obtain⟨rfl,_⟩:=h;exact .cB false _ v oS h2
  |agg cs=>
   simp only[cJ,cU,bR] at h;obtain⟨x,hx,rfl,rfl⟩:=h;obtain⟨vs,rfl,pw,hh⟩:=hv.s3;obtain⟨C,J⟩:=many (ys:=x.1) (r':=x.2) hx (fun _ h=>h);exact .agg _ vs (by rw[C];exact pw) fun k d u hd hu=>J k d u hd fun M U=>hh k M u U hu
  |aM cs=>
   simp only[cJ,cU,bR] at h;obtain⟨x,hx,rfl,rfl⟩:=h;obtain⟨vs,rfl,pw,hh⟩:=hv.DB;obtain⟨C,J⟩:=many (ys:=x.1) (r':=x.2) hx (fun _ h=>h);exact .aM _ vs (by rw[C];exact pw) fun k d u hd hu=>J k d u hd fun M U=>hh k M u U hu
  |sl cs k=>
   simp only[cJ,cU,bR] at h;obtain⟨x,hx,rfl,rfl⟩:=h;obtain⟨C,J⟩:=many (ys:=x.1) (r':=x.2) hx (fun _ h=>h);cases hv with
   |gy a cap=>
    have:x.1=[]:=List.eq_nil_of_length_eq_zero (by simpa using C);rw[this];exact .gy a cap
   |sl _ _ b o cap us hf hb af pg dk hc hh=>
    exact .sl _ k b o cap us hf (AE b) af pg dk (fun j hj=>hc j (by rw[<- C];exact hj)) fun j d hd=>J j d _ hd fun M U=>hh j M U
  |pt cs=>
   simp only[cJ,cU,bR] at h;obtain⟨x,hx,rfl,rfl⟩:=h;obtain⟨C,J⟩:=many (ys:=x.1) (r':=x.2) hx (fun _ h=>h);cases hv with
   |pt _ b o us hf hb af hc hh=>
    exact .pt _ b o us hf (AE b) af (fun j hj=>hc j (by rw[<- C];exact hj)) fun j d hd=>J j d _ hd fun M U=>hh j M U
  |fn f fs cs=>
   simp only[cJ] at h;cases hx:iE (cJ P m n) fs with
   |none=>rw[hx] at h;cases h
   |some x=>
    rw[hx] at h;simp only[cU,bR] at h;obtain⟨y,hy,rfl,rfl⟩:=h;obtain⟨C,J⟩:=many (ys:=x.1) (r':=x.2) hx (fun _ h=>List.mem_append_left _ h);obtain⟨k1,k2⟩:=many (ys:=y.1) (r':=y.2) hy (fun _ h=>List.mem_append_right _ h);cases hv with
    |fn _ _ _ us vs zM pw h1 h2=>
     exact .fn f _ _ us vs (by rw[C];exact zM) (by rw[k1];exact pw) (fun k d u hd hu=>J k d u hd fun M U=>h1 k M u U hu) fun k d u hd hu=>k2 k d u hd fun M U=>h2 k M u U hu
  |s v=>simp only[cJ,aG,bR] at h;obtain⟨rfl,_⟩:=h;obtain⟨rfl,h⟩:=hv.c6;exact .s _ h
  |ub=>simp only[cJ,aG,bR] at h;obtain⟨rfl,_⟩:=h;obtain⟨b,rfl⟩:=hv.Hq;exact .ub b
  |u=>simp only[cJ,aG,bR] at h;obtain⟨rfl,_⟩:=h;exact .u v
  |z=>simp only[cJ,aG,bR] at h;obtain⟨rfl,_⟩:=h;obtain⟨a,rfl⟩:=hv.u6;exact .z a
end
section
variable(P:Program)
def wT(env:Env)(o:Op):Bool:=match o with
 | .pick c _ _=>decide (opd env c).ask
 |o=>o.operands.toList.all fun x=>decide (opd env x).ask
theorem JV{env:Env}{o:Op}(h:wT env o=true):asks env o:=by
 unfold wT at h;unfold asks;cases o<;>first|exact of_decide_eq_true h|exact fun x hx=>of_decide_eq_true (bS.1 h x hx)
abbrev tC:=FuncId->List D->Bool->T Row->Nat->Option (D×T Row×Nat×List Nat×List Nat)
def GG(call:tC)(f:FuncId)(args:List D)(dr:Bool)(o:Oper)(c:cV):Option (cV×List Nat×List Nat):=
 bif wT (dD c.env) o.op then match call f args dr c.mem c.nx with
  |some (r,m,nx,rd,wr)=>match BX c.env o.dst r with
   |some env=>some (⟨env,m,nx⟩,rd,wr)
   |none=>none
  |none=>none
 else none
def It(e:fj)(o:Oper)(c:cV):Option (cV×List Nat×List Nat):=
 bif wT (dD c.env) o.op then match e.dec with
  |isTrue _=>match EG c.mem e.aU with
   |some m=>match BX c.env o.dst e.val with
    |some env=>some (⟨env,m,c.nx+e.new⟩,e.rd,e.aU.map (·.1))
    |none=>none
   |none=>none
  |isFalse _=>none
 else none
def wU(o:Oper)(d:D)(rd:List Nat)(c:cV):Option (cV×List Nat×List Nat):=match BX c.env o.dst d with
 |some env=>some (⟨env,c.mem,c.nx⟩,rd,[])
 |none=>none
def NZ(call:tC)(ops:Array Oper)(dr:Bool)(o:Oper)(c:cV):Option (cV×List Nat×List Nat):=
 match o.guard with
 |none=>match dJ (a6 (dD c.env) o.op) o.op with
  |some (f,args)=>GG call f args dr o c
  |none=>match lM (a6 (dD c.env) o.op) o.op with
   |some _=>none
   |none=>match j6 P o.op (a6 (dD c.env) o.op) (gq c.mem) c.nx with
    |some e=>It e o c
    |none=>none
 |some (j,b)=>match ((ops[j]?).bind (·.dst)).bind fun t=>kz (dD c.env t) b with
  |none=>none
  |some g=>match dJ (a6 (dD c.env) o.op) o.op with
   |some (f,args)=>bif g then GG call f args dr o c else wU o ve [] c
   |none=>match lM (a6 (dD c.env) o.op) o.op with
    |some _=>bif g then none else wU o ve [] c
    |none=>match j6 P o.op (a6 (dD c.env) o.op) (gq c.mem) c.nx with
     |some e=>bif e.aU.isEmpty&&Nat.beq e.new 0 then
      bif g then bif wT (dD c.env) o.op then match e.dec with
       |isTrue _=>wU o (.cB true e.val) e.rd c
       |isFalse _=>none
      else none
      else wU o (.cB false e.val) e.rd c
      else bif g then It e o c else wU o ve [] c
     |none=>bif g then none else wU o ve [] c
def BY(call:tC)(ops:Array Oper)(dr:Bool):List Oper->cV->kf->Option (cV×kf)
 |[],c,tr=>some (c,tr)
 |o::os,c,tr=>match NZ P call ops dr o c with
  |some (c',rd,wr)=>BY call ops dr os c' (tr++[(rd,wr)])
  |none=>none
def Hz(tr:kf)(i j:Nat):Bool:=
 let a:=tr.getD i ([],[])
 let b:=tr.getD j ([],[])
 (a.2.all fun x=> !(b.1.any (Nat.beq x))&& !(b.2.any (Nat.beq x)))&&b.2.all fun x=> !(a.1.any (Nat.beq x))
theorem aca{tr:kf}{i j:Nat}(h:Hz tr i j=true):qo tr i j:=by
 unfold Hz at h;simp only[aW,bS,Bool.not_eq_true',List.any_eq_false,Nat.beq_eq] at h;obtain⟨h1,h2⟩:=h;exact⟨fun x hx=>⟨fun hb=>(h1 x hx).1 x hb rfl,fun hb=>(h1 x hx).2 x hb rfl⟩,fun x hx ha=>h2 x hx x ha rfl⟩
def K9(call:tC)(ops:Array Oper)(dr:Bool)(c:cV):Option cV:=
 bif dr then match bT ops with
  |some cf=>match BY P call ops true ops.toList c [] with
   |some (c',tr)=>bif cf.all fun q=>Hz tr q.1 q.2 then some c' else none
   |none=>none
  |none=>none
 else match BY P call ops false ops.toList c [] with
  |some (c',_)=>some c'
  |none=>none
def DZ(call:tC):Prop:=∀ f args dr m nx r m' C rd wr,call f args dr m nx=some (r,m',C,rd,wr)->∀ env (K:D->Mem->Nat->List Nat->List Nat->Prop),K r (gq m') C rd wr->tq P dr ⟨env,gq m,nx⟩ f args K
end
section
variable{P:Program}
theorem P'{call:tC}(hc:DZ P call){f:FuncId}{args:List D}{dr:Bool}{o:Oper}{c:cV}{C:cV}{rd wr:List Nat}(h:GG call f args dr o c=some (C,rd,wr)){K:St->List Nat->List Nat->Prop}(J:K C.st rd wr):
 asks c.st.env o.op/\tq P dr c.st f args fun r m nx rd wr=>K (St.put ⟨c.st.env,m,nx⟩ o.dst r) rd wr:=by
 unfold GG at h;cases ha:wT (dD c.env) o.op with
 |false=>rw[ha] at h;cases h
 |true=>
  rw[ha] at h;simp only[cond_true] at h;refine⟨JV ha,?_⟩;split at h
  .rename_i r m nx N1 U M;split at h
   .rename_i env X;simp only[aG,bR] at h;obtain⟨rfl,rfl,rfl⟩:=h;refine hc _ _ _ _ _ _ _ _ _ _ M _ _ ?_;have:=K8 X (gq m) nx;simp only[cV.st] at J ⊢;rw[<- this];exact J
   .cases h
  .cases h
theorem AN{o:Oper}{d:D}{rd C wr:List Nat}{c J:cV}(h:wU o d rd c=some (J,C,wr)):J.st=St.put c.st o.dst d/\C=rd/\wr=[]:=by
 unfold wU at h;split at h
 .rename_i env M;simp only[aG,bR] at h;obtain⟨rfl,rfl,rfl⟩:=h;exact⟨K8 M (gq c.mem) c.nx,rfl,rfl⟩
 .cases h
theorem RM{e:fj}{o:Oper}{c C:cV}{rd wr:List Nat}(h:It e o c=some (C,rd,wr)){K:St->List Nat->List Nat->Prop}(J:K C.st rd wr):
 asks c.st.env o.op/\e.pre/\K (St.put ⟨c.st.env,cK c.st.mem e.aU,c.st.nx+e.new⟩ o.dst e.val) e.rd (e.aU.map (·.1)):=by
 unfold It at h;cases ha:wT (dD c.env) o.op with
 |false=>rw[ha] at h;cases h
 |true=>
  rw[ha] at h;simp only[cond_true] at h;refine⟨JV ha,?_⟩;split at h
  .rename_i hp _;refine⟨hp,?_⟩;split at h
   .rename_i m hm;split at h
    .rename_i env M;simp only[aG,bR] at h;obtain⟨rfl,rfl,rfl⟩:=h;have:=K8 M (gq m) (c.nx+e.new);simp only[cV.st] at J ⊢;rw[<- RL hm, <- this];exact J
    .cases h
   .cases h
  .cases h
theorem QT{o:Op}{ρ:Operand->D}{m:Mem}{nx:Nat}{e:fj}(h:j6 P o ρ m nx=some e):bd P o ρ m nx=some e.jd:=by rw[SN,h];rfl
theorem aau{o:Op}{ρ:Operand->D}{m:Mem}{nx:Nat}(h:j6 P o ρ m nx=none):bd P o ρ m nx=none:=by rw[SN,h];rfl
theorem afa{call:tC}(nk:DZ P call){ops:Array Oper}{dr:Bool}{o:Oper}{c c':cV}{rd wr:List Nat}(h:NZ P call ops dr o c=some (c',rd,wr)){K:St->List Nat->List Nat->Prop}(C:K c'.st rd wr):
 ju P c8 ops dr o c.st K:=by
 unfold NZ at h;unfold ju;split at h
 .rename_i hg;simp only[hg];split at h
  .rename_i f args hc;obtain⟨h1,h2⟩:=P' nk h C;refine⟨h1,?_⟩;simp only[cV.st] at h2 ⊢;rw[hc];exact h2
  .rename_i hc;split at h
   .cases h
   .rename_i hy;split at h
    .rename_i e he;obtain⟨h1,h2,h3⟩:=RM h C;refine⟨h1,?_⟩;have:=QT he;simp only[cV.st] at h2 h3 ⊢;rw[hc];simp only;rw[hy];simp only;rw[this];exact⟨h2,h3⟩
    .cases h
 .rename_i j b hg;simp only[hg];split at h
  .cases h
  .rename_i g hgc;have U:(((ops[j]?).bind (·.dst)).bind fun t=>kz (c.st.env t) b)=some g:=hgc;rw[U];simp only;split at h
   .rename_i f args hc;have xI:dJ (a6 c.st.env o.op) o.op=some (f,args):=hc;rw[xI];simp only;cases g with
    |true=>
     simp only[cond_true] at h;exact .inr ⟨fun _=>P' nk h C,oS⟩
    |false=>
     simp only[cond_false] at h;obtain⟨h1,rfl,rfl⟩:=AN h;exact .inr ⟨oS,fun _=>h1▸C⟩
   .rename_i hc;have xI:dJ (a6 c.st.env o.op) o.op=none:=hc;rw[xI];simp only;split at h
    .rename_i y hy;have M:lM (a6 c.st.env o.op) o.op=some y:=hy;rw[M];obtain⟨l,args⟩:=y;cases g with
     |true=>simp at h
     |false=>
      simp only[cond_false] at h;obtain⟨h1,rfl,rfl⟩:=AN h;exact⟨oS,fun _=>h1▸C⟩
    .rename_i hy;have M:lM (a6 c.st.env o.op) o.op=none:=hy;rw[M];simp only;split at h
     .rename_i e he;have X:bd P o.op (a6 c.st.env o.op) c.st.mem c.st.nx=some e.jd:=QT he;rw[X];cases J:(e.aU.isEmpty&&Nat.beq e.new 0) with
      |true=>
       have hb:(e.jd.aU.isEmpty&&e.jd.new==0)=true:=by
        have:∀ a:Nat,(a==0)=Nat.beq a 0:=fun a=>by cases a<;>rfl
        simp only[fj.jd,this];exact J
       simp only[hb,if_true];rw[J] at h;simp only[cond_true] at h;cases g with
       |true=>
        simp only[cond_true] at h;cases ha:wT (dD c.env) o.op with
        |false=>rw[ha] at h;cases h
        |true=>
         rw[ha] at h;simp only[cond_true] at h;split at h
         .rename_i hp _;obtain⟨h1,rfl,rfl⟩:=AN h;exact⟨fun _=>⟨JV ha,hp⟩,h1▸C⟩
         .cases h
       |false=>
        simp only[cond_false] at h;obtain⟨h1,rfl,rfl⟩:=AN h;exact⟨oS,h1▸C⟩
      |false=>
       have hb:(e.jd.aU.isEmpty&&e.jd.new==0)=false:=by
        have:∀ a:Nat,(a==0)=Nat.beq a 0:=fun a=>by cases a<;>rfl
        simp only[fj.jd,this];exact J
       simp only[hb,Bool.false_eq_true,if_false];rw[J] at h;simp only[cond_false] at h;cases g with
       |true=>
        simp only[cond_true] at h;exact⟨fun _=>RM h C,oS⟩
       |false=>
        simp only[cond_false] at h;obtain⟨h1,rfl,rfl⟩:=AN h;exact⟨oS,fun _=>h1▸C⟩
     .rename_i he;have X:bd P o.op (a6 c.st.env o.op) c.st.mem c.st.nx=none:=aau he;rw[X];simp only;cases g with
      |true=>simp at h
      |false=>
       simp only[cond_false] at h;obtain⟨h1,rfl,rfl⟩:=AN h;exact⟨rfl,h1▸C⟩
theorem KD{call:tC}(M:DZ P call){ops:Array Oper}{dr:Bool}{cf:List (Nat×Nat)}{Q:Exit->St->Prop}:∀ (os:List Oper) (c C:cV) (tr J:kf),BY P call ops dr os c tr=some (C,J)->(∀ q∈cf,qo J q.1 q.2)->Q .normal C.st->
 aq P c8 ops dr cf Q os c.st tr
 |[],c,C,tr,J,h,ke,hQ=>by
  simp only[BY,aG,bR] at h;obtain⟨rfl,rfl⟩:=h;exact⟨ke,hQ⟩
 |o::os,c,C,tr,J,h,ke,hQ=>by
  simp only[BY] at h;split at h
  .rename_i c1 rd wr h1;exact .inl<| afa M h1 (KD M os c1 C _ J h ke hQ)
  .cases h
theorem Zr{call:tC}(U:DZ P call){ops:Array Oper}{dr:Bool}{c J:cV}(h:K9 P call ops dr c=some J){id:Nat}{rf:Bool}{Q:Exit->St->Prop}(M:Q .normal J.st):AW P c8 rf (.region id ops dr) Q c.st:=by
 unfold K9 at h;cases dr with
 |true=>
  simp only[cond_true] at h;split at h
  .rename_i cf X;split at h
   .rename_i c1 tr h1;cases C:cf.all fun q=>Hz tr q.1 q.2 with
    |false=>rw[C] at h;cases h
    |true=>
     rw[C] at h;simp only[cond_true,aG] at h;subst h
     show match bT ops with
      |some cf=>DW P c8 ops cf Q c.st
      |none=>False
     rw[X];exact .inl<| KD U _ _ _ _ _ h1 (fun q hq=>aca (bS.1 C q hq)) M
   .cases h
  .cases h
 |false=>
  simp only[cond_false] at h;split at h
  .rename_i c1 tr h1;simp only[aG] at h;subst h;exact KD (cf:=[]) U _ _ _ _ _ h1 oS M
  .cases h
end
structure Ctx where
 mQ:FuncId->Option (Func×Code)
 iter:FuncId->List D->List D->Option (List (List D))
 known:FuncId->List D->Option D
structure Ctx.Ok(P:Program)(x:Ctx):Prop where
 mix:P.follows .mixedOrders=true
 mQ:∀ f fn c,x.mQ f=some (fn,c)->lX P f fn c
 iter:∀ f fs cs xs,x.iter f fs cs=some xs->xe P f fs cs xs/\∀ y∈xs,∀ d∈y,Tr d
 known:∀ f args r,x.known f args=some r->aB P f args r
def Bk:Nat->List D->T D->Option (T D)
 |_,[],t=>some t
 |k,d::ds,t=>match t.put k (some d) with
  |some C=>Bk (k+1) ds C
  |none=>none
theorem Qa:∀ {ds:List D} {k:Nat} {t C:T D},Bk k ds t=some C->∀ j,dD C j=if k<=j/\j<k+ds.length then ds.getD (j - k) .u else dD t j
 |[],k,t,C,h,j=>by
  simp only[Bk,aG] at h;subst h;rw[if_neg oS]
 |d::ds,k,t,C,h,j=>by
  simp only[Bk] at h;split at h
  .rename_i t1 h1;rw[Qa h j,KC h1];by_cases hj:j=k
   .subst hj;rw[if_neg oG,aj,if_pos oS];simp
   .rw[aA _ _ hj];by_cases af:k+1<=j/\j<k+1+ds.length
    .rw[if_pos af,if_pos oP];have:j - k=(j - (k+1))+1:=by omega
     rw[this];simp
    .rw[if_neg af,if_neg oP]
  .cases h
theorem Zs{args:List D}{t:T D}(h:Bk 0 args .leaf=some t):dD t=iX args:=by
 funext j;rw[Qa h j];unfold iX;split
 .simp
 .rename_i hj;have:args.length<=j:=by omega
  simp[dD,T.get,this]
def A6:T D->List Tmp->List D->Option (T D)
 |t,p::ps,d::ds=>match t.put p (some d) with
  |some C=>A6 C ps ds
  |none=>none
 |t,_,_=>some t
theorem PK:∀ {ps:List Tmp} {ds:List D} {t C:T D},A6 t ps ds=some C->dD C=nT (dD t) ps ds
 |[],ds,t,C,h=>by simp only[A6,aG] at h;subst h;rfl
 |_::_,[],t,C,h=>by simp only[A6,aG] at h;subst h;rfl
 |p::ps,d::ds,t,C,h=>by
  simp only[A6] at h;split at h
  .rename_i t1 h1;rw[PK h,KC h1];rfl
  .cases h
section
variable(P:Program)
def MY(c:cV):ResultVar->Option D
 | .tmp t=>some (dD c.env t)
 | .cell a t=>match dD c.env a with
  | .rp i off=>match c.mem.get i with
   |some (.cells cs _)=>bif aI P t&&Nat.ble (off+P.cellsOf t) cs.length then some (hD P t (cs.drop off)) else none
   |_=>none
  | .pt cs=>bif aI P t&&Nat.ble (P.cellsOf t) cs.length then some (hD P t cs) else none
  |_=>none
def BZ(c:cV):List ResultVar->Option (List D)
 |[]=>some []
 |r::rs=>match MY P c r with
  |some d=>match BZ c rs with
   |some ds=>some (d::ds)
   |none=>none
  |none=>none
def EH(x:Ctx)(C:Bool->Code->cV->Option (Exit×cV))(f:FuncId)(args:List D)(m:T Row)(nx:Nat):Option (D×T Row×Nat):=
 match x.mQ f with
 |none=>none
 |some (fn,c)=>bif Nat.ble args.length fn.ntmps then
  match Bk 0 args .leaf with
  |none=>none
  |some t=>match C true c ⟨t,m,nx⟩ with
   |some (.normal,s)=>match BZ P s fn.results.toList with
    |some ds=>some (qP ds,s.mem,s.nx)
    |none=>none
   |some (.ret,s)=>match BZ P s fn.results.toList with
    |some ds=>some (qP ds,s.mem,s.nx)
    |none=>none
   |_=>none
  else none
def depth:Nat:=12
def BD(x:Ctx)(C:Bool->Code->cV->Option (Exit×cV))(f:FuncId)(args:List D):Option (D ⊕ (List D×Nat×TypeId)):=
 match EH P x C f args .leaf 0 with
 |none=>none
 |some (d,m,_)=>match d with
  | .rs i 0 k=>match m.get i with
   |some (.cells es t)=>bif es.all (rj depth) then some (.inr (es,k,t)) else match cJ P (gq m) depth (.rs i 0 k) with
    |some (r,_)=>some (.inl r)
    |none=>none
   |_=>none
  |d=>match cJ P (gq m) depth d with
   |some (r,_)=>some (.inl r)
   |none=>none
def Mk(x:Ctx)(C:Bool->Code->cV->Option (Exit×cV)):tC:=fun f args dr m nx=>
 match x.known f args with
 |some r=>some (r,m,nx,[],[])
 |none=>bif args.all (rj depth) then match BD P x C f args with
  |some (.inl r)=>some (r,m,nx,[],[])
  |some (.inr (es,k,t))=>match m.put nx (some (.cells es t)) with
   |some m'=>some (.rs nx 0 k,m',nx+1,[],[nx])
   |none=>none
  |none=>none
  else bif dr then match iE (cJ P (gq m) depth) args with
   |none=>none
   |some (dZ,rds)=>match x.known f dZ with
    |some r=>bif r.gK then some (r,m,nx,rds,[]) else none
    |none=>match BD P x C f dZ with
     |some (.inl r)=>bif r.gK then some (r,m,nx,rds,[]) else none
     |_=>none
  else match EH P x C f args m nx with
   |some (d,m',al)=>some (d,m',al,[],[])
   |none=>none
def DG(C:Bool->Code->cV->Option (Exit×cV))(env:T D)(ps:List Tmp)(assign body:Code):List (List D)->T Row->Nat->Option (Exit×T Row×Nat)
 |[],m,nx=>some (.normal,m,nx)
 |y::ys,m,nx=>match A6 env ps y with
  |none=>none
  |some t=>match C false assign ⟨t,m,nx⟩ with
   |some (.normal,s)=>match C false body s with
    |some (.normal,s')=>DG C env ps assign body ys s'.mem s'.nx
    |some (.ret,s')=>some (.ret,s'.mem,s'.nx)
    |some (.exit i,s')=>some (.exit i,s'.mem,s'.nx)
    |_=>none
   |_=>none
def qt(x:Ctx)(C:Bool->Code->cV->Option (Exit×cV))(rf:Bool)(c:Code)(s:cV):Option (Exit×cV):=match c with
 | .skip=>some (.normal,s)
 | .region _ ops dr=>match K9 P (Mk P x C) ops dr s with
  |some s'=>some (.normal,s')
  |none=>none
 | .seq a b=>match C rf a s with
  |some (.normal,s')=>C rf b s'
  |r=>r
 | .cond c a b=>bif decide (opd (dD s.env) c).ask then match (opd (dD s.env) c).core with
   | .s (.bool t)=>bif t then C rf a s else C rf b s
   |_=>none
  else none
 | .block id b=>match C rf b s with
  |some (.exit i,s')=>bif Nat.beq i id then some (.normal,s') else some (.exit i,s')
  |r=>r
 | .scope b=>match C rf b s with
  |some (.goto _,_)=>none
  |r=>r
 | .loop b=>match C rf b s with
  |some (.normal,s')=>C rf (.loop b) s'
  |r=>r
 | .rangeFunc g ps assign body=>bif rf&&decide (opd (dD s.env) g).ask then match (opd (dD s.env) g).core with
   | .fn (.func f) fs cs=>match x.iter f fs cs with
    |some ys=>bif ys.all fun y=>Nat.beq y.length ps.size then match DG C s.env ps.toList assign body ys s.mem s.nx with
     |some (e,m,nx)=>some (e,⟨s.env,m,nx⟩)
     |none=>none
     else none
    |none=>none
   |_=>none
  else none
 | .exit id=>some (.exit id,s)
 | .label _=>some (.normal,s)
 | .ret=>some (.ret,s)
 |_=>none
def Cs(x:Ctx):Nat->Bool->Code->cV->Option (Exit×cV)
 |0=>fun _ _ _=>none
 |n+1=>qt P x (Cs x n)
end
section
variable{P:Program}{x:Ctx}
theorem LL{c:cV}{K:List D->Prop}:∀ {rs:List ResultVar} {ds acc:List D},BZ P c rs=some ds->K (acc++ds)->ov P c.st rs acc K
 |[],ds,acc,h,hK=>by
  simp only[BZ,aG] at h;subst h;simpa[ov] using hK
 |r::rs,ds,acc,h,hK=>by
  simp only[BZ] at h;split at h
  .rename_i d hd;split at h
   .rename_i U C;simp only[aG] at h;subst h
    have M:∃ p,ou P c.st r=some (p,d)/\p:=by
     cases r with
     |tmp t=>
      simp only[MY,aG] at hd;exact⟨True,by simp only[ou,cV.st,hd],trivial⟩
     |cell a t=>
      simp only[MY] at hd;simp only[ou,cV.st];split at hd
      .rename_i i off ha;rw[ha];simp only;split at hd
       .rename_i cs e hm;have J:gq c.mem i=some (.cells cs e):=hm;rw[J];simp only;cases hb:(aI P t&&Nat.ble (off+P.cellsOf t) cs.length) with
        |false=>rw[hb] at hd;cases hd
        |true=>
         rw[hb] at hd;simp only[cond_true,aG] at hd;simp only[aW,Nat.ble_eq] at hb;exact⟨_,by rw[hd],hb⟩
       .cases hd
      .rename_i cs ha;rw[ha];simp only;cases hb:(aI P t&&Nat.ble (P.cellsOf t) cs.length) with
       |false=>rw[hb] at hd;cases hd
       |true=>
        rw[hb] at hd;simp only[cond_true,aG] at hd;simp only[aW,Nat.ble_eq] at hb;exact⟨_,by rw[hd],hb⟩
      .cases hd
    obtain⟨p,h1,h2⟩:=M;simp only[ov,h1];exact⟨h2,LL C (by simpa using hK)⟩
   .cases h
  .cases h
def EI(P:Program)(C:Bool->Code->cV->Option (Exit×cV)):Prop:=∀ rf c s e s',C rf c s=some (e,s')->∀ Q:Exit->St->Prop,Q e s'.st->AW P c8 rf c Q s.st
theorem SQ(hx:x.Ok P){M:Bool->Code->cV->Option (Exit×cV)}(X:EI P M){f:FuncId}{args:List D}{m m':T Row}{nx J:Nat}{d:D}(h:EH P x M f args m nx=some (d,m',J)):
 ∃ fn c,lX P f fn c/\Nat.ble args.length fn.ntmps=true/\∀ K:D->St->Prop,(∀ env,K d ⟨env,gq m',J⟩)->AW P c8 true c (iD P fn.results.toList K) ⟨iX args,gq m,nx⟩:=by
 unfold EH at h;split at h
 .cases h
 .rename_i fn c MZ;cases hb:Nat.ble args.length fn.ntmps with
  |false=>rw[hb] at h;cases h
  |true=>
   rw[hb] at h;simp only[cond_true] at h;split at h
   .cases h
   .rename_i t ht;refine⟨fn,c,hx.mQ f fn c MZ,hb,fun K U=>?_⟩;rw[<- Zs ht];split at h
    .rename_i s hs;split at h
     .rename_i ds C;simp only[aG,bR] at h;obtain⟨rfl,rfl,rfl⟩:=h;exact X _ _ _ _ _ hs _ (LL (K:=fun ds=>K (qP ds) s.st) C (U _))
     .cases h
    .rename_i s hs;split at h
     .rename_i ds C;simp only[aG,bR] at h;obtain⟨rfl,rfl,rfl⟩:=h;exact X _ _ _ _ _ hs _ (LL (K:=fun ds=>K (qP ds) s.st) C (U _))
     .cases h
    .cases h
theorem Zt(iC:P.follows .mixedOrders=true){fn:Func}{f:FuncId}{c:Code}(hf:lX P f fn c){args:List D}(hn:Nat.ble args.length fn.ntmps=true)(ht:∀ a∈args,Tr a){d r:D}{m:Mem}{n:Nat}{rds:List Nat}(hd:cJ P m n d=some (r,rds))
 (h:AW P c8 true c (iD P fn.results.toList fun d' st=>d'=d/\st.mem=m) ⟨iX args,fun _=>none,0⟩):aB P f args r:=
 ⟨hf.he,ht,fun F w vs U X=>(AT iC hf.hf hf.hb hf.af hn h (fun _ _ _ _ _ h=>h.elim) (F6 U) (fun _ _=>rfl) X).mono fun e w' hp=>by
  obtain⟨v,d',st',β',h1,⟨rfl,rfl⟩,J,C,h5,M,h7,h8⟩:=hp
  exact⟨v,h1,DY hd (fun i _ r hr=>by
   obtain⟨p,hp,ap⟩:=C.row i r hr
   exact⟨p,hp,ap,fun b hb=>C.nf i p b hp hb⟩) J,FN M⟩⟩
theorem FY(hx:x.Ok P){J:Bool->Code->cV->Option (Exit×cV)}(X:EI P J){f:FuncId}{args:List D}(ht:∀ a∈args,Tr a):
 (∀ r,BD P x J f args=some (.inl r)->aB P f args r)/\∀ es k t,BD P x J f args=some (.inr (es,k,t))->kW P f args es k t:=by
 unfold BD;cases U:EH P x J f args .leaf 0 with
 |none=>exact⟨fun r h=>oH,fun es k t h=>oH⟩
 |some q=>
  obtain⟨d,m,nx⟩:=q;obtain⟨fn,c,hf,hn,C⟩:=SQ hx X U
  have deep:∀ d r rds,d=d->cJ P (gq m) depth d=some (r,rds)->(∀ K:D->St->Prop,(∀ env,K d ⟨env,gq m,nx⟩)->AW P c8 true c (iD P fn.results.toList K) ⟨iX args,gq .leaf,0⟩)->aB P f args r:=fun d r rds _ hd C=>
   Zt hx.mix hf hn ht hd (C _ fun env=>⟨rfl,rfl⟩)
  simp only;split
  .rename_i i k;split
   .rename_i es t hm;cases M:es.all (rj depth) with
    |true=>
     simp only[cond_true];refine⟨fun r h=>(by simp at h),fun es' k' t' h=>?_⟩;simp only[aG,Sum.inr.injEq,bR] at h;obtain⟨rfl,rfl,rfl⟩:=h;exact RJ hx.mix hf hn ht (fun a ha=>qq (bS.1 M a ha)) (C _ fun env=>⟨i,rfl,hm⟩)
    |false=>
     simp only[cond_false];split
     .rename_i r rds hd;exact⟨fun r' h=>(by simp only[aG,Sum.inl.injEq] at h;subst h;exact deep _ _ _ rfl hd C),fun es k t h=>(by simp at h)⟩
     .exact⟨fun r h=>oH,fun es k t h=>oH⟩
   .exact⟨fun r h=>oH,fun es k t h=>oH⟩
  .split
   .rename_i r rds hd;exact⟨fun r' h=>(by simp only[aG,Sum.inl.injEq] at h;subst h;exact deep _ _ _ rfl hd C),fun es k t h=>(by simp at h)⟩
   .exact⟨fun r h=>oH,fun es k t h=>oH⟩
theorem CX{m:Mem}{n:Nat}{rds:List Nat}:∀ {aS bs:List D} {r:List Nat},iE (cJ P m n) aS=some (bs,r)->(∀ i∈r,i∈rds)->jK P rds m aS bs
 |[],bs,r,h,_=>by
  simp only[iE,aG,bR] at h;obtain⟨rfl,_⟩:=h;trivial
 |a::aS,bs,r,h,hr=>by
  simp only[iE] at h;split at h
  .cases h
  .rename_i y hy;split at h
   .cases h
   .rename_i ys C;simp only[aG,bR] at h;obtain⟨rfl,rfl⟩:=h;exact⟨fun F β w v hl hv=>DY (r:=y.2) hy (fun i hi=>hl i (hr i (List.mem_append_left _ hi))) hv,CX (r:=ys.2) C fun i hi=>hr i (List.mem_append_right _ hi)⟩
theorem acb(hx:x.Ok P){ev:Bool->Code->cV->Option (Exit×cV)}(U:EI P ev):DZ P (Mk P x ev):=by
 intro f args dr m nx r m' al rd wr h env K C;unfold Mk at h;split at h
 .rename_i r' hk;simp only[aG,bR] at h;obtain⟨rfl,rfl,rfl,rfl,rfl⟩:=h;exact .inl ⟨_,hx.known _ _ _ hk,C⟩
 .cases M:args.all (rj depth) with
  |true=>
   rw[M] at h;simp only[cond_true] at h;obtain⟨h1,h2⟩:=FY hx U (f:=f) (args:=args) fun a ha=>qq (bS.1 M a ha);split at h
   .rename_i r' hp;simp only[aG,bR] at h;obtain⟨rfl,rfl,rfl,rfl,rfl⟩:=h;exact .inl ⟨_,h1 _ hp,C⟩
   .rename_i es k t hp;split at h
    .rename_i m1 hm;simp only[aG,bR] at h;obtain⟨rfl,rfl,rfl,rfl,rfl⟩:=h;rw[RK hm] at C;exact .inr (.inr (.inl ⟨es,k,t,h2 _ _ _ hp,C⟩))
    .cases h
   .cases h
  |false=>
   rw[M] at h;simp only[cond_false] at h;cases dr with
   |true=>
    simp only[cond_true] at h;split at h
    .cases h
    .rename_i J rds X;have bg:∀ a∈J,Tr a:=rK X fun x y r' h=>GF h;have fI:jK P rds (gq m) args J:=CX X fun _ h=>h;split at h
     .rename_i r' hk;cases hs:r'.gK with
      |false=>rw[hs] at h;cases h
      |true=>
       rw[hs] at h;simp only[cond_true,aG,bR] at h;obtain⟨rfl,rfl,rfl,rfl,rfl⟩:=h;exact .inr (.inl ⟨J,_,_,fI,hx.known _ _ _ hk,hs,C⟩)
     .split at h
      .rename_i r' hp;cases hs:r'.gK with
       |false=>rw[hs] at h;cases h
       |true=>
        rw[hs] at h;simp only[cond_true,aG,bR] at h;obtain⟨rfl,rfl,rfl,rfl,rfl⟩:=h;exact .inr (.inl ⟨J,_,_,fI,(FY hx U bg).1 _ hp,hs,C⟩)
      .cases h
   |false=>
    simp only[cond_false] at h;split at h
    .rename_i d m1 bV dn;simp only[aG,bR] at h;obtain⟨rfl,rfl,rfl,rfl,rfl⟩:=h;obtain⟨fn,c,hf,hn,zW⟩:=SQ hx U dn;exact .inr (.inr (.inr (.inl ⟨rfl,RI hx.mix hf hn (zW (fun d st=>K d st.mem st.nx [] []) fun env=>C)⟩)))
    .cases h
theorem Qb{X:Bool->Code->cV->Option (Exit×cV)}(J:EI P X){env:T D}{ps:List Tmp}{assign body:Code}{Q:Exit->St->Prop}:∀ {ys:List (List D)} {m m':T Row} {nx M:Nat} {e:Exit},DG X env ps assign body ys m nx=some (e,m',M)->
 Q e ⟨dD env,gq m',M⟩->∃ I:Nat->Mem->Nat->Prop,I 0 (gq m) nx/\
  (∀ k m nx y,ys[k]? =some y->I k m nx->AW P c8 false assign (DE fun s=>AW P c8 false body (yK (dD env) (I (k+1)) Q) s) ⟨nT (dD env) ps y,m,nx⟩)/\
  ∀ m nx,I ys.length m nx->Q .normal ⟨dD env,m,nx⟩
 |[],m,m',nx,M,e,h,hQ=>by
  simp only[DG,aG,bR] at h;obtain⟨rfl,rfl,rfl⟩:=h;exact⟨fun _ a b=>a=gq m/\b=nx,⟨rfl,rfl⟩,fun k _ _ y hy=>by simp at hy,fun a b h=>by obtain⟨rfl,rfl⟩:=h;exact hQ⟩
 |y::ys,m,m',nx,M,e,h,hQ=>by
  simp only[DG] at h;split at h
  .cases h
  .rename_i t ht;have zt:=PK ht;split at h
   .rename_i s hs
    have done:∀ (I:Nat->Mem->Nat->Prop),AW P c8 false body (yK (dD env) (I 0) Q) s.st->
     (∀ k m nx y,ys[k]? =some y->I k m nx->AW P c8 false assign (DE fun s=>AW P c8 false body (yK (dD env) (I (k+1)) Q) s) ⟨nT (dD env) ps y,m,nx⟩)->
     (∀ m nx,I ys.length m nx->Q .normal ⟨dD env,m,nx⟩)->
     ∃ I:Nat->Mem->Nat->Prop,I 0 (gq m) nx/\
      (∀ k m nx z,(y::ys)[k]? =some z->I k m nx->AW P c8 false assign (DE fun s=>AW P c8 false body (yK (dD env) (I (k+1)) Q) s) ⟨nT (dD env) ps z,m,nx⟩)/\
      ∀ m nx,I (y::ys).length m nx->Q .normal ⟨dD env,m,nx⟩:=fun I h1 h2 h3=>by
     refine⟨fun k a b=>match k with|0=>a=gq m/\b=nx|k+1=>I k a b,⟨rfl,rfl⟩,fun k a b z hz U=>?_,fun a b U=>h3 a b U⟩;cases k with
     |zero=>
      obtain⟨rfl,rfl⟩:=U;simp only[List.getElem?_cons_zero,aG] at hz;subst hz;rw[<- zt];exact J _ _ _ _ _ hs _ h1
     |succ k=>exact h2 k a b z (by simpa using hz) U
    split at h
    .rename_i s' C;obtain⟨I,g1,g2,g3⟩:=Qb J h hQ;exact done I (J _ _ _ _ _ C _ g1) g2 g3
    .rename_i s' C;simp only[aG,bR] at h;obtain⟨rfl,rfl,rfl⟩:=h;exact done (fun _ _ _=>False) (J _ _ _ _ _ C _ hQ) (fun _ _ _ _ _ h=>h.elim) fun _ _ h=>h.elim
    .rename_i i s' C;simp only[aG,bR] at h;obtain⟨rfl,rfl,rfl⟩:=h;exact done (fun _ _ _=>False) (J _ _ _ _ _ C _ hQ) (fun _ _ _ _ _ h=>h.elim) fun _ _ h=>h.elim
    .cases h
   .cases h
theorem TT(hx:x.Ok P):∀ n,EI P (Cs P x n):=by
 intro n
 induction n using Nat.strongRecOn with
 |_ n ih=>
  cases n with
  |zero=>intro rf c s e s' h;cases h
  |succ n=>
   have J:=ih n (Nat.lt_succ_self n);intro rf c s e s' h Q C;simp only[Cs] at h;cases c with
   |skip=>
    simp only[qt,aG,bR] at h;obtain⟨rfl,rfl⟩:=h;exact C
   |ret=>
    simp only[qt,aG,bR] at h;obtain⟨rfl,rfl⟩:=h;exact C
   |label l=>
    simp only[qt,aG,bR] at h;obtain⟨rfl,rfl⟩:=h;exact C
   |exit id=>
    simp only[qt,aG,bR] at h;obtain⟨rfl,rfl⟩:=h;exact C
   |region id ops dr=>
    simp only[qt] at h;split at h
    .rename_i X h1;simp only[aG,bR] at h;obtain⟨rfl,rfl⟩:=h;exact Zr (acb hx J) h1 C
    .cases h
   |seq a b=>
    simp only[qt] at h;split at h
    .rename_i X h1;exact J _ _ _ _ _ h1 _ ⟨_,.refl _,J _ _ _ _ _ h _ C⟩
    .rename_i U;refine J _ _ _ _ _ h _ ?_;cases e with
     |normal=>exact absurd h (U s')
     |_=>exact C
   |cond c a b=>
    simp only[qt] at h;cases M:decide (opd (dD s.env) c).ask with
    |false=>rw[M] at h;cases h
    |true=>
     rw[M] at h;simp only[cond_true] at h;refine⟨of_decide_eq_true M,?_⟩;split at h
     .rename_i t ht;have ht':(opd s.st.env c).core=.s (.bool t):=ht;rw[ht'];cases t with
      |true=>exact⟨fun _=>J _ _ _ _ _ h _ C,fun h=>by cases h⟩
      |false=>exact⟨fun h=>oH,fun _=>J _ _ _ _ _ h _ C⟩
     .cases h
   |block id b=>
    simp only[qt] at h;split at h
    .rename_i i X h1;refine J _ _ _ _ _ h1 (fE id Q) ?_;simp only[fE];cases hb:Nat.beq i id with
     |true=>
      rw[hb] at h;simp only[cond_true,aG,bR] at h;obtain⟨rfl,rfl⟩:=h;rw[if_pos (Nat.eq_of_beq_eq_true hb)];exact C
     |false=>
      rw[hb] at h;simp only[cond_false,aG,bR] at h;obtain⟨rfl,rfl⟩:=h;rw[if_neg (Nat.ne_of_beq_eq_false hb)];exact C
    .rename_i U;refine J _ _ _ _ _ h (fE id Q) ?_;cases e with
     |exit i=>exact absurd h (U i s')
     |_=>exact C
   |scope b=>
    simp only[qt] at h;split at h
    .cases h
    .rename_i U;refine J _ _ _ _ _ h (DV Q) ?_;cases e with
     |goto l=>exact absurd h (U l s')
     |_=>exact C
   |loop b=>
    refine RN (fun j st=>j<=n+1/\∃ s,st=s.st/\Cs P x j rf (.loop b) s=some (e,s')) (j₀:=n+1) ⟨aZ _,s,rfl,h⟩ ?_;rintro j st ⟨hj,s,rfl,hs⟩;cases j with
    |zero=>cases hs
    |succ j=>
     have WM:=ih j oG;simp only[Cs,qt] at hs;split at hs
     .rename_i X h1;exact WM _ _ _ _ _ h1 _ ⟨_,.refl _,j,Nat.lt_succ_self j,oG,X,rfl,hs⟩
     .rename_i U;refine WM _ _ _ _ _ hs _ ?_;cases e with
      |normal=>exact absurd hs (U s')
      |_=>exact C
   |rangeFunc g ps assign body=>
    simp only[qt] at h;cases M:(rf&&decide (opd (dD s.env) g).ask) with
    |false=>rw[M] at h;cases h
    |true=>
     rw[M] at h;simp only[cond_true] at h;simp only[aW] at M;split at h
     .rename_i f fs cs u7;split at h
      .rename_i ys N3;cases bx:ys.all fun y=>Nat.beq y.length ps.size with
       |false=>rw[bx] at h;cases h
       |true=>
        rw[bx] at h;simp only[cond_true] at h;split at h
        .rename_i e1 m nx hr;simp only[aG,bR] at h;obtain⟨rfl,rfl⟩:=h;obtain⟨I,g1,g2,g3⟩:=Qb J hr C;obtain⟨k1,k2⟩:=hx.iter _ _ _ _ N3;exact⟨M.1,of_decide_eq_true M.2,f,fs,cs,ys,I,u7,k1,fun y hy=>⟨Nat.eq_of_beq_eq_true (bS.1 bx y hy),k2 y hy⟩,g1,g2,g3⟩
        .cases h
      .cases h
     .cases h
   |_=>cases h
theorem oV(hx:x.Ok P)(n:Nat){f:FuncId}{args:List D}{r:D}(ht:args.all (rj depth)=true)(h:BD P x (Cs P x n) f args=some (.inl r)):aB P f args r:=
 (FY hx (TT hx n) fun a ha=>qq (bS.1 ht a ha)).1 r h
end
end Go.Abs
namespace Go.Proofs.Tryz.K
open Go.Abs
noncomputable def Nb:T (Func×Code):=
 (.node none (.node none .leaf (.node none .leaf (.node none .leaf (.node none (.node none (.node none (.node none (.node (some (Tryz.f269,Tv)) .leaf .leaf) .leaf) .leaf) .leaf) (.node none .leaf (.node none .leaf (.node (some (Tryz.f253,Tt)) .leaf .leaf))))))) (.node none (.node none (.node none (.node none (.node none (.node none (.node none (.node (some (Tryz.f256,Tu)) .leaf .leaf) .leaf) .leaf) .leaf) .leaf) .leaf) .leaf) (.node none (.node none (.node none .leaf (.node none .leaf (.node none (.node (some (Tryz.f178,Ts)) .leaf .leaf) .leaf))) .leaf) .leaf)))
def IQ(p:Nat->Func×Code->Prop):(Nat->Nat)->T (Func×Code)->Prop
 |_,.leaf=>True
 |g,.node v l r=>(∀ a,v=some a->p (g 0) a)/\IQ p (fun i=>g (2*i+1)) l/\IQ p (fun i=>g (2*i+2)) r
theorem KV{p:Nat->Func×Code->Prop}:∀ {t:T (Func×Code)} {g:Nat->Nat},IQ p g t->∀ i a,t.get i=some a->p (g i) a
 | .leaf,_,_,i,a,h=>by cases h
 | .node v l r,g,⟨h1,h2,h3⟩,i,a,h=>by
  rw[T.uz] at h;by_cases h0:i=0
  .subst h0;exact h1 a (by simpa using h)
  .rw[if_neg h0] at h;by_cases C:i % 2=1
   .rw[if_pos C] at h;have:=KV h2 _ a h;have e:2*(i / 2)+1=i:=by omega
    simpa only[e] using this
   .rw[if_neg C] at h;have:=KV h3 _ a h;have e:2*(i / 2 - 1)+2=i:=by omega
    simpa only[e] using this
theorem e0{p:Func×Code->Prop}:∀ a,(none:Option (Func×Code))=some a->p a:=fun _ h=>by cases h
theorem e1{i:Nat}{fn:Func}{c:Code}(h:lX prog i fn c):∀ a,some (fn,c)=some a->lX prog i a.1 a.2:=fun _ e=>by cases e;exact h
theorem aeO:IQ (fun i a=>lX prog i a.1 a.2) (fun i=>i) Nb:=
 ⟨e0,⟨e0,trivial,⟨e0,trivial,⟨e0,trivial,⟨e0,⟨e0,⟨e0,⟨e0,⟨e1 aiO,trivial,trivial⟩,trivial⟩,trivial⟩,trivial⟩,⟨e0,trivial,⟨e0,trivial,⟨e1 aiM,trivial,trivial⟩⟩⟩⟩⟩⟩⟩,⟨e0,⟨e0,⟨e0,⟨e0,⟨e0,⟨e0,⟨e0,⟨e1 aiN,trivial,trivial⟩,trivial⟩,trivial⟩,trivial⟩,trivial⟩,trivial⟩,trivial⟩,⟨e0,⟨e0,⟨e0,trivial,⟨e0,trivial,⟨e0,⟨e1 aiL,trivial,trivial⟩,trivial⟩⟩⟩,trivial⟩,trivial⟩⟩⟩
theorem afj(f:FuncId)(fn:Func)(c:Code)(h:Nb.get f=some (fn,c)):lX prog f fn c:=KV aeO f (fn,c) h
end Go.Proofs.Tryz.K
section
open Go Go.Abs Go.Proofs Go.Argus
namespace Go.Proofs.Tryz.K
noncomputable def cx0:Ctx:=⟨fun f=>Nb.get f,fun _ _ _=>none,fun _ _=>none⟩
theorem o4:cx0.Ok prog:=⟨mixed,afj,fun _ _ _ _ h=>oH,fun _ _ _ h=>oH⟩
theorem Dx{off:Nat}{vs cs:List D}(hv:vs.length=20)(hl:off+20<=cs.length)(C:vs.all D.one=true):aI prog 201=true/\vs.length=prog.cellsOf 201/\off+prog.cellsOf 201<=cs.length/\vs.all D.one=true:=by
 rw[sq];exact⟨t201,hv,hl,C⟩
theorem lY{w:List Int}{m:Nat}(U:w.length=20)(hm:m<1280):aB prog 135 [gL w,I m] (B (qR w m)):=by
 have M:∀ a∈[gL w,I m],Tr a:=.cons (qS _) (.cons (.s _) .nil);have hi:w[m / 64]? =some w[m / 64]:=aL oG;have hg:w.getD (m / 64) 0=w[m / 64]:=by simp[dF,hi]
 have C:=UP (m:=m) oG;have J:=UQ m;have kd:=nP (f:=cS) hi;refine bj agh M (Tr.s _) ?_;rw[agi];refine ws ?_;refine ab ?_;refine er ?_;refine SS ?_;refine av (T3 rfl rfl C) ak ⟨rfl,oG⟩ ?_;refine ay ?_;refine av (T4 rfl rfl J) ak ⟨rfl,oG⟩ ?_;refine av (afR rfl rfl) ak oG ?_;refine av (Uv rfl rfl) ak rfl ?_;refine ab ?_;refine aa (aD (d:=.s (.bool _)) rfl ?_);unfold qR;rw[hg];rfl
theorem qT{w:List Int}{n:Int}(X:w.length=20)(hn: -1000000<=n/\n<1280):aB prog 179 [gL w,I n] (gL (r7 w n)):=by
 have U:∀ a∈[gL w,I n],Tr a:=.cons (qS _) (.cons (.s _) .nil);refine bj agj U (qS _) ?_;rw[agk];refine ws ?_;refine ab ?_;refine aa (az (ag ?_));by_cases h0:0<=n
 .obtain⟨m,rfl⟩:=lv h0;have hm:m<1280:=by omega
  have hi:w[m / 64]? =some w[m / 64]:=aL oG;have hg:w.getD (m / 64) 0=w[m / 64]:=by simp[dF,hi]
  have J:=UP (m:=m) oG;have M:=UQ m;have kd:=nP (f:=cS) hi;have C:decide (0<=(m:Int))=true:=by simp
  refine SS ?_;refine av (Bn rfl rfl C) ak rfl ?_;refine aa (wX (dV aaM ?_));refine SS ?_;refine av (T3 rfl rfl J) ak ⟨rfl,oG⟩ ?_;refine ay ?_;refine av (T4 rfl rfl M) ak ⟨rfl,oG⟩ ?_;refine av (afQ rfl rfl) ak oG ?_;refine av (ai2 rfl rfl) ak rfl ?_;refine ab ?_;refine cq cx (ag ?_);refine ab ?_;refine aa (tv (iq rfl rfl a201 sq (nY (by first|rfl|simp;omega)) t201 oP) ?_);simp only[r7,h0,if_true,lu,En,hg,gL,List.map_set];rfl
 .have C:decide (0<=n)=false:=by simpa using h0
  refine SS ?_;refine av (Bn rfl rfl C) ak rfl ?_;refine aa (tD (cm (ag ?_)));refine ab ?_;refine aa (tv (iq rfl rfl a201 sq (nY oP) t201 oP) ?_);simp only[r7,h0,if_false]
theorem Iy{w v:List Int}(M:w.length=20)(hv:v.length=20):aB prog 180 [gL w,gL v] (gL (nn w v)):=by
 have X:∀ a∈[gL w,gL v],Tr a:=.cons (qS _) (.cons (qS _) .nil);refine bj agl X (qS _) ?_;rw[agm];refine ws ?_;refine ay ?_;refine aa (az (aw ?_));refine SS ?_
 refine aa (bZ (fun s=>aH prog s ⟨ax [(2,.rp 0 0),(3,.rp 1 0),(4,.rp 2 0)],br [(0,.cells ((nn w v).map cS) 201),(1,.cells (v.map cS) 201),(2,.cells (replicate 20 (cS 0)) 201)],3⟩) (cH (α:=Nat)
  (fun k=>⟨ax [(2,.rp 0 0),(3,.rp 1 0),(4,.rp 2 0),(6,I k)],br [(0,.cells ((iA w v k).map cS) 201),(1,.cells (v.map cS) 201),(2,.cells (replicate 20 (cS 0)) 201)],3⟩)
  (fun k=>k<=20) (fun k=>20 - k) 0 (cn eH eH) oG ?_) ?_)
 .intro k hk;refine SS ?_;refine aa ⟨_,rfl,fun h=>?_,fun h=>?_⟩
  .have af:k<20:=by have h:(k:Int)<20:=by simpa using h
                    omega
   have EZ:(iA w v k).length=20:=by simp[M]
   have hi:(iA w v k)[k]? =some (iA w v k)[k]:=aL oG;have hj:v[k]? =some v[k]:=aL oG;have hg:(iA w v k).getD k 0=(iA w v k)[k]:=by simp[dF,hi]
   have C:v.getD k 0=v[k]:=by simp[dF,hj]
   have kd:=nP (f:=cS) hi;have U:=nP (f:=cS) hj;refine ws ?_;refine ab ?_;refine aa (A8 aaN ?_);refine bw ?_;refine av (kM rfl rfl U V.h) ak (kN V.h V.h U) ?_;refine av (Uv rfl rfl) ak rfl ?_;refine ab ?_;refine cq cx ?_;refine ab ?_;refine aa (bf (k+1) (cn eH ⟨?_,rfl,rfl,trivial⟩) oG oG);rw[aj];simp only[iA,hg,C,List.map_set];rfl
  .have bm:¬ k<20:=by intro hh;simp at h;omega
   have:k=20:=by omega
   subst this;exact .forget _ _ _ _ fun t=>qj (l:=[(2,.rp 0 0),(3,.rp 1 0),(4,.rp 2 0)]) ⟨rfl,rfl,rfl,trivial⟩ t
 .intro s hg;have J:(nn w v).length=20:=by simp[M]
  generalize nn w v=u at hg J ⊢;refine⟨_,hg,ag ?_⟩;refine ab ?_;refine aa (tv (iq rfl rfl a201 sq (nY oP) t201 oP) ?_);rfl
def ajN:Int:=18446744073709551615
theorem Nf:aB prog 178 [] (gL (replicate 20 ajN)):=by
 exact oV o4 100 rfl kr
theorem EL{w:List Int}{x:cv}(C:w.length=20)(hn:x.op=18->0<=x.n/\x.n<80)(ht:x.op≠18-> -1000000<=kO x/\kO x<1280):aB prog 183 [gL w,.agg (cg x)] (gL (r7 w (if x.op=18 then nO x.n else kO x))):=by
 have J:∀ a∈[gL w,.agg (cg x)],Tr a:=.cons (qS _) (.cons (.agg (uI x)) .nil);refine bj agn J (qS _) ?_;rw[ago];refine ws ?_;refine ay ?_;refine aa (az (ag ?_));refine ay ?_;refine aa (cA rfl (fun h=>?_) fun h=>cm (dV aaO ?_))
 .have h:x.op=18:=by simpa using h
  have hx:=hn h;have vB:=vB (n:=x.n) oG;have qT:=qT (w:=w) (n:=nO x.n) C (by unfold nO;omega);refine az (dV aaP ?_);refine ay ?_;refine cl vB ?_;refine cl qT ?_;refine SS ?_;refine cq cx (dG (tv (iq rfl rfl a201 sq (nY oP) t201 oP) ?_));simp[h]
 .have h:x.op≠18:=by simpa using h
  have B2:=B2 (x:=x);have qT:=qT (w:=w) (n:=kO x) C (ht h);refine SS ?_;refine av (fz (vs:=cg _) rfl rfl V.h V.h rfl) ak (fA V.h V.h (by first|(simp;done)|omega|exact bJ rfl)) ?_;refine cl B2 ?_;refine cl qT ?_;refine SS ?_;refine cq cx (tv (iq rfl rfl a201 sq (nY oP) t201 oP) ?_);simp[h]
end Go.Proofs.Tryz.K
namespace Go.Argus
def nH(x:End):Bool:=decide (0<=x.others)&&bO [5,6,8] x.kind
def eD(x:End):List Int:=if bO [3,4] x.kind then [] else x.to::((if bO [2,8] x.kind then [x.fY] else [])++(x.aP.map (·.to)++(if nH x then [x.others] else [])))
def qd(x:End):Nat:=if bO [2,8] x.kind then 2 else 1
theorem acE{x:End}(h:bO [3,4] x.kind=false):(eD x)[0]? =some x.to/\(bO [2,8] x.kind=true->(eD x)[1]? =some x.fY)/\(∀ (j:Nat) w,x.aP[j]? =some w->(eD x)[qd x+j]? =some w.to)/\
 (nH x=true->(eD x)[qd x+x.aP.length]? =some x.others)/\(eD x).length=qd x+x.aP.length+(if nH x then 1 else 0):=by
 unfold eD qd;generalize nH x=c;rw[if_neg (by simp[h])];cases h2:bO [2,8] x.kind with
 |true=>
  refine⟨rfl,fun _=>rfl,fun j w hj=>?_,fun hc=>?_,?_⟩
  .have:j<x.aP.length:=(bI.1 hj).1;simp only[if_true,List.singleton_append];rw[show 2+j=j+1+1 by omega,List.getElem?_cons_succ,List.getElem?_cons_succ,List.getElem?_append_left (by simpa using this)];simp[hj]
  .simp only[if_true,List.singleton_append];rw[show 2+x.aP.length=x.aP.length+1+1 by omega,List.getElem?_cons_succ,List.getElem?_cons_succ,List.getElem?_append_right oS];rw[if_pos hc];simp
  .cases c<;>simp<;>omega
 |false=>
  refine⟨rfl,fun h=>oH,fun j w hj=>?_,fun hc=>?_,?_⟩
  .have:j<x.aP.length:=(bI.1 hj).1;simp only[Bool.false_eq_true,if_false,List.nil_append];rw[show 1+j=j+1 by omega,List.getElem?_cons_succ,List.getElem?_append_left (by simpa using this)];simp[hj]
  .simp only[Bool.false_eq_true,if_false,List.nil_append];rw[show 1+x.aP.length=x.aP.length+1 by omega,List.getElem?_cons_succ,List.getElem?_append_right oS];rw[if_pos hc];simp
  .cases c<;>simp<;>omega
def LU(x:End)(b:Int):Bool:=dv x.to b&&dv ((eD x).count b:Nat) 1
theorem Ln(x:End):(eD x).length<=x.aP.length+3:=by
 unfold eD;split
 .simp
 .simp only[List.length_cons,List.length_append,List.length_map];split<;>split<;>simp<;>omega
end Go.Argus
namespace Go.Abs
theorem yP{P:Program}{Y:ej}{rf:Bool}{Q:Exit->St->Prop}{st:St}[dC Y]{ops:Array Oper}{i:Nat}(h:aq P Y ops false [] (eZ (Q .normal)) ops.toList st []):AW P Y rf (.region i ops false) Q st:=lF (rf:=rf) (id:=i) (aq.jn h fun _ h=>h)
section
variable{P:Program}{env:Env}{m:Mem}{nx:Nat}{x y:Operand}{t p:TypeId}{k:IntKind}{n n':Int}
theorem T2(hx:(opd env x).core=.s (.int .i64 n))(hy:(opd env y).core=.s (.int .i64 n')){r:Int}(hd:n - n'=r/\ -9223372036854775808<=r/\r<=9223372036854775807):Ef P (.binOp .sub t x y p) env m nx ⟨IntKind.i64=IntKind.i64,.s (.int .i64 r),[],[],0⟩:=by
 obtain⟨rfl,h⟩:=hd;exact Md hx hy h
theorem na{j i l:Nat}{e:TypeId}{r:Row}(hx:(opd env x).core=.rs j 0 l)(hy:(opd env y).core=.s (.int k (i:Int)))(hm:m j=some r)(he:aF P t=e)(hs:P.cellsOf e=1):
 Ef P (.indexAddr t x y) env m nx ⟨bi P t=true/\i<l,.rp j i,[],[j],0⟩:=by
 have h:=Hu (P:=P) (env:=env) (m:=m) (nx:=nx) (t:=t) hx hy hm he hs;have h1:0+((i:Int)).toNat*1=i:=by simp
 have h2:(bi P t=true/\(0:Int)<=(i:Int)/\(i:Int)<l)=(bi P t=true/\i<l):=by
  apply propext;constructor
  .rintro⟨a,_,b⟩;exact⟨a,oG⟩
  .rintro⟨a,b⟩;exact⟨a,oG,oG⟩
 rw[h1,h2] at h;exact h
theorem vq{α:Type}(f:Nat->α)(i:Nat)(a b:α):up (up f i a) i b=up f i b:=by
 funext j;simp only[up];split<;>rfl
variable{Y:ej}{rf:Bool}{Q:Exit->St->Prop}{st:St}{id gi i1 i3:Nat}{rc ri:Array Oper}{body:Code}{α:Type}{cf:List (Nat×Nat)}{u:Nat}
theorem afu[dC Y](hi:bT rc=some cf)(S:α->St)(J:α->Prop)(μ:α->Nat)(C:α)(hg:aH P st (S C))(U:J C)
 (h:∀ x,J x->aq P Y rc true cf (eZ fun s=>∃ g,opd s.env (.tmp u)=.s (.bool g)/\(g=true->AW P Y rf body (lR gi id (fun s=>aq P Y ri false [] (eZ (y8 P S J μ x)) ri.toList s []) Q) s)/\(g=false->Q .normal s)) rc.toList (S x) []):
 ∃ st',aH P st st'/\AW P Y rf (.block id (.loop (.seq (.seq (.region i1 rc true) (.cond (.tmp u) .skip (.exit id))) (.seq (.block gi body) (.region i3 ri false))))) Q st':=by
 refine DH (Q:=fE id Q) S J μ C hg U (fun x hx=>?_) (a:=.skip) fun _ h=>h;refine az (Bm (rf:=rf) (id:=i1) hi (aq.jn (h x hx) fun s hs=>?_));obtain⟨g,h1,h2,M⟩:=hs;refine⟨s,.refl s,cA h1 (fun X=>?_) fun zY=>?_⟩
 .exact cm (La (h2 X))
 .refine uv ?_;simp only[fU,fE,if_true];exact M zY
theorem ux{l:List (Nat×D)}{m':Mem}(h:lN l env)(hm:m=m'):aH P ⟨env,m,nx⟩ ⟨ax l,m',nx⟩:=hm▸au h
end
end Go.Abs
namespace Go.Proofs.Tryz.K
theorem vE{x:Argus.End}:aB prog 175 [.agg (bC x)] (.fn (.func 234) [] [.pt (bC x)]):=by
 have C:∀ a∈[D.agg (bC x)],Tr a:=.cons (.agg (rO x)) .nil;refine bj agO C (.fn oS (.cons (.pt (rO x)) .nil)) ?_;rw[agP];refine aw ?_;refine SS ?_;refine av (jS (v:=.s .nilFunc) rfl) ak trivial ?_;refine aa (bH (dA [(0,bC x,57)] eH (l:=[(1,.pt (bC x))]) eH) (ag ?_));refine SS ?_;refine av (jS (v:=.fn _ _ _) rfl) ak trivial ?_;exact aa (aD rfl rfl)
def Ot(l:Nat)(x:Argus.End)(I':Nat->Mem->Nat->Prop)(n:Nat)(s:St):Prop:=∃ m nx,aH prog s ⟨ax [(0,.fn (.yield l) [] []),(1,.pt (bC x))],m,nx⟩/\I' n m nx
theorem VM{x:Argus.End}(hlen:x.aP.length<=100000):xe prog 234 [] [.pt (bC x)] ((eD x).map fun n=>[I n]):=by
 refine ae' mixed agQ kr fun l I' Stop m nx hI El h0=>?_;rw[agR];by_cases U:bO [3,4] x.kind=true
 .have iF:((eD x).map fun n=>[I n]).length=0:=by simp[eD,U]
  rw[iF];by_cases M:x.kind=3
  .have oA:(x.kind==3)=true:=by simpa using M
   refine az (ag ?_);refine aY ?_;(iterate 3 refine z fun _ _=>?_);refine ab ?_;(iterate 5 refine z fun _ _=>?_);refine SS ?_;refine aa (cA rfl (fun h=>yN (bG (bA (wJ (.inl h0))))) fun h=>oH)
  .have h4:x.kind=4:=by simpa[bO,M] using U
   have oA:(x.kind==3)=false:=by simpa using M
   have Em:(x.kind==4)=true:=by simpa using h4
   refine az (ag ?_);refine bh ?_;(iterate 5 refine z fun _ _=>?_);refine SS ?_;refine aa (cA rfl (fun h=>yN (bG (bA (wJ (.inl h0))))) fun h=>oH)
 have U:bO [3,4] x.kind=false:=by simpa using U
 obtain⟨x0,x1,xw,xo,xl⟩:=acE U;have C:∀ {k:Nat} {n:Int},(eD x)[k]? =some n->((eD x).map fun n=>[I n])[k]? =some [I n]:=fun h=>by simp[h]
 have Er:((eD x).map fun n=>[I n]).length=qd x+x.aP.length+(if nH x then 1 else 0):=by simpa using xl
 have W9:x.kind≠3/\x.kind≠4:=by simpa[bO] using U
 refine jf (Ot l x I' 1) ?_ fun s hs=>?_
 .have oA:(x.kind==3)=false:=by simpa using W9.1
  have Em:(x.kind==4)=false:=by simpa using W9.2
  refine ws ?_;refine bh ?_;refine ay ?_;refine Mn rfl rfl rfl rfl aK ⟨rfl,0,C x0,h0,fun d m' J hp=>?_⟩;rcases hp with⟨rfl,hp⟩|⟨rfl,hp⟩
  .refine ab ?_;exact aa (aQ rfl (fun h=>oH) fun h=>cO ⟨m',J,au eH,hp⟩)
  .refine ab ?_;exact aa (aQ rfl (fun h=>bG (bA (wJ (.inr hp)))) fun h=>oH)
 obtain⟨m1,bV,hg,h1⟩:=hs;refine⟨_,hg,?_⟩;clear hg h0;refine jf (Ot l x I' (qd x)) ?_ fun s hs=>?_
 .have X:bO [2,8] x.kind=true->(eD x)[1]? =some x.fY/\qd x=2:=fun h=>⟨x1 h,by simp[qd,h]⟩
  by_cases h2:x.kind=2
  .obtain⟨y1,y2⟩:=X (by rw[h2];rfl);have oA:(x.kind==2)=true:=by simpa using h2
   refine ws ?_;refine aY ?_;(iterate 3 refine z fun _ _=>?_);refine bw ?_;refine Mn rfl rfl rfl rfl aK ⟨rfl,1,C y1,h1,fun d m' J hp=>?_⟩;rcases hp with⟨rfl,hp⟩|⟨rfl,hp⟩
   .refine ab ?_;exact aa (aQ rfl (fun h=>oH) fun h=>cO ⟨m',J,au eH,y2▸hp⟩)
   .refine ab ?_;exact aa (aQ rfl (fun h=>bG (bA (wJ (.inr hp)))) fun h=>oH)
  .have oA:(x.kind==2)=false:=by simpa using h2
   by_cases h8:x.kind=8
   .obtain⟨y1,y2⟩:=X (by rw[h8];rfl);have Em:(x.kind==8)=true:=by simpa using h8
    refine ws ?_;refine bh ?_;refine ay ?_;refine Mn rfl rfl rfl rfl aK ⟨rfl,1,C y1,h1,fun d m' J hp=>?_⟩;rcases hp with⟨rfl,hp⟩|⟨rfl,hp⟩
    .refine ab ?_;exact aa (aQ rfl (fun h=>oH) fun h=>cO ⟨m',J,au eH,y2▸hp⟩)
    .refine ab ?_;exact aa (aQ rfl (fun h=>bG (bA (wJ (.inr hp)))) fun h=>oH)
   .have Em:(x.kind==8)=false:=by simpa using h8
    have hb:qd x=1:=by simp[qd,bO,h2,h8]
    refine ws ?_;refine bh ?_;(iterate 5 refine z fun _ _=>?_);refine SS ?_;exact aa (aQ rfl (fun h=>oH) fun h=>cO ⟨m1,bV,au eH,hb▸h1⟩)
 obtain⟨m2,ij,hg,h2⟩:=hs;refine⟨_,hg,?_⟩;clear hg;refine jf (Ot l x I' (qd x+x.aP.length)) (aw ?_) fun s hs=>?_
 .refine aY ?_
  refine aa (cH (α:=Nat×Mem×Nat) (fun k=>⟨ax [(0,.fn (.yield l) [] []),(1,.pt (bC x)),(36,lG x.aP),(37,I x.aP.length),(38,I k.1)],k.2.1,k.2.2⟩)
   (fun k=>k.1<=x.aP.length/\I' (qd x+k.1) k.2.1 k.2.2) (fun k=>x.aP.length - k.1) (0,m2,ij) (au eH) ⟨oG,h2⟩ ?_)
  rintro⟨k,m3,Xa⟩ ⟨hk,IT⟩;refine SS ?_;refine aa ⟨_,rfl,fun h=>?_,fun h=>?_⟩
  .have af:k<x.aP.length:=by simpa using h
   have hx:x.aP[k]? =some x.aP[k]:=by simp[af]
   generalize x.aP[k]=w at hx;refine ws ?_;refine aY ?_;refine er ?_;refine ab ?_;refine av (kM rfl (aj _ _ _) rfl V.h) ak (kN V.h V.h rfl) ?_;refine M8 rfl rfl aK ⟨rfl,qd x+k,C (xw k w hx),hI _ _ _ _ _ IT oG (fun i hi=>ah oG (ah oG rfl)),fun d m' J hp=>?_⟩;rcases hp with⟨rfl,hp⟩|⟨rfl,hp⟩
   .refine SS ?_;refine aa (aQ rfl (fun h=>oH) fun h=>cP ?_);refine ab ?_;exact aa (bf (k+1,m',J) (au eH) ⟨by simp only;omega,hp⟩ (by simp only;omega))
   .refine SS ?_;exact aa (aQ rfl (fun h=>bG (bY (bA (wJ (.inr hp))))) fun h=>oH)
  .have bm:¬ k<x.aP.length:=by simpa using h
   have:k=x.aP.length:=by simp only at hk;omega
   subst this;exact⟨m3,Xa,.forget _ _ _ _ fun t=>qj (l:=[(0,.fn (.yield l) [] []),(1,.pt (bC x))]) ⟨rfl,rfl,trivial⟩ t,IT⟩
 obtain⟨m3,Xa,hg,M⟩:=hs;refine⟨_,hg,ag ?_⟩;refine bh ?_;refine bh ?_;refine aa (aQ rfl (fun h=>?_) fun h=>?_)
 .have hc:nH x=true:=by
   revert h;unfold nH bO;simp[ib,or_assoc]
  refine yP ?_;refine ay ?_;refine M8 rfl rfl aK ⟨rfl,_,C (xo hc),M,fun d m' J hp=>?_⟩;refine aa (wK ?_);rcases hp with⟨rfl,hp⟩|⟨rfl,hp⟩
  .left;rw[Er,if_pos hc];exact hp
  .exact .inr hp
 .have hc:nH x=false:=by
   revert h;unfold nH bO;simp[ib,and_assoc]
  refine cP (wK (.inl ?_));rw[Er,hc];exact M
theorem Nk{x:Argus.End}{b:Int}(hlen:x.aP.length<=1000):aB prog 185 [.agg (bC x),I b] (B (LU x b)):=by
 have J:∀ a∈[D.agg (bC x),I b],Tr a:=.cons (.agg (rO x)) (.cons (.s _) .nil);have vE:=vE (x:=x);have hl:=Ln x;refine bj ag0 J (Tr.s _) ?_;rw[ag1];refine aw ?_;refine SS ?_;refine eM (Hs (d:=.s (.int _ _)) rfl rfl) ak rfl ?_;refine SS ?_;refine aa (bH (dA [(0,bC x,57),(1,[I b],3)] eH (l:=[(2,.pt (bC x)),(3,.pt [I b])]) eH) (ag ?_));refine ab ?_;refine aa ?_;refine jf (fun s=>∃ n',aH prog s ⟨ax [(2,.pt (bC x)),(3,.pt [I b]),(5,.rp 2 0)],br [(2,.cells [I ((eD x).count b:Nat)] 3)],n'⟩) (ag ?_) fun s hs=>?_
 .refine SS ?_;refine cl vE ?_;refine aa (qk ?_);refine⟨rfl,trivial,234,[],[.pt (bC x)],(eD x).map (fun n=>[I n]),fun k m nx=>m 2=some (.cells [I (((eD x).take k).count b:Nat)] 3)/\3<=nx,rfl,VM oG,?_,⟨rfl,oS⟩,?_,?_⟩
  .intro y hy;obtain⟨n,_,rfl⟩:=List.mem_map.1 hy;exact⟨rfl,.cons (.s _) .nil⟩
  .rintro k m nx y hy ⟨ap,M⟩;simp only[List.getElem?_map,cU] at hy;obtain⟨n,hn,rfl⟩:=hy;have hk:k<(eD x).length:=(bI.1 hn).1
   have hc:((eD x).take (k+1)).count b=((eD x).take k).count b+(if n=b then 1 else 0):=by
    rw[List.take_add_one,hn,List.count_append];by_cases e:n=b
    .subst e;simp
    .simp[e]
   have C:((eD x).take k).count b<=k:=Nat.le_trans List.count_le_length oP;generalize ((eD x).take k).count b=c at ap hc C;refine yP ?_;refine SS ?_;refine aa (show AW _ _ _ _ _ _ from qk (ag ?_));refine ay ?_;refine aa (aQ rfl (fun h=>?_) fun h=>?_)
   .have h:n=b:=by simpa using h
    refine yP ?_;refine ab ?_;refine bQ (eR (d:=.s (.int _ _)) (cs':=[_]) rfl rfl ap rfl rfl) ak (cw V.h V.h (by first|(simp;done)|exact⟨rfl,bJ rfl⟩|(simp;omega)) rfl) ?_;refine aa ?_;refine⟨?_,oM⟩;dsimp only;refine(aj _ _ _).trans ?_;rw[hc,if_pos h];simp
   .have h:¬ n=b:=by simpa using h
    exact cP ⟨by rw[hc,if_neg h];exact ap,M⟩
  .rintro m nx ⟨h1,h2⟩;refine⟨nx,cn eH ⟨?_,trivial⟩⟩;rw[h1,List.length_map,List.take_length]
 obtain⟨n',hg⟩:=hs;refine⟨_,hg,ag ?_⟩;refine bh ?_;refine aa (aD (d:=.s (.bool _)) rfl ?_);simp[LU,dv,ib]
theorem Nl{f:FuncId}{cs:List D}{xs:List Int}(hs:xe prog f [] cs (xs.map fun n=>[I n]))(ht:Tr (.fn (.func f) [] cs))(hlen:xs.length<=100000):kW prog 251 [.z,.fn (.func f) [] cs] (xs.map I) xs.length 3:=by
 have X:∀ a∈[D.z,.fn (.func f) [] cs],Tr a:=.cons .z (.cons ht .nil);refine I6 ag2 X (.map fun _=>.s _) ?_;rw[ag3];refine ws ?_;refine eM (Hs (d:=.z) rfl rfl) ak rfl ?_;refine SS ?_;refine aa ?_;refine jf (fun s=>(xs=[]/\∃ n',aH prog s ⟨ax [(2,.rp 0 0)],br [(0,.cells [.z] 43)],n'⟩)\/∃ r n',0<r/\aH prog s ⟨ax [(2,.rp 0 0)],br [(0,.cells [.rs r 0 xs.length] 43),(r,.cells (xs.map I) 3)],n'⟩) (ag ?_) fun s hs=>?_
 .refine SS ?_;refine aa (qk ?_);refine⟨rfl,trivial,f,[],cs,xs.map (fun n=>[I n]),fun k m nx=>1<=nx/\((k=0/\m 0=some (.cells [.z] 43))\/(0<k/\∃ r,0<r/\r<nx/\m 0=some (.cells [.rs r 0 k] 43)/\m r=some (.cells ((xs.take k).map I) 3))),rfl,hs,?_,⟨oS,.inl ⟨rfl,rfl⟩⟩,?_,?_⟩
  .intro y hy;obtain⟨n,_,rfl⟩:=List.mem_map.1 hy;exact⟨rfl,.cons (.s _) .nil⟩
  .rintro k m nx y hy ⟨cF,C⟩;simp only[List.getElem?_map,cU] at hy;obtain⟨n,hn,rfl⟩:=hy;have hk:k<xs.length:=(bI.1 hn).1
   have J:(xs.take (k+1)).map I=(xs.take k).map I++[I n]:=by
    rw[List.take_add_one,hn];simp
   refine yP ?_;refine SS ?_;refine aa (show AW _ _ _ _ _ _ from qk (yP ?_));rcases C with⟨rfl,ap⟩|⟨ua,r,M,U,ap,iz⟩
   .refine aY ?_;refine bQ (eR (d:=.rs _ _ _) (cs':=[_]) rfl rfl (ah oG (ah oG ap)) rfl rfl) ak (cw V.h V.h (by first|(simp;done)|exact⟨rfl,bJ rfl⟩|(simp;omega)) rfl) ?_;refine aa ?_;refine⟨oM,.inr ⟨oG,nx+1,oG,oM,?_,?_⟩⟩
    .dsimp only;exact(aj _ _ _).trans rfl
    .dsimp only;exact(ah oG (aj _ _ _)).trans (by rw[J];rfl)
   .have sK:((xs.take k).map I).length=k:=by simp;omega
    refine aY ?_;refine bQ (eR (d:=.rs _ _ _) (cs':=[_]) rfl rfl (ah oG (ah oG (ah oG ap))) rfl rfl) ak (cw V.h V.h (by first|(simp;done)|exact⟨rfl,bJ rfl⟩|(simp;omega)) rfl) ?_;refine aa ?_;refine⟨oM,.inr ⟨oG,nx+1,oG,oM,?_,?_⟩⟩
    .dsimp only;exact(aj _ _ _).trans rfl
    .dsimp only;exact(ah oG (aj _ _ _)).trans (by rw[J];rfl)
  .rintro m nx ⟨cF,C⟩;rw[List.length_map] at C;rcases C with⟨h0,ap⟩|⟨ua,r,M,U,ap,iz⟩
   .exact .inl ⟨List.length_eq_zero_iff.1 h0,nx,cn eH ⟨ap,trivial⟩⟩
   .refine .inr ⟨r,nx,M,cn eH ⟨ap,?_,trivial⟩⟩;rw[iz,List.take_length]
 rcases hs with⟨rfl,n',hg⟩|⟨r,n',hr,hg⟩
 .refine⟨_,hg,aw ?_⟩;refine ab ?_;refine aa ⟨_,.rW _ _ _ 4 3 rfl,aD rfl ⟨n',?_,aj _ _ _⟩⟩;rfl
 .refine⟨_,hg,ag ?_⟩;refine ab ?_;refine aa (aD rfl ⟨r,rfl,?_⟩);simp[br];omega
theorem Nn{f:FuncId}{cs:List D}{xs:List Int}(hs:xe prog f [] cs (xs.map fun n=>[I n]))(ht:Tr (.fn (.func f) [] cs))(hlen:xs.length<=100000):kW prog 244 [.fn (.func f) [] cs] (xs.map I) xs.length 3:=by
 have C:∀ a∈[.fn (.func f) [] cs],Tr a:=.cons ht .nil;refine I6 ag4 C (.map fun _=>.s _) ?_;rw[ag5];have Nl:=Nl hs ht hlen;refine ws ?_;refine SS ?_;refine er ?_;refine SS ?_;refine Mm Nl rfl aK ?_;refine SS ?_;exact aa (aD rfl ⟨0,rfl,rfl⟩)
end Go.Proofs.Tryz.K
namespace Go.Argus
def swapAt(l:List Int)(j:Nat):List Int:=(l.set (j+1) (l.getD j 0)).set j (l.getD (j+1) 0)
def pu(l:List Int):Nat->List Int
 |0=>l
 |j+1=>if l.getD (j+1) 0<l.getD j 0 then pu (swapAt l j) j else l
def np(l:List Int):Nat->List Int
 |0=>l
 |k+1=>pu (np l k) (k+1)
def od(l:List Int):List Int:=np l (l.length - 1)
@[simp] theorem aov (l : List Int) (j : Nat) : (swapAt l j).length = l.length := by simp [swapAt]
@[simp] theorem acV : ∀ (j : Nat) (l : List Int), (pu l j).length = l.length
 |0,l=>rfl
 |j+1,l=>by simp only[pu];split<;>simp[acV j]
@[simp] theorem Q8 (l : List Int) : ∀ k, (np l k).length = l.length
 |0=>rfl
 |k+1=>by simp[np,Q8 l k]
@[simp] theorem Q9 (l : List Int) : (od l).length = l.length := Q8 l _
def fx(d:List Int):Nat->List Int
 |0=>[]
 |t+1=>fx d t++(if t≠0/\d.getD t 0=d.getD (t - 1) 0 then [] else [d.getD t 0])
def nR(d:List Int):List Int:=fx d d.length
theorem Tk{d:List Int}{x:Int}:∀ {t:Nat},t<=d.length->(x∈fx d t↔x∈d.take t)
 |0,_=>by simp[fx]
 |t+1,ht=>by
  have ih:=Tk (d:=d) (x:=x) (t:=t) oG;have hg:d.getD t 0=d[t]:=by simp[dF,aL (show t<d.length by omega)]
  rw[fx,List.mem_append,ih,List.take_succ_eq_append_getElem oG,List.mem_append];split
  .rename_i h;have h1:d[t - 1]? =some d[t - 1]:=aL oG
   have C:d[t]∈d.take t:=by
    rw[<- hg,h.2];have:d.getD (t - 1) 0=d[t - 1]:=by simp[dF,h1]
    rw[this];exact bu (i:=t - 1) (by rw[List.getElem?_take,if_pos oG,h1])
   constructor
   .rintro(h|h)
    .exact .inl h
    .simp at h
   .rintro(h|h)
    .exact .inl h
    .simp at h;subst h;exact .inl C
  .rw[hg]
theorem Tl{d:List Int}:∀ t,(fx d t).length<=t
 |0=>by simp[fx]
 |t+1=>by
  have:=Tl (d:=d) t;rw[fx,List.length_append];split<;>simp<;>omega
theorem Ub{d:List Int}{t:Nat}(ht:t<d.length)(h0:t≠0)(h:d.getD t 0=d.getD (t - 1) 0):fx d (t+1)=fx d t:=by
 rw[fx,if_pos ⟨h0,h⟩,List.append_nil]
theorem Uc{d:List Int}{t:Nat}(h:d.getD t 0≠d.getD (t - 1) 0):fx d (t+1)=fx d t++[d.getD t 0]:=by
 rw[fx,if_neg fun hh=>h hh.2]
end Go.Argus
namespace Go.Proofs.Tryz.K
theorem alb{a:Int}:aB prog 277 [I a] (B false):=by
 refine bj ahi (by simp[Tr.s]) (Tr.s _) ?_;rw[ahj];refine ws ?_;refine SS ?_;refine er ?_;refine aY ?_;refine aa (aD (d:=.s (.bool _)) rfl ?_);simp[bne]
theorem alc{a b:Int}:aB prog 266 [I a,I b] (B (decide (a<b))):=by
 refine bj ahk (by simp[Tr.s]) (Tr.s _) ?_;rw[ahl];refine ws ?_;refine SS ?_;refine er ?_;refine SS ?_;refine cl alb ?_;refine SS ?_;(iterate 3 refine z fun _ _=>?_);refine ik ?_;exact aa (aD (d:=.s (.bool _)) rfl rfl)
theorem ald{m:Mem}{nx i n:Nat}{l:List Int}(hi:i<nx)(hm:m i=some (.cells (l.map I) 3))(hl:l.length=n)(hn:n<=12):
 fP prog 260 [.rs i 0 n,I 0,I n] m nx (fun r m' X=>r=.aM []/\X=nx/\m'=up m i (some (.cells ((od l).map I) 3))):=by
 refine wa ahm ?_;rw[ahn]
 have U:up m i (some (.cells (l.map I) 3))=m:=by
  funext j;simp only[up];split
  .rename_i e;rw[e,hm]
  .rfl
 refine aw ?_;refine ay ?_;refine aa (jh (α:=Nat) (fun k=>⟨ax [(0,.rs i 0 n),(1,I 0),(2,I n),(6,I (k+1:Nat))],up m i (some (.cells ((np l k).map I) 3)),nx⟩) (fun k=>k<=n - 1) (fun k=>n - k) 0 (ux eH U.symm) oG ?_);intro k hk;refine ay ?_;refine aa ⟨_,rfl,fun h=>?_,fun h=>?_⟩
 .have af:k+1<n:=by have:((k+1:Nat):Int)<n:=by simpa using h
                    omega
  refine aw ?_;refine ab ?_;refine aa (afu abh (α:=List Int×Nat) (fun s=>⟨ax [(0,.rs i 0 n),(1,I 0),(2,I n),(6,I (k+1:Nat)),(7,I s.2)],up m i (some (.cells (s.1.map I) 3)),nx⟩) (fun s=>s.1.length=n/\s.2<=k+1/\pu s.1 s.2=np l (k+1)) (fun s=>s.2) (np l k,k+1) (au eH) ⟨by simp[hl],oS,rfl⟩ ?_);rintro⟨d,j⟩ ⟨hd,hj,hs⟩;simp only at hd hj hs;cases j with
  |zero=>
   have vy:decide ((0:Int)<((0:Nat):Int))=false:=rfl;refine aY ?_;(iterate 10 refine z fun _ _=>?_);refine SS ?_;refine cq cx ⟨_,rfl,fun h=>oH,fun h=>?_⟩;have hs:d=np l (k+1):=hs;subst hs;show aq _ _ _ _ _ _ _ _ _;refine ay ?_;exact aa (bf (k+1) (au eH) oG oG)
  |succ j=>
   have ha:d[j+1]? =some d[j+1]:=aL oG;have hb:d[j]? =some d[j]:=aL oG;have J:d.getD (j+1) 0=d[j+1]:=by simp[dF,ha]
   have M:d.getD j 0=d[j]:=by simp[dF,hb]
   have kd:=nP (f:=I) ha;have C:=nP (f:=I) hb;generalize hA:d[j+1]=a at ha J kd;generalize hB:d[j]=b at hb M C;clear hA hB;have vy:decide ((0:Int)<((j+1:Nat):Int))=true:=by simp
   have xj:((j+1:Nat):Int) - 1=(j:Int)/\ -9223372036854775808<=(j:Int)/\(j:Int)<=9223372036854775807:=by omega
   refine cz ?_;refine bc rfl rfl (na rfl rfl (aj _ _ _) V.h V.h) (fun hc=>⟨ak,⟨V.h,oG⟩⟩) ?_;refine bc rfl rfl (kM rfl (aj _ _ _) kd V.h) (fun hc=>⟨ak,(kN V.h V.h kd)⟩) ?_;refine ay ?_;refine bc rfl rfl (na rfl rfl (aj _ _ _) V.h V.h) (fun hc=>⟨ak,⟨V.h,oG⟩⟩) ?_;refine bc rfl rfl (kM rfl (aj _ _ _) C V.h) (fun hc=>⟨ak,(kN V.h V.h C)⟩) ?_;refine gc alc ?_;refine SS ?_;refine cq cx ⟨_,rfl,fun h=>?_,fun h=>?_⟩
   .have h:a<b:=by simpa using h
    refine A8 abi ?_;refine bh ?_;refine av (kM rfl (aj _ _ _) C V.h) ak (kN V.h V.h C) ?_;refine du ?_;refine cq cx ?_;refine ay ?_;refine aa (bf (swapAt d j,j) (ux eH ?_) ⟨by simp[hd],by simp only;omega,?_⟩ (by simp only;omega))
    .rw[vq,vq];simp only[swapAt,J,M,List.map_set]
    .rw[<- hs];simp only[pu,J,M,if_pos h]
   .have h:¬ a<b:=by simpa using h
    have hs:d=np l (k+1):=by rw[<- hs];simp only[pu,J,M,if_neg h]
    subst hs;show aq _ _ _ _ _ _ _ _ _;refine ay ?_;exact aa (bf (k+1) (au eH) oG oG)
 .have bm:¬ k+1<n:=by have h:¬ ((k+1:Nat):Int)<n:=by simpa using h
                      omega
  refine wK ⟨rfl,rfl,?_⟩;have:k=n - 1:=by omega
  subst this;simp only[od,hl]
theorem ale{m:Mem}{nx i n:Nat}{l:List Int}{lD:Int}(hi:i<nx)(hm:m i=some (.cells (l.map I) 3))(hl:l.length=n)(hn:n<=12):
 fP prog 252 [.rs i 0 n,I 0,I n,I lD] m nx (fun r m' C=>r=.aM []/\C=nx/\m'=up m i (some (.cells ((od l).map I) 3))):=by
 refine wa aho ?_;rw[ahp];refine ws ?_;refine SS ?_;refine aa (aw ?_);refine SS ?_;refine aa ⟨_,au (l:=[(0,.rs i 0 n),(1,I 0),(2,I n)]) eH,qk (SU (fun s=>s=⟨ax [(0,.rs i 0 n),(1,I 0),(2,I n)],m,nx⟩) (fun _=>0) rfl fun s hs=>?_)⟩;subst hs;refine qk (ag ?_);refine aY ?_;refine aa (az (ag ?_));refine ab ?_;refine aa (cA rfl (fun h=>?_) fun h=>?_)
 .refine az (ag ?_);refine ay ?_;refine gI (ald hi hm hl hn) rfl aK fun r m' C hp=>?_;obtain⟨rfl,rfl,rfl⟩:=hp;exact aa (dG (eE (bA (eE (wJ ⟨rfl,rfl,rfl⟩)))))
 .have:¬ ((n:Int) - 0<=12):=by simpa using h
  omega
theorem Nr{n:Nat}(hn:n<=12):∃ r,aB prog 253 [.s (.int .u64 (IntKind.u64.wrap (n:Int)))] (I r):=by
 match n,hn with
 |0,_=>exact⟨0,oV o4 100 rfl kr⟩
 |1,_=>exact⟨1,oV o4 100 rfl kr⟩
 |2,_=>exact⟨2,oV o4 100 rfl kr⟩
 |3,_=>exact⟨2,oV o4 100 rfl kr⟩
 |4,_=>exact⟨3,oV o4 100 rfl kr⟩
 |5,_=>exact⟨3,oV o4 100 rfl kr⟩
 |6,_=>exact⟨3,oV o4 100 rfl kr⟩
 |7,_=>exact⟨3,oV o4 100 rfl kr⟩
 |8,_=>exact⟨4,oV o4 100 rfl kr⟩
 |9,_=>exact⟨4,oV o4 100 rfl kr⟩
 |10,_=>exact⟨4,oV o4 100 rfl kr⟩
 |11,_=>exact⟨4,oV o4 100 rfl kr⟩
 |12,_=>exact⟨4,oV o4 100 rfl kr⟩
theorem alf{m:Mem}{nx i n:Nat}{l:List Int}(hi:i<nx)(hm:m i=some (.cells (l.map I) 3))(hl:l.length=n)(hn:n<=12):
 fP prog 245 [.rs i 0 n] m nx (fun r m' C=>r=.aM []/\C=nx/\m'=up m i (some (.cells ((od l).map I) 3))):=by
 refine wa ahq ?_;rw[ahr];obtain⟨lD,Nr⟩:=Nr hn;have ap:=hm;refine ws ?_;refine ay ?_;refine aa (yP ?_);refine aY ?_;refine cl Nr ?_;refine gI (ale hi hm hl hn) rfl aK fun r m' C hp=>?_;obtain⟨rfl,rfl,rfl⟩:=hp;exact aa (wK ⟨rfl,rfl,rfl⟩)
end Go.Proofs.Tryz.K
namespace Go.Abs
section
variable{P:Program}{env:Env}{m:Mem}{nx:Nat}{x y:Operand}{t p:TypeId}{k:IntKind}{n n':Int}
theorem aef{j i l off:Nat}{e:TypeId}{r:Row}(hx:(opd env x).core=.rs j off l)(hy:(opd env y).core=.s (.int k (i:Int)))(hm:m j=some r)(he:aF P t=e)(hs:P.cellsOf e=1):
 Ef P (.indexAddr t x y) env m nx ⟨bi P t=true/\i<l,.rp j (off+i),[],[j],0⟩:=by
 have h:=Hu (P:=P) (env:=env) (m:=m) (nx:=nx) (t:=t) hx hy hm he hs;have h1:off+((i:Int)).toNat*1=off+i:=by simp
 have h2:(bi P t=true/\(0:Int)<=(i:Int)/\(i:Int)<l)=(bi P t=true/\i<l):=by
  apply propext;constructor
  .rintro⟨a,_,b⟩;exact⟨a,oG⟩
  .rintro⟨a,b⟩;exact⟨a,oG,oG⟩
 rw[h1,h2] at h;exact h
theorem Ra{i l a:Nat}{cs:List D}{e:TypeId}(hx:(opd env x).core=.rs i 0 l)(hm:m i=some (.cells cs e))(he:aF P t=e)(hs:P.cellsOf e=1)(ha:(opd env y).core=.s (.int .i64 (a:Int))):
 Ef P (.slice t x (some y) none none) env m nx ⟨bi P t=true/\a<=l,.rs i a (l - a),[],[i],0⟩:=by
 have h:=Gj (P:=P) (env:=env) (m:=m) (nx:=nx) (t:=t) (lo:=some y) (hi:=none) (a:=(a:Int)) (b:=(l:Int)) hx hm he hs (by simp[ed,ha,D.int?]) (by simp[ed]);have h1:0+((a:Int)).toNat*1=a:=by simp
 have C:((l:Int) - (a:Int)).toNat=l - a:=by omega
 have h2:((bi P t=true/\1=1)/\(0:Int)<=(a:Int)/\(a:Int)<=(l:Int)/\(l:Int)<=(l:Int))=(bi P t=true/\a<=l):=by
  apply propext;constructor
  .rintro⟨⟨a,_⟩,_,b,_⟩;exact⟨a,oG⟩
  .rintro⟨a,b⟩;exact⟨⟨a,rfl⟩,oG,oG,oG⟩
 rw[h1,h2,C] at h;exact h
theorem abk{i l b:Nat}{cs:List D}{e:TypeId}(hx:(opd env x).core=.rs i 0 l)(hm:m i=some (.cells cs e))(he:aF P t=e)(hs:P.cellsOf e=1)(hb:(opd env y).core=.s (.int .i64 (b:Int))):
 Ef P (.slice t x none (some y) none) env m nx ⟨bi P t=true/\b<=l,.rs i 0 b,[],[i],0⟩:=by
 have h:=Gj (P:=P) (env:=env) (m:=m) (nx:=nx) (t:=t) (lo:=none) (hi:=some y) (a:=0) (b:=(b:Int)) hx hm he hs (by simp[ed]) (by simp[ed,hb,D.int?]);have h1:0+((0:Int)).toNat*1=0:=by simp
 have C:((b:Int) - 0).toNat=b:=by omega
 have h2:((bi P t=true/\1=1)/\(0:Int)<=0/\(0:Int)<=(b:Int)/\(b:Int)<=(l:Int))=(bi P t=true/\b<=l):=by
  apply propext;constructor
  .rintro⟨⟨a,_⟩,_,_,b⟩;exact⟨a,oG⟩
  .rintro⟨a,b⟩;exact⟨⟨a,rfl⟩,oG,oG,oG⟩
 rw[h1,h2,C] at h;exact h
theorem aew{i off l:Nat}{cs z:List D}{e:TypeId}(hx:(opd env x).core=.rs i off l)(hm:m i=some (.cells cs e))(he:aF P t=e)(hz:a8 P e=z):
 Ef P (.call { callee:=.builtin .clear,args:= #[x],argTypes:= #[t] }) env m nx ⟨bi P t=true/\off+l*P.cellsOf e<=cs.length/\e=e,.aM [],[(i,some (.cells (gW cs off (dB l z)) e))],[i],0⟩:=by
 refine wS («aS»:=[.rs i off l]) rfl (by simp[hx]) ?_;simp only[fL,hm,hz,Array.getD_eq_getD_getElem?,List.getElem?_toArray,List.getElem?_cons_zero,Option.getD_some,he]
theorem ZY{cs:List D}{n k:Nat}{x:D}(hn:cs.length=n)(hk:k<=n):gW cs k (dB (n - k) [x])=cs.take k++replicate (n - k) x:=by
 have hr:dB (n - k) [x]=replicate (n - k) x:=by
  unfold dB;generalize n - k=j
  induction j with
  |zero=>rfl
  |succ j ih=>simp[List.replicate_succ,ih]
 rw[hr];unfold gW;split
 .rename_i y e;have h1:n - k=1:=by have:=congrArg List.length e;simpa using this
  rw[h1] at e ⊢;simp at e;subst e;rw[List.set_eq_take_append_cons_drop,if_pos oG,List.drop_eq_nil_of_le oG];rfl
 .rw[List.length_replicate,List.drop_eq_nil_of_le oG,List.append_nil]
end
end Go.Abs
namespace Go.Proofs.Tryz.K
def Ey(d:List Int)(n:Nat):List D:=(nR d).map I++replicate (n - (nR d).length) (I 0)
def Tm(d:List Int)(n:Nat)(m:Mem)(nx i:Nat)(r:D)(m':Mem)(C:Nat):Prop:=C=nx/\r=.rs i 0 (nR d).length/\m'=up m i (some (.cells (Ey d n) 3))
def afw(d:List Int)(m:Mem)(nx i:Nat)(r:D)(m':Mem)(C:Nat):Prop:=C=nx/\r=.rs i 0 (nR d).length/\∃ c,m'=up m i (some (.cells c 3))/\c.take (nR d).length=(nR d).map I
theorem ahs{m:Mem}{nx i n:Nat}{d:List Int}(hi:i<nx)(hm:m i=some (.cells (d.map I) 3))(hl:d.length=n)(hn:n<=100000):fP prog 232 [.rs i 0 n] m nx (Tm d n m nx i):=by
 refine wa aht ?_;rw[ahu];have ap:=hm
 have U:up m i (some (.cells (d.map I) 3))=m:=by
  funext j;simp only[up];split
  .rename_i e;rw[e,hm]
  .rfl
 have whole:fx d n=d->Tm d n m nx i (.rs i 0 n) m nx:=fun h=>by
  have h:nR d=d:=by unfold nR;rw[hl];exact h
  refine⟨rfl,by rw[h,hl],?_⟩;rw[Ey,h,hl,Nat.sub_self,List.replicate_zero,List.append_nil,U]
 refine ws ?_;refine SS ?_;refine aa (az (ag ?_));refine ay ?_;refine aa (cA rfl (fun h=>?_) fun h=>cm (az (aw ?_)))
 .have h:n<2:=by have h:(n:Int)<2:=by simpa using h
                 omega
  refine az (ag ?_);refine ab ?_;refine aa (dG (aD rfl (whole ?_)))
  match d,n,hl,h with
  |[],_,rfl,_=>rfl
  |[a],_,rfl,_=>rfl
 have h2:2<=n:=by have h:¬ (n:Int)<2:=by simpa using h
                  omega
 refine SS ?_;refine aa (bZ (fun s=>aH prog s ⟨ax [(0,.rs i 0 n)],m,nx⟩/\fx d n=d) (jh (α:=Nat) (fun k=>⟨ax [(0,.rs i 0 n),(3,I k)],m,nx⟩) (fun k=>1<=k/\k<=n/\fx d k=d.take k) (fun k=>n - k) 1 (au eH) ⟨oG,oG,?_⟩ ?_) ?_)
 .match d,hl with
  |a::t,_=>rfl
  |[],hl=>simp at hl;omega
 .rintro k ⟨zT,hk,J⟩;refine aY ?_;refine aa ⟨_,rfl,fun h=>?_,fun h=>?_⟩
  .have af:k<n:=by have h:(k:Int)<n:=by simpa using h
                   omega
   obtain⟨j,rfl⟩:∃ j,k=j+1:=⟨k - 1,oG⟩
   have ha:d[j+1]? =some d[j+1]:=aL oG;have hb:d[j]? =some d[j]:=aL oG;have ga:d.getD (j+1) 0=d[j+1]:=by simp[dF,ha]
   have gb:d.getD j 0=d[j]:=by simp[dF,hb]
   have kd:=nP (f:=I) ha;have C:=nP (f:=I) hb;have xj:((j+1:Nat):Int) - 1=(j:Int)/\ -9223372036854775808<=(j:Int)/\(j:Int)<=9223372036854775807:=by omega
   refine dV abl ?_;refine du ?_;refine av (kM rfl ap C V.h) ak (kN V.h V.h C) ?_;refine SS ?_;refine cq cx (aQ rfl (fun h=>?_) fun h=>?_)
   .have ue:d[j+1]=d[j]:=by simpa using h
    refine ws ?_;refine ab ?_;refine av (Ra rfl ap V.h V.h rfl) ak ⟨V.h,oG⟩ ?_;refine SS ?_;refine aa (az (aw ?_));refine SS ?_;have alA:fx d (j+1+1)=fx d (j+1):=Ub oG oG (by rw[ga,show j+1 - 1=j by omega,gb];exact ue);have ua:(fx d (j+1)).length=j+1:=by rw[J];simp;omega
    clear kd C xj
    refine aa (bZ (fun s=>∃ (c:List Int) (k:Nat),aH prog s ⟨ax [(0,.rs i 0 n),(3,I (k:Nat))],up m i (some (.cells (c.map I) 3)),nx⟩/\c.length=n/\k<=n/\c.take k=fx d n) (jh (α:=List Int×Nat×Nat) (fun s=>⟨ax [(0,.rs i 0 n),(3,I s.2.1),(4,.rs i (j+1) (n - (j+1))),(5,I (s.2.2+1:Nat))],up m i (some (.cells (s.1.map I) 3)),nx⟩)
     (fun s=>s.1.length=n/\j+1+(s.2.2+1)<=n/\s.2.1<=j+1+s.2.2/\s.1.take s.2.1=fx d (j+1+(s.2.2+1))/\∀ p,j+1+s.2.2<=p->s.1[p]? =d[p]?) (fun s=>n - s.2.2) (d,j+1,0) (ux eH U.symm) ⟨hl,by simp only;omega,by simp only;omega,?_,fun _ _=>rfl⟩ ?_) ?_)
    .show d.take (j+1)=fx d (j+1+1);rw[alA,J]
    .rintro⟨c,k,q⟩ ⟨M,w2,w3,w4,X⟩;simp only at M w2 w3 w4 X;dsimp only;refine ab ?_;refine av (yL rfl (aj _ _ _)) ak V.h ?_;refine SS ?_;refine aa ⟨_,rfl,fun h=>?_,fun h=>?_⟩
     .have af:q+1<n - (j+1):=by have h:((q+1:Nat):Int)<((n - (j+1):Nat):Int):=by simpa using h
                                omega
      have xa:c[j+1+(q+1)]? =some c[j+1+(q+1)]:=aL oG;have xb:c[j+1+q]? =some c[j+1+q]:=aL oG;have ya:d.getD (j+1+(q+1)) 0=c[j+1+(q+1)]:=by rw[dF, <- X _ oG,xa];rfl
      have yb:d.getD (j+1+q) 0=c[j+1+q]:=by rw[dF, <- X _ oG,xb];rfl
      have kd:=nP (f:=I) xa;have C:=nP (f:=I) xb;generalize hA:c[j+1+(q+1)]=a at xa ya kd;generalize hB:c[j+1+q]=b at xb yb C;clear hA hB;have xj:((q+1:Nat):Int) - 1=(q:Int)/\ -9223372036854775808<=(q:Int)/\(q:Int)<=9223372036854775807:=by omega
      refine dV ZZ ?_;refine du ?_;refine av (kM rfl (aj _ _ _) C V.h) ak (kN V.h V.h C) ?_;refine SS ?_;refine cq cx (aQ rfl (fun h=>?_) fun h=>?_)
      .have aC:a≠b:=by simpa using h
       have hn:=Uc (d:=d) (t:=j+1+(q+1)) (by rw[ya,show j+1+(q+1) - 1=j+1+q by omega,yb];exact aC);refine ws ?_;refine du ?_;refine aa (fO ?_);refine ay ?_;refine aa ?_;refine ay ?_;refine aa (bf (c.set k a,k+1,q+1) (ux eH ?_) ⟨by simp[M],by simp only;omega,by simp only;omega,?_,fun p hp=>?_⟩ (by simp only;omega))
       .rw[vq,List.map_set]
       .show(c.set k a).take (k+1)=fx d (j+1+(q+1)+1);rw[hn,ya, <- w4,List.take_succ_eq_append_getElem oP];simp;exact List.take_set_of_le (aZ k)
       .simp only at hp;show(c.set k a)[p]? =_;rw[List.getElem?_set_ne oG];exact X p oG
      .have alB:a=b:=by simpa using h
       have hn:=Ub (d:=d) (t:=j+1+(q+1)) oG oG (by rw[ya,show j+1+(q+1) - 1=j+1+q by omega,yb];exact alB);refine cP ?_;refine ay ?_;refine aa (bf (c,k,q+1) (au eH) ⟨M,by simp only;omega,by simp only;omega,?_,fun p hp=>X p (by simp only at hp;omega)⟩ (by simp only;omega));show c.take k=fx d (j+1+(q+1)+1);rw[hn,w4]
     .have bm:¬ q+1<n - (j+1):=by have h:¬ ((q+1:Nat):Int)<((n - (j+1):Nat):Int):=by simpa using h
                                  omega
      refine⟨c,k,.forget _ _ _ _ fun t=>qj (l:=[(0,.rs i 0 n),(3,I k)]) ⟨rfl,rfl,trivial⟩ t,M,oG,?_⟩;rw[w4];exact congrArg (fx d) oG
    .rintro s ⟨c,k,hg,M,ck,w2⟩;refine⟨_,hg,ag ?_⟩;refine ab ?_;refine av (Ra rfl (aj _ _ _) V.h V.h rfl) ak ⟨V.h,oG⟩ ?_;refine bQ (aew rfl (aj _ _ _) V.h V.h) ak ⟨V.h,(by rw[c3];first|(simp;done)|(simp;omega)|omega),rfl⟩ ?_;refine er ?_;refine ab ?_;refine av (abk rfl (aj _ _ _) V.h V.h rfl) ak ⟨V.h,oG⟩ ?_;refine SS ?_;have cR:(nR d).length=k:=by unfold nR;rw[hl, <- w2];simp;omega
     refine aa (bG (bY (bA (aD (d:=.rs i 0 k) rfl ⟨rfl,by rw[cR],(vq _ _ _ _).trans ?_⟩))));rw[ZY (by rw[List.length_map,M]) ck, <- List.map_take,w2,Ey,cR];unfold nR;rw[hl]
   .have aC:d[j+1]≠d[j]:=by simpa using h
    refine cP ?_;refine ay ?_;refine aa (bf (j+1+1) (au eH) ⟨oG,oG,?_⟩ oG);rw[Uc (by rw[ga,show j+1 - 1=j by omega,gb];exact aC),J,ga];exact(List.take_succ_eq_append_getElem oG).symm
  .have bm:¬ k<n:=by have h:¬ (k:Int)<n:=by simpa using h
                     omega
   have:k=n:=by omega
   refine⟨.forget _ _ _ _ fun t=>qj (l:=[(0,.rs i 0 n)]) ⟨rfl,trivial⟩ t,?_⟩;rw[<- this,J,dq oG]
 .rintro s ⟨hg,J⟩;refine⟨_,hg,ag ?_⟩;refine ab ?_;exact aa (aD rfl (whole J))
theorem alC{m:Mem}{nx i n:Nat}{d:List Int}(hi:i<nx)(hm:m i=some (.cells (d.map I) 3))(hl:d.length=n)(hn:n<=100000):fP prog 232 [.rs i 0 n] m nx (afw d m nx i):=by
 refine(ahs hi hm hl hn).mono ?_;rintro r m' J ⟨h1,h2,C⟩;refine⟨h1,h2,Ey d n,C,?_⟩;rw[Ey,List.take_append_of_le_length oS,dq oS]
end Go.Proofs.Tryz.K
namespace Go.Argus
def iZ(x:End)(b:Int)(w:List Int):List Int:=if LU x b then r7 w (ku x) else w
@[simp] theorem Rb (x : End) (b : Int) (w : List Int) : (iZ x b w).length = w.length := by unfold iZ; split <;> simp
def Bc(l:List Int):List Int:=nR (od l)
structure qM(x:cv):Prop where
 rd:∀ r∈ei x,0<=r/\r<1200
 sl:x.op=17\/x.op=18->0<=x.n/\x.n<80
 wr: -1000000<=kO x/\kO x<1200
 ar:x.op=10\/x.op=38->x.args.length<=1000
structure Ez(x:End):Prop where
 rd:∀ r∈dX x,0<=r/\r<1200
 wr: -1000000<=ku x/\ku x<1200
 wh:x.aP.length<=9
 a1:x.kind=5->x.ins.op=10\/x.ins.op=38->x.ins.args.length<=1000
 a2:x.kind=6\/x.kind=7->x.args.length<=1000
def mr(w:List Int)(ok:Bool)(rs:List Int):Bool:=rs.foldl (fun ok r=>ok&&qR w r.toNat) ok
def LZ(w:List Int)(x:cv):List Int:=r7 w (if x.op=18 then nO x.n else kO x)
def Ve(s:List Int×Bool)(x:cv):List Int×Bool:=(LZ s.1 x,mr s.1 s.2 (ei x)&&(x.op !=17||qR s.1 (nO x.n).toNat))
def lh(l:List cv)(w:List Int):List Int×Bool:=l.foldl Ve (w,true)
def mZ(b:bE)(w:List Int):List Int×Bool:=((lh b.ins w).1,mr (lh b.ins w).1 (lh b.ins w).2 (dX b.fin))
theorem Dd{α β:Type}{f:β->α->β}{z:β}{l:List α}{k:Nat}{x:α}(h:l[k]? =some x):(l.take (k+1)).foldl f z=f ((l.take k).foldl f z) x:=by
 rw[List.take_add_one,h,List.foldl_append];rfl
theorem KS(l:List cv)(w:List Int):(lh l w).1.length=w.length:=by
 unfold lh;generalize true=b
 induction l generalizing w b with
 |nil=>rfl
 |cons x l ih=>rw[List.foldl_cons];exact(ih _ _).trans (by simp[LZ])
theorem JH(b:bE)(w:List Int):(mZ b w).1.length=w.length:=KS _ _
def cX(l:List (List Int)):List D:=l.flatMap fun w=>w.map cS
theorem Lt{sz:Nat}:∀ {l:List (List Int)} {i:Nat} {w:List Int},(∀ w∈l,w.length=sz)->l[i]? =some w->(cX l).drop (i*sz)=w.map cS++(cX (l.drop (i+1)))
 |[],i,w,_,h=>by simp at h
 |a::l,0,w,_,h=>by simp at h;subst h;simp[cX]
 |a::l,i+1,w,hs,h=>by
  have ha:(a.map cS).length=sz:=by simpa using hs a oS
  have h1:(i+1)*sz=(a.map cS).length+i*sz:=by rw[ha,Nat.add_mul];omega
  have ih:=Lt (l:=l) (i:=i) (w:=w) (fun w C=>hs w (by simp[C])) (by simpa using h);unfold cX at ih ⊢;rw[List.flatMap_cons,h1, <- List.drop_drop,List.drop_left,ih,List.drop_succ_cons]
theorem Ih{sz:Nat}{l:List (List Int)}{i:Nat}{w:List Int}(h:∀ w∈l,w.length=sz)(hi:l[i]? =some w):((cX l).drop (i*sz)).take sz=w.map cS:=by
 rw[Lt h hi,List.take_append_of_le_length (by simp[h w (bu hi)]),dq (by simp[h w (bu hi)])]
theorem Kn{sz:Nat}:∀ {l:List (List Int)},(∀ w∈l,w.length=sz)->(cX l).length=l.length*sz
 |[],_=>by simp[cX]
 |a::l,h=>by
  have:=Kn (l:=l) fun w C=>h w (by simp[C]);unfold cX at this ⊢;rw[List.flatMap_cons,List.length_append,this,List.length_map,h a oS,List.length_cons,Nat.add_mul];omega
theorem za{sz:Nat}{l:List (List Int)}{i:Nat}{w:List Int}(h:∀ w∈l,w.length=sz)(hi:l[i]? =some w):i*sz+sz<=(cX l).length:=by
 rw[Kn h];have:=(bI.1 hi).1;rw[<- Nat.succ_mul];exact Nat.mul_le_mul_right _ this
theorem UL{sz:Nat}(hz:2<=sz):∀ {l:List (List Int)} {i:Nat} {w v:List Int},(∀ w∈l,w.length=sz)->l[i]? =some v->w.length=sz->gW (cX l) (i*sz) (w.map cS)=cX (l.set i w):=by
 intro l i w v h hi C
 have key:gW (cX l) (i*sz) (w.map cS)=(cX l).take (i*sz)++w.map cS++(cX l).drop (i*sz+(w.map cS).length):=by
  unfold gW;split
  .rename_i x hx;have:(w.map cS).length=1:=by rw[hx];rfl
   simp at this;omega
  .rfl
 rw[key,List.length_map,C];clear key
 induction l generalizing i with
 |nil=>simp at hi
 |cons a l ih=>
  have ha:(a.map cS).length=sz:=by simpa using h a oS
  cases i with
  |zero=>
   simp only[Nat.zero_mul,List.take_zero,List.nil_append,Nat.zero_add,List.set_cons_zero];unfold cX;rw[List.flatMap_cons,List.flatMap_cons, <- ha,List.drop_left]
  |succ i=>
   have ih:=ih (i:=i) (fun w C=>h w (by simp[C])) (by simpa using hi);simp only[List.set_cons_succ];unfold cX at ih ⊢;rw[List.flatMap_cons,List.flatMap_cons, <- ih,show(i+1)*sz=(a.map cS).length+i*sz by rw[ha,Nat.add_mul];omega,List.take_length_add_append,Nat.add_assoc,List.drop_length_add_append];simp
theorem adg(n:Nat)(w:List Int):dB n (w.map cS)=cX (replicate n w):=by
 unfold dB cX
 induction n with
 |zero=>rfl
 |succ n ih=>rw[List.replicate_succ,List.replicate_succ,List.flatten_cons,List.flatMap_cons,ih]
theorem aez(n:Nat)(b:Bool):dB n [B b]=(replicate n b).map B:=by
 unfold dB
 induction n with
 |zero=>rfl
 |succ n ih=>rw[List.replicate_succ,List.replicate_succ,List.flatten_cons,List.map_cons,ih];rfl
theorem afy(l:List (List Int)):∀ a∈cX l,Tr a:=.flat fun w=>.map fun _=>.s _
theorem Lu{sz:Nat}{l:List (List Int)}{i:Nat}{w:List Int}(h:∀ w∈l,w.length=sz)(C:w.length=sz):∀ u∈l.set i w,u.length=sz:=fun u hu=>by
 rcases List.mem_or_eq_of_mem_set hu with h1|h1
 .exact h u h1
 .rw[h1];exact C
theorem Sf:∀ {w v:List Int},w.length=v.length->oq (w.map cS) (v.map cS)=some (w.map (Value.int .u64),v.map (Value.int .u64))
 |[],[],_=>rfl
 |a::w,b::v,h=>by
  have:=Sf (w:=w) (v:=v) (by simpa using h);simp[oq,y5,this]
theorem Sg:∀ {w v:List Int},w.length=v.length->gn (w.map (Value.int .u64)) (v.map (Value.int .u64))=(w==v)
 |[],[],_=>rfl
 |a::w,b::v,h=>by
  have:=Sg (w:=w) (v:=v) (by simpa using h);simp[gn,pY,this]
theorem abp(w:List Int):(w.map (Value.int .u64)).map jZ=replicate w.length 0:=by
 induction w with
 |nil=>rfl
 |cons a w ih=>simpa[jZ,List.replicate_succ] using ih
end Go.Argus
namespace Go.Proofs.Tryz.K
theorem Nw{f:FuncId}{cs:List D}{xs:List Int}(hs:xe prog f [] cs (xs.map fun n=>[I n]))(ht:Tr (.fn (.func f) [] cs))(hlen:xs.length<=12):kW prog 233 [.fn (.func f) [] cs] ((od xs).map I) xs.length 3:=by
 have C:∀ a∈[.fn (.func f) [] cs],Tr a:=.cons ht .nil;refine I6 ahv C (.map fun _=>.s _) ?_;rw[ahw];have Nn:=Nn hs ht oG;refine ws ?_;refine SS ?_;refine er ?_;refine SS ?_;refine Mm Nn rfl aK ?_;refine SS ?_;refine er ?_;refine SS ?_;refine gI (alf (i:=0) (l:=xs) oG rfl rfl hlen) rfl aK fun r m' J hp=>?_;obtain⟨rfl,rfl,rfl⟩:=hp;refine er ?_;refine ab ?_;exact aa (aD rfl ⟨0,rfl,rfl⟩)
theorem vH{f:FuncId}{cs:List D}{xs:List Int}(hs:xe prog f [] cs (xs.map fun n=>[I n]))(ht:Tr (.fn (.func f) [] cs))(hlen:xs.length<=12):aB prog 174 [.fn (.func f) [] cs] (aT (Bc xs)):=by
 have C:∀ a∈[.fn (.func f) [] cs],Tr a:=.cons ht .nil;refine bj ahx C (di _) ?_;rw[ahy];have Nw:=Nw hs ht hlen;refine ws ?_;refine SS ?_;refine aa (aw ?_);refine SS ?_;refine Mm Nw rfl aK ?_;refine gI (alC (i:=0) (d:=od xs) (n:=xs.length) oG rfl oS oG) rfl aK fun r m' J hp=>?_;obtain⟨rfl,rfl,c,rfl,hc⟩:=hp;refine SS ?_;refine aa (bH (dA [(0,c,3)] ⟨aj _ _ _,trivial⟩ (l:=[(2,aT (Bc xs))]) ⟨?_,trivial⟩) (aD rfl rfl));exact xc c3 (by rw[List.drop_zero,Nat.mul_one];exact hc)
def nextR(x:Argus.End):List Int:=Bc (eD x)
theorem Ud{x:Argus.End}(hlen:x.aP.length<=9):aB prog 174 [.fn (.func 234) [] [.pt (bC x)]] (aT (nextR x)):=
 vH (VM oG) (.fn oS (.cons (.pt (rO x)) .nil)) (by have:=Ln x;omega)
theorem xu{x:Argus.End}{b:Int}{w:List Int}(J:w.length=20)(hlen:x.aP.length<=1000)(hn: -1000000<=ku x/\ku x<1280):aB prog 134 [.agg (bC x),I b,gL w] (gL (iZ x b w)):=by
 have C:∀ a∈[D.agg (bC x),I b,gL w],Tr a:=.cons (.agg (rO x)) (.cons (.s _) (.cons (qS _) .nil));refine bj ahz C (qS _) ?_;rw[ahA];have Nk:=Nk (x:=x) (b:=b) hlen;refine ws ?_;refine ay ?_;refine aa (az (ag ?_));refine ab ?_;refine cl Nk ?_;refine aa (cA rfl (fun h=>?_) fun h=>cm (ag ?_))
 .have Nx:=Nx (x:=x);have qT:=qT (w:=w) (n:=ku x) J hn;refine az (dV abo ?_);refine ab ?_;refine cl Nx ?_;refine cl qT ?_;refine SS ?_;refine cq cx (dG (tv (iq rfl rfl a201 sq (nY oP) t201 oP) ?_));simp[iZ,h]
 .refine ab ?_;refine aa (tv (iq rfl rfl a201 sq (nY oP) t201 oP) ?_);simp[iZ,h]
theorem oE{b:bE}{w:List Int}(hw:w.length=20)(hl:b.ins.length<=100000)(hi:∀ x∈b.ins,qM x)(hf:Ez b.fin)(Cz:∀ x∈b.ins,(ei x).length<=100000)(ig:(dX b.fin).length<=100000):aB prog 133 [.agg (bU b),gL w] (.aM [gL (mZ b w).1,B (mZ b w).2]):=by
 have bg:∀ a∈[D.agg (bU b),gL w],Tr a:=.cons (.agg (Rc b)) (.cons (qS _) .nil);refine bj ahB bg (.aM (.cons (qS _) (.cons (.s _) .nil))) ?_;rw[ahC];refine ws ?_;refine eM (tu (cs:=bU _) rfl) ak (by first|rfl|exact sW eO bN|exact oz _|exact vg sJ) ?_;refine ay ?_;refine aa (aw ?_);refine SS ?_;refine aa (bH (cn (l:=[(2,.rp 0 0),(3,.rp 1 0),(4,.rp 2 0),(6,B true)]) (ml:=[(0,.cells (bU b) 59),(1,.cells (w.map cS) 201),(2,.cells (replicate 20 (cS 0)) 201)]) eH eH) (az (aw ?_)));refine aY ?_
 refine aa (bZ (fun s=>∃ n',3<=n'/\aH prog s ⟨ax [(2,.rp 0 0),(3,.rp 1 0),(4,.rp 2 0),(6,B (lh b.ins w).2)],br [(0,.cells (bU b) 59),(1,.cells ((lh b.ins w).1.map cS) 201),(2,.cells (replicate 20 (cS 0)) 201)],n'⟩) (cH (α:=Nat×Nat)
  (fun k=>⟨ax [(2,.rp 0 0),(3,.rp 1 0),(4,.rp 2 0),(6,B (lh (b.ins.take k.1) w).2),(14,kx b.ins),(15,I b.ins.length),(16,I k.1)],br [(0,.cells (bU b) 59),(1,.cells ((lh (b.ins.take k.1) w).1.map cS) 201),(2,.cells (replicate 20 (cS 0)) 201)],k.2⟩)
  (fun k=>k.1<=b.ins.length/\3<=k.2) (fun k=>b.ins.length - k.1) (0,3) (cn eH eH) ⟨oS,oS⟩ ?_) ?_)
 .rintro⟨k,N⟩ ⟨hk,hN⟩;dsimp only at hk hN ⊢;refine SS ?_;refine aa ⟨_,rfl,fun h=>?_,fun h=>?_⟩
  .have af:k<b.ins.length:=by simpa using h
   have hx:b.ins[k]? =some b.ins[k]:=by simp[af]
   have jH:b.ins[k]∈b.ins:=gA af;generalize b.ins[k]=x at hx jH;obtain⟨ird,XB,iwr,iar⟩:=hi x jH;have C:lh (b.ins.take (k+1)) w=Ve (lh (b.ins.take k) w) x:=Dd hx;have hlen:(lh (b.ins.take k) w).1.length=20:=by rw[KS,hw]
   generalize lh (b.ins.take k) w=u at C hlen;obtain⟨v,ok⟩:=u;dsimp only at hlen ⊢;refine ws ?_;refine aY ?_;refine aa (az (aw ?_));have Cf:=Cf (x:=x) iar;refine SS ?_;refine cl Cf ?_;refine ab ?_;have aoL:=Cz x jH
   refine aa (bZ (fun s=>aH prog s ⟨ax [(2,.rp 0 0),(3,.rp 1 0),(4,.rp 2 0),(6,B (mr v ok (ei x))),(8,.rp N 0),(14,kx b.ins),(15,I b.ins.length),(16,I k)],up (br [(0,.cells (bU b) 59),(1,.cells (v.map cS) 201),(2,.cells (replicate 20 (cS 0)) 201)]) N (some (.cells (cg x) 54)),N+1⟩) (cH (α:=Nat)
    (fun j=>⟨ax [(2,.rp 0 0),(3,.rp 1 0),(4,.rp 2 0),(6,B (mr v ok ((ei x).take j))),(8,.rp N 0),(14,kx b.ins),(15,I b.ins.length),(16,I k),(21,aT (ei x)),(22,I (ei x).length),(23,I j)],up (br [(0,.cells (bU b) 59),(1,.cells (v.map cS) 201),(2,.cells (replicate 20 (cS 0)) 201)]) N (some (.cells (cg x) 54)),N+1⟩)
    (fun j=>j<=(ei x).length) (fun j=>(ei x).length - j) 0 (ux eH (vq _ _ _ _)) oG ?_) ?_)
   .intro j hj;refine SS ?_;refine aa ⟨_,rfl,fun h=>?_,fun h=>?_⟩
    .have J:j<(ei x).length:=by simpa using h
     have hr:(ei x)[j]? =some (ei x)[j]:=by simp[J]
     have U:(ei x)[j]∈ei x:=gA J;generalize (ei x)[j]=r at hr U;have px:=ird r U;obtain⟨M,rfl⟩:=lv px.1;have lY:=lY (w:=v) (m:=M) hlen oG;refine ws ?_;refine ay ?_;refine aa (fO ?_);refine aY ?_;refine gc lY ?_;refine ab ?_;refine aa ?_;refine ab ?_;refine aa (bf (j+1) (au ⟨rfl,rfl,rfl,?_,rfl,rfl,rfl,rfl,rfl,rfl,rfl,trivial⟩) oG oG)
     have e:mr v ok ((ei x).take (j+1))=(mr v ok ((ei x).take j)&&qR v M):=by
      unfold mr;rw[Dd hr,lu]
     rw[e];generalize mr v ok ((ei x).take j)=g;cases g<;>rfl
    .have bm:¬ j<(ei x).length:=by simpa using h
     refine au ⟨rfl,rfl,rfl,?_,rfl,rfl,rfl,rfl,trivial⟩;show B _=B _;rw[dq oG]
   .intro s hg;have C:lh (b.ins.take (k+1)) w=(LZ v x,mr v ok (ei x)&&(x.op !=17||qR v (nO x.n).toNat)):=C;generalize mr v ok (ei x)=O1 at hg C;have EL:=EL (w:=v) (x:=x) hlen (fun h=>XB (.inr h)) (fun _=>by omega);have fin:∀ (d:Bool) env,d=(O1&&(x.op !=17||qR v (nO x.n).toNat))->lN [(2,.rp 0 0),(3,.rp 1 0),(4,.rp 2 0),(6,B d),(8,.rp N 0),(14,kx b.ins),(15,I b.ins.length),(16,I k)] env->True:=fun _ _ _ _=>trivial;refine⟨_,hg,?_⟩;cases O1 with
    |false=>
     have vB:false=true->aB prog 182 [I x.n] (I (nO x.n)):=fun h=>by cases h
     have lY:false=true->aB prog 135 [gL v,I (nO x.n)] (B true):=fun h=>by cases h
     refine dV J1 ?_;refine bh ?_;refine pL rfl rfl rfl (fun hc=>⟨ak,vB hc⟩) ?_;refine pL rfl rfl rfl (fun hc=>⟨ak,lY hc⟩) ?_;refine ay ?_;refine cq cx (fO ?_);refine ab ?_;refine cl EL ?_;refine SS ?_;refine aa ?_;refine ab ?_;refine aa (bf (k+1,N+1) (cn ⟨rfl,rfl,rfl,?_,rfl,rfl,rfl,trivial⟩ ⟨ah oG (ah oG rfl),?_,ah oG (ah oG rfl),trivial⟩) ⟨oM,oM⟩ oM)
     .dsimp only;rw[C];rfl
     .dsimp only;rw[C];exact aj _ _ _
    |true=>
     by_cases X:x.op=17
     .have tL:(x.op !=17)=false:=by simp[X]
      have ao8:=XB (.inl X);have vB:=vB (n:=x.n) oG;obtain⟨sn,fI⟩:=lv (show 0<=nO x.n by unfold nO;omega);have lY:=lY (w:=v) (m:=sn) hlen (by unfold nO at fI;omega);rw[<- fI] at lY;refine dV J1 ?_;refine aY ?_;refine Wq ?_;refine aY ?_;refine gc vB ?_;refine gc lY ?_;refine ay ?_;refine cq cx (fO ?_);refine ab ?_;refine cl EL ?_;refine SS ?_;refine aa ?_;refine ab ?_;refine aa (bf (k+1,N+1) (cn ⟨rfl,rfl,rfl,?_,rfl,rfl,rfl,trivial⟩ ⟨ah oG (ah oG rfl),?_,ah oG (ah oG rfl),trivial⟩) ⟨oM,oM⟩ oM)
      .dsimp only;rw[C,tL,fI];rfl
      .dsimp only;rw[C];exact aj _ _ _
     .have tL:(x.op !=17)=true:=by simp[X]
      have vB:false=true->aB prog 182 [I x.n] (I (nO x.n)):=fun h=>by cases h
      have lY:false=true->aB prog 135 [gL v,I (nO x.n)] (B true):=fun h=>by cases h
      refine dV J1 ?_;refine aY ?_;refine Wq ?_;refine SS ?_;(iterate 5 refine z fun _ _=>?_);refine Wr ?_;refine ab ?_;refine cq cx (fO ?_);refine ab ?_;refine cl EL ?_;refine SS ?_;refine aa ?_;refine ab ?_;refine aa (bf (k+1,N+1) (cn ⟨rfl,rfl,rfl,?_,rfl,rfl,rfl,trivial⟩ ⟨ah oG (ah oG rfl),?_,ah oG (ah oG rfl),trivial⟩) ⟨oM,oM⟩ oM)
      .dsimp only;rw[C,tL];rfl
      .dsimp only;rw[C];exact aj _ _ _
  .have bm:¬ k<b.ins.length:=by simpa using h
   have zV:b.ins.take k=b.ins:=dq oG;refine⟨N,hN,?_⟩;rw[zV];exact au eH
 .rintro s ⟨n',iL,hg⟩;have hlen:(lh b.ins w).1.length=20:=by rw[KS,hw]
  have XC:mZ b w=((lh b.ins w).1,mr (lh b.ins w).1 (lh b.ins w).2 (dX b.fin)):=rfl;rw[XC];generalize lh b.ins w=u at hg hlen ⊢;obtain⟨v,ok⟩:=u;dsimp only at hlen hg ⊢;have Ny:=Ny (x:=b.fin) hf.a1 hf.a2;refine⟨_,hg,az (aw ?_)⟩;refine ab ?_;refine cl Ny ?_;refine ab ?_
  refine aa (bZ (fun s=>aH prog s ⟨ax [(3,.rp 1 0),(4,.rp 2 0),(6,B (mr v ok (dX b.fin)))],br [(1,.cells (v.map cS) 201),(2,.cells (replicate 20 (cS 0)) 201)],n'⟩) (cH (α:=Nat)
   (fun j=>⟨ax [(3,.rp 1 0),(4,.rp 2 0),(6,B (mr v ok ((dX b.fin).take j))),(53,aT (dX b.fin)),(54,I (dX b.fin).length),(55,I j)],br [(1,.cells (v.map cS) 201),(2,.cells (replicate 20 (cS 0)) 201)],n'⟩)
   (fun j=>j<=(dX b.fin).length) (fun j=>(dX b.fin).length - j) 0 (cn eH eH) oG ?_) ?_)
  .intro j hj;refine SS ?_;refine aa ⟨_,rfl,fun h=>?_,fun h=>?_⟩
   .have J:j<(dX b.fin).length:=by simpa using h
    have hr:(dX b.fin)[j]? =some (dX b.fin)[j]:=by simp[J]
    have U:(dX b.fin)[j]∈dX b.fin:=gA J;generalize (dX b.fin)[j]=r at hr U;have px:=hf.rd r U;obtain⟨M,rfl⟩:=lv px.1;have lY:=lY (w:=v) (m:=M) hlen oG;refine ws ?_;refine ay ?_;refine aa (fO ?_);refine ab ?_;refine bc rfl rfl (fz rfl rfl V.h V.h (nY (by first|rfl|exact bJ rfl|(simp;done)|(simp;omega)|omega))) (fun hc=>⟨ak,(fA V.h V.h (by first|rfl|exact bJ rfl|(simp;done)|(simp;omega)|omega))⟩) ?_;refine SS ?_;refine gc lY ?_;refine ab ?_;refine aa ?_;refine ab ?_;refine aa (bf (j+1) (au ⟨rfl,rfl,?_,rfl,rfl,rfl,trivial⟩) oG oG)
    have e:mr v ok ((dX b.fin).take (j+1))=(mr v ok ((dX b.fin).take j)&&qR v M):=by
     unfold mr;rw[Dd hr,lu]
    rw[e];generalize mr v ok ((dX b.fin).take j)=g;cases g<;>rfl
   .have bm:¬ j<(dX b.fin).length:=by simpa using h
    refine au ⟨rfl,rfl,?_,trivial⟩;show B _=B _;rw[dq oG]
  .intro s hg;refine⟨_,hg,ag ?_⟩;refine aY ?_;exact aa (nN (iq rfl rfl a201 sq (nY oP) t201 oP) rfl rfl)
end Go.Proofs.Tryz.K
end
namespace Go.Argus
open Go.Abs
theorem Z'{l:List Int}{j:Nat}(hj:j+1<l.length){x:Int}:x∈swapAt l j↔x∈l:=by
 have ha:l.getD j 0=l[j]:=by simp[dF,aL (show j<l.length by omega)]
 have hb:l.getD (j+1) 0=l[j+1]:=by simp[dF,aL hj]
 unfold swapAt;rw[ha,hb];exact(List.set_set_perm (show j+1<l.length from hj) (show j<l.length by omega)).mem_iff
theorem Sp{x:Int}:∀ (j:Nat) {l:List Int},j<l.length->(x∈pu l j↔x∈l)
 |0,l,_=>Iff.rfl
 |j+1,l,hj=>by
  simp only[pu];split
  .exact(Sp j oP).trans (Z' hj)
  .exact Iff.rfl
theorem Rq{l:List Int}{x:Int}:∀ k,k<l.length->(x∈np l k↔x∈l)
 |0,_=>Iff.rfl
 |k+1,h=>by
  simp only[np];exact(Sp (k+1) (by simpa using h)).trans (Rq k oG)
theorem abH{l:List Int}{x:Int}:x∈od l↔x∈l:=by
 unfold od;cases l with
 |nil=>simp[np]
 |cons a l=>exact Rq _ oS
theorem PZ{l:List Int}{x:Int}:x∈Bc l↔x∈l:=by
 unfold Bc nR;rw[Tk (aZ _),List.take_length];exact abH
theorem wrap_u64{n:Nat}(h:n<2 ^ 64):IntKind.u64.wrap (n:Int)=n:=by
 unfold IntKind.wrap;simp[IntKind.signed,IntKind.bits];omega
theorem aeB{a b:Int}(ha:0<=a/\a<18446744073709551616):0<=xv a b/\xv a b<=a:=by
 unfold xv mj;simp only;rw[wrap_u64 (n:=(BitVec.ofInt IntKind.u64.bits a&&& BitVec.ofInt IntKind.u64.bits b).toNat) (BitVec.isLt (w:=64) _)];obtain⟨n,rfl⟩:=lv ha.1
 have h1:(BitVec.ofInt IntKind.u64.bits (n:Int)).toNat=n:=by
  rw[BitVec.toNat_ofInt];show((n:Int) % ((2 ^ 64:Nat):Int)).toNat=n;omega
 have h2:(BitVec.ofInt IntKind.u64.bits (n:Int)&&& BitVec.ofInt IntKind.u64.bits b).toNat<=n:=by
  rw[BitVec.toNat_and,h1];exact Nat.and_le_left
 omega
end Go.Argus
section
open Go Go.Abs Go.Proofs Go.Argus
namespace Go.Abs
section
variable{P:Program}{env:Env}{m:Mem}{nx:Nat}{x y:Operand}{t p:TypeId}{k:IntKind}{n n':Int}
theorem DJ{j i l sz:Nat}{e:TypeId}{r:Row}(hx:(opd env x).core=.rs j 0 l)(hy:(opd env y).core=.s (.int k (i:Int)))(hm:m j=some r)(he:aF P t=e)(hs:P.cellsOf e=sz):
 Ef P (.indexAddr t x y) env m nx ⟨bi P t=true/\i<l,.rp j (i*sz),[],[j],0⟩:=by
 have h:=Hu (P:=P) (env:=env) (m:=m) (nx:=nx) (t:=t) hx hy hm he hs;have h1:0+((i:Int)).toNat*sz=i*sz:=by simp
 have h2:(bi P t=true/\(0:Int)<=(i:Int)/\(i:Int)<l)=(bi P t=true/\i<l):=by
  apply propext;constructor
  .rintro⟨a,_,b⟩;exact⟨a,oG⟩
  .rintro⟨a,b⟩;exact⟨a,oG,oG⟩
 rw[h1,h2] at h;exact h
theorem adh{ps:Array (Nat×Operand)}{e:TypeId}{l:Nat}{z:List D}(hu:P.underlying t=some (.array l e))(hp:ps.toList=[])(hz:a8 P t=z):Ef P (.build t ps) env m nx ⟨aI P t=true/\aI P e=true,.agg z,[],[],0⟩:=by
 refine⟨?_,rfl,rfl⟩;simp only[bd,hu,hp,hz,List.map_nil,hP,Option.map_some]
theorem Mu{xs ys:List D}{us vs:List Value}{ks:List Nat}(hx:(opd env x).core=.agg xs)(hy:(opd env y).core=.agg ys)(hf:vd P t=some ks)(hz:oq xs ys=some (us,vs)){c:Bool}(hc:(!gn us vs)=c):
 Ef P (.binOp .neq t x y p) env m nx ⟨us.map jZ=ks/\P.eqGuardType P.depth t=false,.s (.bool c),[],[],0⟩:=by
 refine⟨?_,rfl,rfl⟩
 have hn:ns P m .neq t (.agg xs) y=none:=by
  unfold ns;split<;>first|rfl|(rename_i h;cases h)
 simp only[bd,a6,hx,hy,hn,vw,yH,hf,hz,hc,Option.map_some]
end
def zB(cs:List D):Prop:=∀ d∈cs,∃ v,d=.s v
theorem zB.map{α:Type}{f:α->Value}{l:List α}:zB (l.map fun x=>.s (f x)):=fun d hd=>by
 obtain⟨x,_,rfl⟩:=List.mem_map.1 hd;exact⟨_,rfl⟩
theorem ahD{i sz:Nat}{C cs:List D}(h:zB cs):cs.map (sub (cM i C sz))=cs:=by
 induction cs with
 |nil=>rfl
 |cons d cs ih=>
  obtain⟨v,rfl⟩:=h d oS;rw[List.map_cons,ih fun d hd=>h d (by simp[hd])];rfl
theorem aeA{m:Mem}{i j sz:Nat}{J cs:List D}{e:TypeId}(C:j≠i)(hm:m j=some (.cells cs e))(h:zB cs):(if j=i then none else(m j).map (Row.sub (cM i J sz)))=some (.cells cs e):=by
 rw[if_neg C,hm];show some (Row.cells (cs.map _) e)=_;rw[ahD h]
theorem afz{i sz n:Nat}{C es:List D}:sub (cM i C sz) (.sl es n)=.sl es n:=rfl
theorem Ko{i j sz off n:Nat}{C:List D}(h:j≠i):sub (cM i C sz) (.rs j off n)=.rs j off n:=by
 show(if j=i then _ else D.rs j off n)=_;rw[if_neg h]
theorem jR{i sz n:Nat}{C:List D}(h:C.length=n*sz):sub (cM i C sz) (.rs i 0 n)=.sl C n:=by
 show(if i=i then D.sl ((C.drop 0).take (n*sz)) n else _)=_;rw[if_pos rfl,List.drop_zero,dq oG]
end Go.Abs
namespace Go.Proofs.Tryz.K
theorem ahE:vd prog 201=some (replicate 20 0):=kr
theorem ahF:prog.eqGuardType prog.depth 201=false:=kr
theorem ahG:a8 prog 201=(replicate 20 (0:Int)).map cS:=z201
theorem alU:prog.underlying 201=some (.array 20 199):=kr
section
variable{env:Env}{m:Mem}{nx:Nat}{x y:Operand}{p:TypeId}
theorem ahH{w v:List Int}(hx:(opd env x).core=gL w)(hy:(opd env y).core=gL v)(h:w.length=v.length):Ef prog (.binOp .neq 201 x y p) env m nx ⟨(w.map (Value.int .u64)).map jZ=replicate 20 0/\prog.eqGuardType prog.depth 201=false,B (w !=v),[],[],0⟩:=
 Mu hx hy ahE (Sf h) (by rw[Sg h];rfl)
theorem ahI{w:List Int}(h:w.length=20):(w.map (Value.int .u64)).map jZ=replicate 20 0/\prog.eqGuardType prog.depth 201=false:=⟨by rw[abp,h],ahF⟩
end
end Go.Proofs.Tryz.K
namespace Go.Argus
open Go.Proofs.Tryz.K (nextR)
structure CS where
 wsq:List (List Int)
 re:List Bool
 ch:Bool
def gT(x:End)(w:List Int)(s:CS)(n:Int):CS:=
 if s.re.getD n.toNat false=false\/nn (s.wsq.getD n.toNat []) (iZ x n w)≠s.wsq.getD n.toNat [] then⟨s.wsq.set n.toNat (nn (s.wsq.getD n.toNat []) (iZ x n w)),s.re.set n.toNat true,true⟩ else s
def jm(bs:List bE)(s:CS)(k:Nat):CS:=match bs[k]? with
 |none=>s
 |some x=>if s.re.getD k false=true then(nextR x.fin).foldl (gT x.fin (mZ x (s.wsq.getD k [])).1) s else s
def qi(bs:List bE)(s:CS):CS:=(range bs.length).foldl (jm bs) ⟨s.wsq,s.re,false⟩
def rL(bs:List bE):Nat->CS->CS
 |0,s=>s
 |k+1,s=>if(qi bs s).ch=true then rL bs k (qi bs s) else qi bs s
def oF:Int:=18446744073709551615
def mD:Nat->List Int
 |0=>replicate 20 0
 |k+1=>r7 (mD k) k
@[simp] theorem Re : ∀ k, (mD k).length = 20
 |0=>rfl
 |k+1=>by simp[mD,Re k]
def wA(n args:Nat):CS:=⟨(replicate n (replicate 20 oF)).set 0 (mD args),(replicate n false).set 0 true,true⟩
def ll(u:Int):Prop:=0<=u/\u<18446744073709551616
structure mO(n:Nat)(s:CS):Prop where
 lw:s.wsq.length=n
 lr:s.re.length=n
 mW:∀ w∈s.wsq,w.length=20
 rg:∀ w∈s.wsq,∀ u∈w,ll u
def nz(w:List Int):Nat:=(w.map Int.toNat).sum
def xZ(s:CS):Nat:=(s.wsq.map nz).sum+s.re.count false
def rz(s:CS):Nat:=xZ s+if s.ch=true then 1 else 0
theorem Tn{l:List Nat}{k x y:Nat}(h:l[k]? =some x):(l.set k y).sum+x=l.sum+y:=by
 induction l generalizing k with
 |nil=>simp at h
 |cons a l ih=>cases k with
  |zero=>simp at h;subst h;simp;omega
  |succ k=>have:=ih (k:=k) (by simpa using h);simp;omega
theorem adi{l:List Int}{k:Nat}{x y:Int}(h:l[k]? =some x):nz (l.set k y)+x.toNat=nz l+y.toNat:=by
 unfold nz;rw[List.map_set];exact Tn (by simp[h])
theorem abq{a b:Int}(h:ll a):ll (xv a b)/\xv a b<=a:=by
 have:=aeB (b:=b) h;exact⟨⟨this.1,by unfold ll at h;omega⟩,this.2⟩
theorem adj{α:Type}{l:List α}{k:Nat}{x:α}(h:l[k]? =some x):l.set k x=l:=by
 apply List.ext_getElem?;intro i;rw[List.getElem?_set];split
 .rename_i e;subst e;rw[if_pos (bI.1 h).1,h]
 .rfl
theorem Si{w v:List Int}(J:∀ u∈w,ll u):∀ k,k<=w.length->(∀ u∈iA w v k,ll u)/\nz (iA w v k)<=nz w/\(iA w v k≠w->nz (iA w v k)<nz w)
 |0,_=>⟨J,aZ _,fun h=>absurd rfl h⟩
 |k+1,hk=>by
  obtain⟨h1,h2,M⟩:=Si (v:=v) J k oG;have hl:k<(iA w v k).length:=by simp;omega
  have hx:(iA w v k)[k]? =some (iA w v k)[k]:=aL hl;have hg:(iA w v k).getD k 0=(iA w v k)[k]:=by simp[dF,hx]
  have hm:=h1 _ (gA hl);simp only[iA,hg];generalize (iA w v k)[k]=a at hx hm;obtain⟨r1,r2⟩:=abq (b:=v.getD k 0) hm;generalize xv a (v.getD k 0)=y at r1 r2;have hs:=adi (y:=y) hx;unfold ll at r1 hm;refine⟨fun u hu=>?_,oG,fun C=>?_⟩
  .rcases List.mem_or_eq_of_mem_set hu with h|h
   .exact h1 u h
   .subst h;exact r1
  .by_cases e:y=a
   .subst e;have:(iA w v k).set k y=iA w v k:=adj hx;rw[this] at C ⊢;exact M C
   .omega
theorem adk{l:List (List Int)}{k:Nat}{w v:List Int}(h:l[k]? =some w):((l.set k v).map nz).sum+nz w=(l.map nz).sum+nz v:=by
 rw[List.map_set];exact Tn (by simp[h])
theorem count_set{l:List Bool}{k:Nat}{b:Bool}(h:l[k]? =some b):(l.set k true).count false+(if b=true then 0 else 1)=l.count false:=by
 induction l generalizing k with
 |nil=>simp at h
 |cons a l ih=>cases k with
  |zero=>simp at h;subst h;cases a<;>simp
  |succ k=>have:=ih (k:=k) (by simpa using h);simp only[List.set_cons_succ,List.count_cons];omega
theorem Qt{x:End}{w:List Int}{s:CS}{n:Nat}{t:Int}(hs:mO n s)(ht:0<=t/\t<n):mO n (gT x w s t)/\rz (gT x w s t)<=rz s:=by
 obtain⟨lw,lr,mW,rg⟩:=hs;obtain⟨k,rfl⟩:=lv ht.1;have hk:k<n:=by omega
 have hx:s.wsq[k]? =some s.wsq[k]:=aL oG;have hb:s.re[k]? =some s.re[k]:=aL oG;have X:s.wsq.getD k []=s.wsq[k]:=by simp[dF,hx]
 have U:s.re.getD k false=s.re[k]:=by simp[dF,hb]
 have hm:s.wsq[k]∈s.wsq:=gA _;unfold gT;simp only[lu,X,U];generalize s.wsq[k]=v at hx hm;generalize s.re[k]=b at hb;have v20:=mW v hm;obtain⟨C,M,J⟩:=Si (v:=iZ x k w) (rg v hm) 20 oG;have hl:=Rf v (iZ x k w)
 change (∀ u∈nn v (iZ x k w),ll u) at C
 change nz (nn v (iZ x k w))<=nz v at M
 change nn v (iZ x k w)≠v->nz (nn v (iZ x k w))<nz v at J
 generalize nn v (iZ x k w)=u at C M J hl;split
 .rename_i hc;refine⟨⟨by simp[lw],by simp[lr],Lu mW oG,fun y hy=>?_⟩,?_⟩
  .rcases List.mem_or_eq_of_mem_set hy with h|h
   .exact rg y h
   .subst h;exact C
  .have h1:=adk (v:=u) hx;have h2:=count_set hb;unfold rz xZ;simp only[if_true];rcases hc with hc|hc
   .subst hc;simp only[Bool.false_eq_true,if_false] at h2;omega
   .have:=J hc;omega
 .exact⟨⟨lw,lr,mW,rg⟩,aZ _⟩
theorem Gc{α β:Type}{f:β->α->β}{J:β->Prop}{φ:β->Nat}{l:List α}(h:∀ x∈l,∀ s,J s->J (f s x)/\φ (f s x)<=φ s){s:β}(hs:J s):J (l.foldl f s)/\φ (l.foldl f s)<=φ s:=by
 induction l generalizing s with
 |nil=>exact⟨hs,aZ _⟩
 |cons x l ih=>
  obtain⟨h1,h2⟩:=h x oS s hs;obtain⟨C,M⟩:=ih (fun y hy=>h y (by simp[hy])) h1;exact⟨C,Nat.le_trans M h2⟩
theorem Kp(x:End):(nextR x).length<=x.aP.length+3:=by
 have h1:=Tl (d:=od (eD x)) (od (eD x)).length;have h2:=Ln x;rw[Q9] at h1;exact Nat.le_trans (by simpa[nextR,Bc,nR] using h1) h2
structure zh(n:Nat)(b:bE):Prop where
 len:b.ins.length<=100000
 ins:∀ x∈b.ins,qM x
 fin:Ez b.fin
 rl:∀ x∈b.ins,(ei x).length<=100000
 rf:(dX b.fin).length<=100000
 to:∀ t∈nextR b.fin,0<=t/\t<n
theorem Sj{bs:List bE}{s:CS}{n k:Nat}(hb:∀ b∈bs,zh n b)(hs:mO n s):mO n (jm bs s k)/\rz (jm bs s k)<=rz s:=by
 unfold jm;split
 .exact⟨hs,aZ _⟩
 .rename_i x hx;split
  .exact Gc (J:=mO n) (φ:=rz) (fun t ht s hs=>Qt hs ((hb x (bu hx)).to t ht)) hs
  .exact⟨hs,aZ _⟩
theorem JM{bs:List bE}{s:CS}{n:Nat}(hb:∀ b∈bs,zh n b)(hs:mO n s):mO n (qi bs s)/\rz (qi bs s)<=xZ s:=by
 have:=Gc (J:=mO n) (φ:=rz) (f:=jm bs) (l:=range bs.length) (fun k _ s hs=>Sj hb hs) (s:=⟨s.wsq,s.re,false⟩) ⟨hs.lw,hs.lr,hs.mW,hs.rg⟩;exact this
def pU(bs:List bE)(args:Nat):CS:=rL bs (xZ (wA bs.length args)+1) (wA bs.length args)
theorem getD_some{α:Type}{l:List α}{k:Nat}{x d:α}(h:l[k]? =some x):l.getD k d=x:=by simp[dF,h]
theorem aeC{α:Type}{n k:Nat}{x y:α}(hk:k<n):(replicate k x++replicate (n - k) y).set k x=replicate (k+1) x++replicate (n - (k+1)) y:=by
 rw[show n - k=n - (k+1)+1 by omega,List.replicate_succ,List.replicate_succ',List.append_assoc,List.singleton_append];rw[List.set_append];simp
theorem adl{α:Type}{a b:Nat}{x y z:α}(h:z∈replicate a x++replicate b y):z=x\/z=y:=by
 rcases List.mem_append.1 h with h|h
 .exact .inl (List.eq_of_mem_replicate h)
 .exact .inr (List.eq_of_mem_replicate h)
theorem Zd{x:End}{w v:List Int}{s:CS}{k:Nat}{b:Bool}(hx:s.wsq[k]? =some v)(hb:s.re[k]? =some b)(h:b=false\/nn v (iZ x k w)≠v):gT x w s k=⟨s.wsq.set k (nn v (iZ x k w)),s.re.set k true,true⟩:=by
 unfold gT;rw[lu,getD_some hx,getD_some hb,if_pos h]
theorem Z0{x:End}{w v:List Int}{s:CS}{k:Nat}{b:Bool}(hx:s.wsq[k]? =some v)(hb:s.re[k]? =some b)(h:¬ (b=false\/nn v (iZ x k w)≠v)):gT x w s k=s:=by
 unfold gT;rw[lu,getD_some hx,getD_some hb,if_neg h]
theorem PV{n args:Nat}(ha:∀ u∈mD args,ll u):mO n (wA n args):=by
 refine⟨by simp[wA],by simp[wA],Lu (fun w C=>by rw[List.eq_of_mem_replicate C];simp) oS,fun w C u hu=>?_⟩;rcases List.mem_or_eq_of_mem_set C with h|h
 .rw[List.eq_of_mem_replicate h] at hu;rw[List.eq_of_mem_replicate hu];simp[ll,oF]
 .rw[h] at hu;exact ha u hu
end Go.Argus
namespace Go.Proofs.Tryz.K
theorem Cg{p q:D}{f:ai}{n args:Nat}(hp:Tr p)(hq:Tr q)(eO:p.one=true)(bN:q.one=true)(hn:f.blocks.length=n)(Ac:0<n)(Ae:n<=100000)(ha:f.args=args)(zZ:args<=1000)(Am:∀ u∈mD args,ll u)(hb:∀ b∈f.blocks,zh n b):
 aB prog 132 [.agg (a7 p q f)] (.aM [.sl (cX (pU f.blocks args).wsq) n,.sl ((pU f.blocks args).re.map B) n]):=by
 have bg:∀ a∈[D.agg (a7 p q f)],Tr a:=.cons (kP hp hq f) .nil;refine bj ahJ bg (.aM (.cons (.sl (afy _)) (.cons (.sl (.map fun _=>.s _)) .nil))) ?_;rw[ahK];refine aw ?_;refine ay ?_;refine aa (bH (dA [(0,a7 p q f,113)] eH (l:=[(1,.pt (a7 p q f))]) eH) (CV abr ?_));refine aY ?_;refine eM (Dv rfl rfl V.h V.h) ak ⟨oG,rfl,oG,by rw[Ws];omega,V.h⟩ ?_;refine aY ?_;refine eM (Dv rfl rfl V.h V.h) ak ⟨oG,rfl,oG,by rw[b4];omega,V.h⟩ ?_;refine ab ?_;have iL:((f.blocks.length:Nat):Int).toNat=n:=hn;refine cq cx (bH (cn (l:=[(1,.pt (a7 p q f)),(4,.rs 1 0 n),(5,.rs 2 0 n)]) (ml:=[(1,.cells (cX (replicate n (replicate 20 0))) 201),(2,.cells ((replicate n false).map B) 4)]) ⟨rfl,?_,?_,trivial⟩ ⟨?_,?_,trivial⟩) (az (aw ?_)))
 .exact congrArg (fun k=>D.rs 1 0 k) iL
 .exact congrArg (fun k=>D.rs 2 0 k) iL
 .exact congrArg (fun c=>some (Row.cells c 201)) ((congrArg (fun k=>dB k ((replicate 20 (0:Int)).map cS)) iL).trans (adg n (replicate 20 0)))
 .exact congrArg (fun c=>some (Row.cells c 4)) ((congrArg (fun k=>dB k [B false]) iL).trans (aez n false))
 refine SS ?_;refine av (yL rfl rfl) ak V.h ?_;refine SS ?_
 refine aa (bZ (fun s=>aH prog s ⟨ax [(1,.pt (a7 p q f)),(4,.rs 1 0 n),(5,.rs 2 0 n)],br [(1,.cells (cX (replicate n (replicate 20 oF))) 201),(2,.cells ((replicate n false).map B) 4)],3⟩) (cH (α:=Nat)
  (fun k=>⟨ax [(1,.pt (a7 p q f)),(4,.rs 1 0 n),(5,.rs 2 0 n),(27,I n),(28,I k)],br [(1,.cells (cX (replicate k (replicate 20 oF)++replicate (n - k) (replicate 20 0))) 201),(2,.cells ((replicate n false).map B) 4)],3⟩)
  (fun k=>k<=n) (fun k=>n - k) 0 (cn eH eH) oG ?_) ?_)
 .intro k hk;refine SS ?_;refine aa ⟨_,rfl,fun h=>?_,fun h=>?_⟩
  .have af:k<n:=by simpa using h
   have alV:=aeC (x:=replicate 20 oF) (y:=replicate 20 (0:Int)) af
   have hi:(replicate k (replicate 20 oF)++replicate (n - k) (replicate 20 (0:Int)))[k]? =some (replicate 20 0):=by
    rw[List.getElem?_append_right oS,List.length_replicate,Nat.sub_self,show n - k=n - (k+1)+1 by omega,List.replicate_succ];rfl
   have xV:∀ w∈replicate k (replicate 20 oF)++replicate (n - k) (replicate 20 (0:Int)),w.length=20:=fun w U=>by
    rcases adl U with h|h<;>(rw[h];simp)
   have Nf:aB prog 178 [] (gL (replicate 20 oF)):=Nf;refine ws ?_;refine ab ?_;refine aa (fO ?_);refine ab ?_;refine cl Nf ?_;refine ab ?_;refine aa ?_;refine ab ?_;refine aa (bf (k+1) (cn eH ⟨?_,rfl,trivial⟩) oG oG);rw[<- alV];rfl
  .have bm:¬ k<n:=by simpa using h
   have:k=n:=by omega
   subst this;refine cn eH ⟨?_,rfl,trivial⟩;show some (Row.cells (cX (_++replicate (k - k) _)) _)=_;rw[Nat.sub_self,List.replicate_zero,List.append_nil]
 rintro s hg;refine⟨_,hg,aw ?_⟩;have hi:(replicate n (replicate 20 oF))[0]? =some (replicate 20 oF):=by simp[Ac]
 have xV:∀ w∈replicate n (replicate 20 oF),w.length=20:=fun w U=>by rw[List.eq_of_mem_replicate U];simp
 refine ab ?_;refine av (adh alU rfl ahG) ak ⟨V.h,V.h⟩ ?_;refine ab ?_;refine av (na rfl rfl rfl V.h V.h) ak ⟨V.h,oG⟩ ?_;refine bQ (eR (d:=.s (.bool _)) (cs':=_) rfl rfl rfl rfl rfl) ak (cw V.h V.h (by first|(simp;done)|exact⟨rfl,bJ rfl⟩|(simp;omega)) rfl) ?_;refine aa (bH (cn (l:=[(1,.pt (a7 p q f)),(4,.rs 1 0 n),(5,.rs 2 0 n)]) (ml:=[(1,.cells (cX ((replicate n (replicate 20 oF)).set 0 (mD 0))) 201),(2,.cells (((replicate n false).set 0 true).map B) 4)]) eH ⟨rfl,?_,trivial⟩) (az (aw ?_)))
 .rw[List.map_set];rfl
 clear hi;refine aY ?_
 refine aa (bZ (fun s=>aH prog s ⟨ax [(1,.pt (a7 p q f)),(4,.rs 1 0 n),(5,.rs 2 0 n)],br [(1,.cells (cX ((replicate n (replicate 20 oF)).set 0 (mD args))) 201),(2,.cells (((replicate n false).set 0 true).map B) 4)],3⟩) (cH (α:=Nat)
  (fun k=>⟨ax [(1,.pt (a7 p q f)),(4,.rs 1 0 n),(5,.rs 2 0 n),(43,I args),(44,I k)],br [(1,.cells (cX ((replicate n (replicate 20 oF)).set 0 (mD k))) 201),(2,.cells (((replicate n false).set 0 true).map B) 4)],3⟩)
  (fun k=>k<=args) (fun k=>args - k) 0 (cn ⟨rfl,rfl,rfl,congrArg I ha,rfl,trivial⟩ eH) oG ?_) ?_)
 .intro k hk;refine SS ?_;refine aa ⟨_,rfl,fun h=>?_,fun h=>?_⟩
  .have af:k<args:=by simpa using h
   have hi:((replicate n (replicate 20 oF)).set 0 (mD k))[0]? =some (mD k):=by simp[Ac]
   have xV:=Lu (i:=0) xV (Re k);have qT:=qT (w:=mD k) (n:=(k:Int)) oS oG;refine ws ?_;refine ab ?_;refine aa (fO ?_);refine ay ?_;refine av (fz rfl rfl V.h V.h (Ih oN oN)) ak (fA V.h V.h (za oN oN)) ?_;refine SS ?_;refine cl qT ?_;refine ab ?_;refine aa ?_;refine ab ?_;refine aa (bf (k+1) (cn eH ⟨?_,rfl,trivial⟩) oG oG);show some (Row.cells (cX ((List.set _ 0 (mD k)).set 0 (mD (k+1)))) _)=_;rw[List.set_set]
  .have bm:¬ k<args:=by simpa using h
   have:k=args:=by omega
   subst this;exact au eH
 clear xV;rintro s hg;refine⟨_,hg,az (aw ?_)⟩;refine SS ?_;have hi0:=PV (n:=n) Am;have hR:pU f.blocks args=rL f.blocks (xZ (wA n args)+1) (wA n args):=by rw[pU,hn]
 generalize pU f.blocks args=R at hR ⊢
 refine aa (bZ (fun s=>∃ n',aH prog s ⟨ax [(4,.rs 1 0 n),(5,.rs 2 0 n)],br [(1,.cells (cX R.wsq) 201),(2,.cells (R.re.map B) 4)],n'⟩/\mO n R) (ad3 (α:=CS×Nat)
  (fun s=>⟨ax [(1,.pt (a7 p q f)),(4,.rs 1 0 n),(5,.rs 2 0 n),(8,B s.1.ch)],br [(1,.cells (cX s.1.wsq) 201),(2,.cells (s.1.re.map B) 4)],s.2⟩)
  (fun s=>mO n s.1/\3<=s.2/\(s.1.ch=true->∃ k,xZ s.1<k/\rL f.blocks k s.1=R)/\(s.1.ch=false->s.1=R)) (fun s=>2*xZ s.1+if s.1.ch=true then 1 else 0) (wA n args,3)
  (cn eH eH) ⟨hi0,aZ _,fun _=>⟨_,Nat.lt_succ_self _,hR.symm⟩,fun h=>by cases h⟩ ?_) ?_)
 .rintro⟨C,N0⟩ ⟨zC,XD,XE,Wt⟩;dsimp only at zC XD XE Wt ⊢;refine SS ?_;refine aa ⟨_,rfl,fun h0=>?_,fun h=>?_⟩
  .obtain⟨ek,aoM,Vf⟩:=XE h0;obtain⟨ek,rfl⟩:∃ j,ek=j+1:=⟨ek - 1,oG⟩
   have Vg:=JM hb zC;refine ws ?_;refine SS ?_;refine aa (aw ?_);refine bw ?_
   refine aa (cH (α:=Nat×Nat)
    (fun k=>⟨ax [(1,.pt (a7 p q f)),(4,.rs 1 0 n),(5,.rs 2 0 n),(8,B ((range k.1).foldl (jm f.blocks) ⟨C.wsq,C.re,false⟩).ch),(58,cG f.blocks),(59,I n),(60,I k.1)],br [(1,.cells (cX ((range k.1).foldl (jm f.blocks) ⟨C.wsq,C.re,false⟩).wsq) 201),(2,.cells (((range k.1).foldl (jm f.blocks) ⟨C.wsq,C.re,false⟩).re.map B) 4)],k.2⟩)
    (fun k=>k.1<=n/\3<=k.2) (fun k=>n - k.1) (0,N0) (cn ⟨rfl,rfl,rfl,rfl,rfl,congrArg (fun k:Nat=>I k) hn,rfl,trivial⟩ eH) ⟨Nat.zero_le _,XD⟩ ?_)
   rintro⟨k,N⟩ ⟨hk,hN⟩;dsimp only at hk hN ⊢;have bB:=(Gc (J:=mO n) (φ:=rz) (f:=jm f.blocks) (l:=range k) (fun k _ s hs=>Sj hb hs) (s:=⟨C.wsq,C.re,false⟩) ⟨zC.lw,zC.lr,zC.mW,zC.rg⟩).1;have fG:(range (k+1)).foldl (jm f.blocks) ⟨C.wsq,C.re,false⟩=jm f.blocks ((range k).foldl (jm f.blocks) ⟨C.wsq,C.re,false⟩) k:=by rw[List.range_succ,List.foldl_append];rfl
   have Vh:k=n->(range k).foldl (jm f.blocks) ⟨C.wsq,C.re,false⟩=qi f.blocks C:=fun e=>by rw[e,qi,hn]
   generalize (range k).foldl (jm f.blocks) ⟨C.wsq,C.re,false⟩=u at bB fG Vh;refine SS ?_;refine aa ⟨_,rfl,fun h=>?_,fun h=>?_⟩
   .have af:k<n:=by simpa using h
    have hx:f.blocks[k]? =some f.blocks[k]:=aL oG;have iQ:f.blocks[k]∈f.blocks:=gA _;generalize f.blocks[k]=x at hx iQ;have gR:=hb x iQ;have M:jm f.blocks u k=if u.re.getD k false=true then(nextR x.fin).foldl (gT x.fin (mZ x (u.wsq.getD k [])).1) u else u:=by rw[jm,hx]
    have lw:=bB.lw;have lr:=bB.lr;have mW:=bB.mW;have U:u.wsq[k]? =some u.wsq[k]:=aL oG;have nK:u.re[k]? =some u.re[k]:=aL oG;rw[getD_some U,getD_some nK] at M;have Az:=mW _ (gA (h:=by omega):u.wsq[k]∈u.wsq);generalize u.wsq[k]=w at U M Az;generalize u.re[k]=b at nK M;have kd:=nP (f:=B) nK;refine ws ?_;refine cz ?_;refine aa (az (ag ?_));refine ab ?_;refine av (na rfl rfl (ah oG (ah oG rfl)) V.h V.h) ak ⟨V.h,oG⟩ ?_;refine av (kM rfl (ah oG (ah oG rfl)) kd V.h) ak (kN V.h V.h kd) ?_;refine SS ?_;refine aa (cA rfl (fun h=>uv (HA ?_)) fun h=>cm (CV Z1 ?_))
    .have O3:b=false:=by simpa using h
     subst O3;have M:jm f.blocks u k=u:=M;refine ab ?_;refine aa (bf (k+1,N+1) (cn ⟨rfl,rfl,rfl,?_,rfl,rfl,rfl,trivial⟩ ⟨?_,?_,trivial⟩) ⟨oM,oM⟩ oM)
     .dsimp only;rw[fG,M];rfl
     .dsimp only;rw[fG,M];exact ah oG (ah oG rfl)
     .dsimp only;rw[fG,M];exact ah oG (ah oG rfl)
    have O4:b=true:=by simpa using h
    subst O4;have M:jm f.blocks u k=(nextR x.fin).foldl (gT x.fin (mZ x w).1) u:=M;have oE:=oE Az gR.len gR.ins gR.fin gR.rl gR.rf;have vI:=JH x w;rw[Az] at vI;generalize XC:mZ x w=th at oE vI M;obtain⟨w',O1⟩:=th;dsimp only at vI oE M;clear kd;refine av (fz (vs:=bU _) rfl (aj _ _ _) V.h V.h rfl) ak (fA V.h V.h (by first|(simp;done)|omega|exact bJ rfl)) ?_;refine ab ?_;refine av (DJ rfl rfl (ah oG (ah oG (aj _ _ _))) V.h V.h) ak ⟨V.h,oG⟩ ?_;refine av (fz rfl (ah oG (ah oG (aj _ _ _))) V.h V.h (Ih oN oN)) ak (fA V.h V.h (za oN oN)) ?_;refine cl oE ?_;refine cz ?_;refine cq cx (bH (ux (l:=[(1,.pt (a7 p q f)),(4,.rs 1 0 n),(5,.rs 2 0 n),(8,B u.ch),(10,.rp N 0),(11,.rp (N+1) 0),(58,cG f.blocks),(59,I n),(60,I k)]) (m':=up (up (br [(1,.cells (cX u.wsq) 201),(2,.cells (u.re.map B) 4)]) N (some (.cells (bU x) 59))) (N+1) (some (.cells (w'.map cS) 201))) eH (by rw[vq,vq])) (aw ?_));have vE:=vE (x:=x.fin);have vH:=Ud (x:=x.fin) gR.fin.wh
    change aB _ _ _ (aT (nextR x.fin)) at vH
    have gj:=gR.to;have l6:=Kp x.fin;have hwh:=gR.fin.wh;generalize nextR x.fin=l at vH M gj l6;refine av (sV rfl (ah oG (aj _ _ _)) V.h) ak (qG V.h) ?_;refine av (fz (vs:=bC _) rfl (ah oG (aj _ _ _)) V.h V.h rfl) ak (fA V.h V.h (by first|(simp;done)|omega|exact bJ rfl)) ?_;refine cl vE ?_;refine cl vH ?_;refine ab ?_;have EM:jm f.blocks u k=l.foldl (gT x.fin w') u:=M
    refine aa (cH (α:=Nat×Nat)
     (fun j=>⟨ax [(1,.pt (a7 p q f)),(4,.rs 1 0 n),(5,.rs 2 0 n),(8,B ((l.take j.1).foldl (gT x.fin w') u).ch),(10,.rp N 0),(11,.rp (N+1) 0),(58,cG f.blocks),(59,I n),(60,I k),(82,aT l),(83,I l.length),(84,I j.1)],up (up (br [(1,.cells (cX ((l.take j.1).foldl (gT x.fin w') u).wsq) 201),(2,.cells (((l.take j.1).foldl (gT x.fin w') u).re.map B) 4)]) N (some (.cells (bU x) 59))) (N+1) (some (.cells (w'.map cS) 201)),j.2⟩)
     (fun j=>j.1<=l.length/\N+2<=j.2) (fun j=>l.length - j.1) (0,N+2) (ux eH rfl) ⟨Nat.zero_le _,aZ _⟩ ?_)
    rintro⟨j,N'⟩ ⟨hj,hN'⟩;dsimp only at hj hN' ⊢;have Jw:=(Gc (J:=mO n) (φ:=rz) (f:=gT x.fin w') (l:=l.take j) (fun t ht s hs=>Qt hs (gj t (List.mem_of_mem_take ht))) bB).1;have X:∀ t,l[j]? =some t->(l.take (j+1)).foldl (gT x.fin w') u=gT x.fin w' ((l.take j).foldl (gT x.fin w') u) t:=fun t ht=>Dd ht;have EA:j=l.length->(l.take j).foldl (gT x.fin w') u=jm f.blocks u k:=fun e=>by rw[EM,dq oG]
    generalize (l.take j).foldl (gT x.fin w') u=v at Jw X EA;clear lw lr mW U nK;have lw:=Jw.lw;have lr:=Jw.lr;have mW:=Jw.mW;refine SS ?_;refine aa ⟨_,rfl,fun h=>?_,fun h=>?_⟩
    .have cZ:j<l.length:=by simpa using h
     have ht:l[j]? =some l[j]:=aL cZ;have FD:=gj _ (gA cZ);generalize l[j]=t at ht FD;obtain⟨i,rfl⟩:=lv FD.1;have dx:i<n:=by omega
     have U:v.wsq[i]? =some v.wsq[i]:=aL oG;have nK:v.re[i]? =some v.re[i]:=aL oG;have O5:=mW _ (gA (h:=by omega):v.wsq[i]∈v.wsq);generalize v.wsq[i]=y at U O5;generalize v.re[i]=b at nK;have kd:=nP (f:=B) nK;have xu:=xu (x:=x.fin) (b:=(i:Int)) (w:=w') vI (by have:=gR.fin.wh;omega) (by have:=gR.fin.wr;omega);have XF:=Rb x.fin i w';rw[vI] at XF;have Iy:=Iy O5 XF;have EZ:=Rf y (iZ x.fin i w');rw[O5] at EZ;have yes:=Zd (x:=x.fin) (w:=w') U nK;have no:=Z0 (x:=x.fin) (w:=w') U nK;generalize nn y (iZ x.fin i w')=z at Iy EZ yes no;refine ws ?_;refine ay ?_;refine aa (CV Z2 ?_);refine ab ?_;refine av (DJ rfl rfl (ah oG (ah oG (aj _ _ _))) V.h V.h) ak ⟨V.h,oG⟩ ?_;refine av (fz rfl (ah oG (ah oG (aj _ _ _))) V.h V.h (Ih oN oN)) ak (fA V.h V.h (za oN oN)) ?_;refine av (sV rfl (ah oG (aj _ _ _)) V.h) ak (qG V.h) ?_;refine av (fz (vs:=bC _) rfl (ah oG (aj _ _ _)) V.h V.h rfl) ak (fA V.h V.h (by first|(simp;done)|omega|exact bJ rfl)) ?_;refine SS ?_;refine av (fz rfl (aj _ _ _) V.h V.h (nY (by first|rfl|exact bJ rfl|(simp;done)|(simp;omega)|omega))) ak (fA V.h V.h (by first|rfl|exact bJ rfl|(simp;done)|(simp;omega)|omega)) ?_;refine cl xu ?_;refine cl Iy ?_;refine ab ?_;refine cq cx (bH (ux (l:=[(1,.pt (a7 p q f)),(4,.rs 1 0 n),(5,.rs 2 0 n),(8,B v.ch),(10,.rp N 0),(11,.rp (N+1) 0),(14,I i),(15,.rp N' 0),(58,cG f.blocks),(59,I n),(60,I k),(82,aT l),(83,I l.length),(84,I j)]) (m':=up (up (up (br [(1,.cells (cX v.wsq) 201),(2,.cells (v.re.map B) 4)]) N (some (.cells (bU x) 59))) (N+1) (some (.cells (w'.map cS) 201))) N' (some (.cells (z.map cS) 201))) eH (vq _ _ _ _)) (dV Z3 ?_));refine ab ?_;refine av (na rfl rfl (ah oG (ah oG (ah oG rfl))) V.h V.h) ak ⟨V.h,oG⟩ ?_;refine av (kM rfl (ah oG (ah oG (ah oG rfl))) kd V.h) ak (kN V.h V.h kd) ?_;refine ab ?_;refine bc rfl rfl (fz rfl (aj _ _ _) V.h V.h (nY (by first|rfl|exact bJ rfl|(simp;done)|(simp;omega)|omega))) (fun hc=>⟨ak,(fA V.h V.h (by first|rfl|exact bJ rfl|(simp;done)|(simp;omega)|omega))⟩) ?_;refine ab ?_;refine bc rfl rfl (DJ rfl rfl (ah oG (ah oG (ah oG (aj _ _ _)))) V.h V.h) (fun hc=>⟨ak,⟨V.h,oG⟩⟩) ?_;refine bc rfl rfl (fz rfl (ah oG (ah oG (ah oG (aj _ _ _)))) V.h V.h (Ih oN oN)) (fun hc=>⟨ak,(fA V.h V.h (za oN oN))⟩) ?_;refine bc rfl rfl (ahH rfl rfl (by first|assumption|(simp;omega)|omega)) (fun hc=>⟨ak,(ahI (by first|assumption|(simp;omega)|omega))⟩) ?_;refine SS ?_;refine cq cx (aQ rfl (fun h=>?_) fun h=>?_)
     .have yes:=yes (by
       cases b with
       |false=>exact .inl rfl
       |true=>exact .inr (by simpa using h))
      have X:=(X _ ht).trans yes;clear yes no;refine fO ?_;refine aY ?_;refine av (fz rfl (aj _ _ _) V.h V.h (nY (by first|rfl|exact bJ rfl|(simp;done)|(simp;omega)|omega))) ak (fA V.h V.h (by first|rfl|exact bJ rfl|(simp;done)|(simp;omega)|omega)) ?_;refine av (DJ rfl rfl (ah oG (ah oG (ah oG (aj _ _ _)))) V.h V.h) ak ⟨V.h,oG⟩ ?_;refine bQ (fM rfl rfl (ah oG (ah oG (ah oG (aj _ _ _)))) (UL oC oN oN (by first|assumption|(simp;omega)|(simp;done)))) ak (Dx (by first|(simp;omega)|(simp;done)) (za oN oN) (oz _)) ?_;refine av (na rfl rfl (ah oG (ah oG (ah oG (ah oG rfl)))) V.h V.h) ak ⟨V.h,oG⟩ ?_;refine bQ (eR (d:=.s (.bool _)) (cs':=_) rfl rfl (ah oG (ah oG (ah oG (ah oG rfl)))) rfl rfl) ak (cw V.h V.h (by first|(simp;done)|exact⟨rfl,bJ rfl⟩|(simp;omega)) rfl) ?_;refine SS ?_;refine aa ?_;refine ab ?_
      refine aa (bf (j+1,N'+1) (cn (ml:=[(N+1,.cells (w'.map cS) 201),(N,.cells (bU x) 59),(1,.cells (cX ((l.take (j+1)).foldl (gT x.fin w') u).wsq) 201),(2,.cells (((l.take (j+1)).foldl (gT x.fin w') u).re.map B) 4)]) ⟨rfl,rfl,rfl,?_,rfl,rfl,rfl,rfl,rfl,rfl,rfl,rfl,trivial⟩
       ⟨ah oG (ah oG (ah oG (aj _ _ _))),ah oG (ah oG (ah oG (ah oG (aj _ _ _)))),ah oG ?_,?_,trivial⟩) ⟨oM,oM⟩ oM)
      .dsimp only;rw[X];rfl
      .rw[X];exact aj _ _ _
      .rw[X];dsimp only;rw[List.map_set];exact aj _ _ _
     .have no:=no (by
       cases b with
       |false=>simp at h
       |true=>simpa using h)
      have X:=(X _ ht).trans no;refine cP ?_;refine ab ?_
      refine aa (bf (j+1,N'+1) (cn (ml:=[(N+1,.cells (w'.map cS) 201),(N,.cells (bU x) 59),(1,.cells (cX ((l.take (j+1)).foldl (gT x.fin w') u).wsq) 201),(2,.cells (((l.take (j+1)).foldl (gT x.fin w') u).re.map B) 4)]) ⟨rfl,rfl,rfl,?_,rfl,rfl,rfl,rfl,rfl,rfl,rfl,rfl,trivial⟩
       ⟨ah oG (aj _ _ _),ah oG (ah oG (aj _ _ _)),?_,?_,trivial⟩) ⟨oM,oM⟩ oM)
      .dsimp only;rw[X];rfl
      .rw[X];exact ah oG (ah oG (ah oG rfl))
      .rw[X];exact ah oG (ah oG (ah oG rfl))
    .have bm:¬ j<l.length:=by simpa using h
     have vl:=EA oG;subst vl;show aq _ _ _ _ _ _ _ _ _;refine ab ?_;refine aa (bf (k+1,N') (cn ⟨rfl,rfl,rfl,?_,rfl,rfl,rfl,trivial⟩ ⟨?_,?_,trivial⟩) ⟨oM,oM⟩ oM)
     .dsimp only;rw[fG];rfl
     .dsimp only;rw[fG];exact ah oG (ah oG rfl)
     .dsimp only;rw[fG];exact ah oG (ah oG rfl)
   .have bm:¬ k<n:=by simpa using h
    have hl:=Vh oG;subst hl;refine bf (qi f.blocks C,N) (cn eH eH) ⟨bB,hN,fun hc=>?_,fun hc=>?_⟩ ?_
    .refine⟨ek,?_,?_⟩
     .have:=Vg.2;unfold rz at this;show xZ (qi f.blocks C)<ek;rw[if_pos hc] at this;omega
     .dsimp only at hc ⊢;rw[<- Vf,rL,if_pos hc]
    .dsimp only at hc ⊢;rw[<- Vf,rL,if_neg (by simp[hc])]
    .have:=Vg.2;unfold rz at this;dsimp only;rw[if_pos h0];split at this<;>rename_i hc
     .rw[if_pos hc];omega
     .rw[if_neg hc];omega
  .have hR':=Wt h;subst hR';exact⟨N0,cn eH eH,zC⟩
 .rintro s ⟨n',hg,Nz⟩;refine⟨_,hg,aw ?_⟩;refine aY ?_;refine aa (bH (dA [(1,cX R.wsq,201),(2,R.re.map B,4)] ⟨rfl,aeA oG rfl .map,trivial⟩ (l:=[(2,.sl (cX R.wsq) n),(3,.sl (R.re.map B) n)]) ⟨?_,?_,trivial⟩) (gG rfl rfl rfl))
  .show sub (cM 2 (R.re.map B) (prog.cellsOf 4)) (sub (cM 1 (cX R.wsq) (prog.cellsOf 201)) (D.rs 1 0 n))=_;rw[jR (by rw[sq,Kn Nz.mW,Nz.lw]),afz]
  .show sub (cM 2 (R.re.map B) (prog.cellsOf 4)) (sub (cM 1 (cX R.wsq) (prog.cellsOf 201)) (D.rs 2 0 n))=_;rw[Ko oG,jR (by rw[c4,List.length_map,Nz.lr,Nat.mul_one])]
end Go.Proofs.Tryz.K
namespace Go.Abs
def jc(r:Nat)(l:List D):D:=match l with
 |[]=>.z
 |_=>.rs r 0 l.length
theorem Eu{r:Nat}{l:List D}(h:l≠[]):jc r l=.rs r 0 l.length:=by cases l with
 |nil=>exact absurd rfl h
 |cons=>rfl
def oB(ρ:Nat->Nat)(L:Nat->List D)(n:Nat):List D:=(range n).map fun i=>jc (ρ i) (L i)
@[simp] theorem aoD (ρ : Nat -> Nat) (L : Nat -> List D) (n : Nat) : (oB ρ L n).length = n := by simp [oB]
theorem R8{ρ:Nat->Nat}{L:Nat->List D}{n i:Nat}(hi:i<n):∃ cs,(oB ρ L n).drop i=jc (ρ i) (L i)::cs:=
 ⟨_,nP (f:=fun i=>jc (ρ i) (L i)) (by simp[hi])⟩
theorem abt{α:Type}{F:Nat->α}{n i:Nat}{x:α}:((range n).map F).set i x=(range n).map (up F i x):=by
 apply List.ext_getElem?;intro k;rw[List.getElem?_set];simp only[List.length_map,List.length_range,List.getElem?_map];split
 .rename_i e;subst e;split
  .rename_i h;simp[h,aj]
  .rename_i h;simp[h]
 .rename_i e;by_cases hk:k<n
  .simp[hk,aA F x (Ne.symm e)]
  .simp[hk]
theorem aeD{ρ:Nat->Nat}{L:Nat->List D}{n i r:Nat}{l:List D}(hl:l≠[]):(oB ρ L n).set i (.rs r 0 l.length)=oB (up ρ i r) (up L i l) n:=by
 unfold oB;rw[abt];refine congrArg (fun F=>(range n).map F) (funext fun k=>?_);simp only[up];split
 .rw[Eu hl]
 .rfl
structure ko(m:Mem)(nx j n:Nat)(e et:TypeId)(ρ:Nat->Nat)(L:Nat->List D):Prop where
 row:m j=some (.cells (oB ρ L n) e)
 Ar:j<nx
 B9:∀ i,i<n->L i≠[]->m (ρ i)=some (.cells (L i) et)
 lt:∀ i,i<n->L i≠[]->ρ i<nx
 ne:∀ i,i<n->L i≠[]->ρ i≠j
 inj:∀ i k,i<n->k<n->L i≠[]->L k≠[]->ρ i=ρ k->i=k
theorem ko.ext{m m':Mem}{nx C j n:Nat}{e et:TypeId}{ρ:Nat->Nat}{L:Nat->List D}(h:ko m nx j n e et ρ L)(hm:∀ q,q<nx->m' q=m q)(hn:nx<=C):ko m' C j n e et ρ L:=
 ⟨(hm j h.Ar).trans h.row,Nat.lt_of_lt_of_le h.Ar hn,fun i hi hl=>(hm _ (h.lt i hi hl)).trans (h.B9 i hi hl),fun i hi hl=>Nat.lt_of_lt_of_le (h.lt i hi hl) hn,h.ne,h.inj⟩
theorem ko.Jf{m m':Mem}{nx al j n i r:Nat}{e et:TypeId}{ρ:Nat->Nat}{L:Nat->List D}{l:List D}(h:ko m nx j n e et ρ L)(hi:i<n)(hl:l≠[])(hr:nx<=r)(jL:r<al)
 (hj:m' j=some (.cells ((oB ρ L n).set i (.rs r 0 l.length)) e)) (ap:m' r=some (.cells l et)) (hk:∀ q,q<nx->q≠j->(L i≠[]->q≠ρ i)->m' q=m q):ko m' al j n e et (up ρ i r) (up L i l):=by
 have cZ:=h.Ar
 have old:∀ k,k<n->k≠i->L k≠[]->m' (ρ k)=some (.cells (L k) et):=fun k M J C=>
  (hk _ (h.lt k M C) (h.ne k M C) fun MX e=>J (h.inj k i M hi C MX e)).trans (h.B9 k M C)
 refine⟨by rw[hj,aeD hl],oG,fun k M C=>?_,fun k M C=>?_,fun k M C=>?_,fun a b ha hb Aq qb X=>?_⟩
 .by_cases J:k=i
  .subst J;rw[aj,aj];exact ap
  .rw[aA _ _ J] at C ⊢;rw[aA _ _ J];exact old k M J C
 .by_cases J:k=i
  .subst J;rw[aj];exact jL
  .rw[aA _ _ J] at C ⊢;have:=h.lt k M C;omega
 .by_cases J:k=i
  .subst J;rw[aj];omega
  .rw[aA _ _ J] at C ⊢;exact h.ne k M C
 .by_cases Fs:a=i
  .by_cases U:b=i
   .omega
   .subst Fs;rw[aj,aA _ _ U] at X;rw[aA _ _ U] at qb;have:=h.lt b hb qb;omega
  .by_cases U:b=i
   .subst U;rw[aj,aA _ _ Fs] at X;rw[aA _ _ Fs] at Aq;have:=h.lt a ha Aq;omega
   .rw[aA _ _ Fs] at Aq X;rw[aA _ _ U] at qb X;exact h.inj a b ha hb Aq qb X
theorem adm{m:Mem}{nx j n:Nat}{e et:TypeId}{ρ:Nat->Nat}(hj:j<nx)(hm:m j=some (.cells (replicate n .z) e)):ko m nx j n e et ρ (fun _=>[]):=by
 refine⟨?_,hj,fun _ _ h=>absurd rfl h,fun _ _ h=>absurd rfl h,fun _ _ h=>absurd rfl h,fun _ _ _ _ h=>absurd rfl h⟩;rw[hm];congr 2;unfold oB jc;rw[List.map_const',List.length_range]
theorem aeE(n:Nat):dB n [.z]=replicate n D.z:=by
 unfold dB
 induction n with
 |zero=>rfl
 |succ n ih=>rw[List.replicate_succ,List.replicate_succ,List.flatten_cons,ih];rfl
def fR(X:Nat->Prop)(d:D):Prop:=∀ i cs sz,X i->sub (cM i cs sz) d=d
def my(X:Nat->Prop)(r:Row):Prop:=∀ i cs sz,X i->Row.sub (cM i cs sz) r=r
theorem fR.s{X:Nat->Prop}(v:Value):fR X (.s v):=fun _ _ _ _=>rfl
theorem fR.sl{X:Nat->Prop}(es:List D)(n:Nat):fR X (.sl es n):=fun _ _ _ _=>rfl
theorem fR.z{X:Nat->Prop}:fR X .z:=fun _ _ _ _=>rfl
theorem fR.u{X:Nat->Prop}:fR X .u:=fun _ _ _ _=>rfl
theorem fR.rs{X:Nat->Prop}{j off n:Nat}(h:¬ X j):fR X (.rs j off n):=fun i cs sz hi=>Ko fun e=>h (e▸hi)
theorem my.cells{X:Nat->Prop}{cs:List D}{e:TypeId}(h:∀ d∈cs,fR X d):my X (.cells cs e):=fun i C sz hi=>by
 show Row.cells (cs.map _) e=_;congr 1
 induction cs with
 |nil=>rfl
 |cons d cs ih=>rw[List.map_cons,h d oS i C sz hi,ih fun d hd=>h d (by simp[hd])]
theorem my.alW{X:Nat->Prop}{cs:List D}{e:TypeId}(h:zB cs):my X (.cells cs e):=my.cells fun d hd=>by obtain⟨v,rfl⟩:=h d hd;exact .s v
theorem uK(d:D):Wk d d:=fun _ _ _ _ h=>h
theorem B7:Wk .z (.sl [] 0):=fun F β w v hv=>by
 obtain⟨x,rfl⟩:=hv.u6;exact .gy x 0
theorem Z4{X:Nat->Prop}{l:List (Nat×D)}(h:∀ x∈l,fR X x.2)(t:Nat):fR X (ax l t):=by
 induction l with
 |nil=>exact .u
 |cons x l ih=>
  obtain⟨k,d⟩:=x;simp only[ax];split
  .exact h (k,d) oS
  .exact ih fun y hy=>h y (by simp[hy])
theorem Z5{X:Nat->Prop}{l:List (Nat×Row)}(h:∀ x∈l,my X x.2){q:Nat}{r:Row}(hq:br l q=some r):my X r:=by
 induction l with
 |nil=>simp[br] at hq
 |cons x l ih=>
  obtain⟨k,d⟩:=x;simp only[br] at hq;split at hq
  .cases hq;exact h (k,r) oS
  .exact ih (fun y hy=>h y (by simp[hy])) hq
theorem abu{l:List (Nat×Row)}{q:Nat}(h:∀ x∈l,x.1≠q):br l q=none:=by
 induction l with
 |nil=>rfl
 |cons x l ih=>
  obtain⟨k,d⟩:=x;simp only[br];rw[if_neg fun e=>h (k,d) oS e.symm];exact ih fun y hy=>h y (by simp[hy])
section
variable{P:Program}
open Classical in
noncomputable def kG(ml:List (Nat×Row))(j n k:Nat)(e et:TypeId)(ρ:Nat->Nat)(L:Nat->List D):Mem:=fun q=>
 if q=j then some (.cells ((range n).map fun i=>if i<k then .sl (L i) (L i).length else jc (ρ i) (L i)) e)
 else if h:∃ i,k<=i/\i<n/\L i≠[]/\ρ i=q then some (.cells (L (Classical.choose h)) et)
 else br ml q
theorem adn{m:Mem}{nx j n k:Nat}{e et:TypeId}{ρ:Nat->Nat}{L:Nat->List D}{l:List (Nat×D)}{ml:List (Nat×Row)}{X:Nat->Prop}(h:ko m nx j n e et ρ L)(hs:∀ i,zB (L i))(het:P.cellsOf et=1)
 (U:∀ i,i<n->L i≠[]->X (ρ i)) (xT:¬ X j) (hl:∀ x∈l,fR X x.2) (iP:∀ x∈ml,my X x.2/\¬ X x.1) (hk:k<n):
 aH P ⟨ax l,kG ml j n k e et ρ L,nx⟩ ⟨ax l,kG ml j n (k+1) e et ρ L,nx⟩:=by
 by_cases C:L k=[]
 .refine .og _ _ _ _ _ (fun t=>uK _) fun q=>?_;by_cases hq:q=j
  .subst hq;right;refine⟨_,_,e,by simp only[kG,if_true];rfl,by simp only[kG,if_true];rfl,oS,fun i d d' hd fm=>?_⟩;simp only[List.getElem?_map,cU] at hd fm;obtain⟨a,ha,rfl⟩:=hd;obtain⟨b,hb,rfl⟩:=fm;rw[ha] at hb;cases hb;by_cases h1:a<k
   .rw[if_pos h1,if_pos oG];exact uK _
   .rw[if_neg h1];by_cases h2:a=k
    .subst h2;rw[if_pos oG,C];exact B7
    .rw[if_neg oG];exact uK _
  .left;simp only[kG,if_neg hq]
   have:(∃ i,k+1<=i/\i<n/\L i≠[]/\ρ i=q)↔(∃ i,k<=i/\i<n/\L i≠[]/\ρ i=q):=by
    constructor
    .rintro⟨i,h1,h2⟩;exact⟨i,oG,h2⟩
    .rintro⟨i,h1,h2,J,M⟩
     exact⟨i,by
      rcases Nat.lt_or_ge k i with g|g
      .exact g
      .have:i=k:=by omega
       subst this;exact absurd C J,h2,J,M⟩
   by_cases hc:∃ i,k<=i/\i<n/\L i≠[]/\ρ i=q
   .rw[dif_pos (this.2 hc),dif_pos hc];have e1:=Classical.choose_spec hc;have e2:=Classical.choose_spec (this.2 hc);have:Classical.choose (this.2 hc)=Classical.choose hc:=h.inj _ _ e2.2.1 e1.2.1 e2.2.2.1 e1.2.2.1 (e2.2.2.2.trans e1.2.2.2.symm);rw[this]
   .rw[dif_neg (fun h=>hc (this.1 h)),dif_neg hc]
 .have XG:ρ k≠j:=h.ne k hk C
  have ap:kG ml j n k e et ρ L (ρ k)=some (.cells (L k) et):=by
   have hc:∃ i,k<=i/\i<n/\L i≠[]/\ρ i=ρ k:=⟨k,aZ _,hk,C,rfl⟩
   simp only[kG,if_neg XG,dif_pos hc];have e1:=Classical.choose_spec hc;have:Classical.choose hc=k:=h.inj _ _ e1.2.1 hk e1.2.2.1 C e1.2.2.2;rw[this]
  have hg:=aH.freeze (P:=P) (ax l) (kG ml j n k e et ρ L) nx (ρ k) (L k) et ap;have e1:(fun t=>sub (cM (ρ k) (L k) (P.cellsOf et)) (ax l t))=ax l:=funext fun t=>Z4 hl t _ _ _ (U k hk C)
  have e2:(fun q=>if q=ρ k then none else(kG ml j n k e et ρ L q).map (Row.sub (cM (ρ k) (L k) (P.cellsOf et))))=kG ml j n (k+1) e et ρ L:=by
   funext q;by_cases FF:q=ρ k
   .subst FF;rw[if_pos rfl]
    have hc:¬ ∃ i,k+1<=i/\i<n/\L i≠[]/\ρ i=ρ k:=by
     rintro⟨i,g1,g2,g3,g4⟩;have:=h.inj _ _ g2 hk g3 C g4;omega
    simp only[kG,if_neg XG,dif_neg hc];exact(abu fun x hx e=>(iP x hx).2 (e▸U k hk C)).symm
   .rw[if_neg FF];by_cases wk:q=j
    .subst wk;simp only[kG,if_true,Option.map_some];congr 1;show Row.cells (List.map _ (List.map _ _)) e=_;rw[List.map_map];congr 1;refine List.map_congr_left fun i hi=>?_;have dx:i<n:=by simpa using hi
     simp only[Function.comp_apply];by_cases h1:i<k
     .rw[if_pos h1,if_pos oG];rfl
     .rw[if_neg h1];by_cases h2:i=k
      .subst h2;rw[if_pos oG,Eu C,het];exact jR oG
      .rw[if_neg oG];by_cases J:L i=[]
       .rw[J];rfl
       .rw[Eu J];exact Ko fun e=>h2 (h.inj _ _ dx hk J C e)
    .simp only[kG,if_neg wk]
     have this:(∃ i,k+1<=i/\i<n/\L i≠[]/\ρ i=q)↔(∃ i,k<=i/\i<n/\L i≠[]/\ρ i=q):=by
      constructor
      .rintro⟨i,h1,h2⟩;exact⟨i,oG,h2⟩
      .rintro⟨i,h1,h2,J,M⟩
       exact⟨i,by
        rcases Nat.lt_or_ge k i with g|g
        .exact g
        .have:i=k:=by omega
         subst this;exact absurd M.symm FF,h2,J,M⟩
     by_cases hc:∃ i,k<=i/\i<n/\L i≠[]/\ρ i=q
     .rw[dif_pos (this.2 hc),dif_pos hc];have e1:=Classical.choose_spec hc;have e2:=Classical.choose_spec (this.2 hc);have:Classical.choose (this.2 hc)=Classical.choose hc:=h.inj _ _ e2.2.1 e1.2.1 e2.2.2.1 e1.2.2.1 (e2.2.2.2.trans e1.2.2.2.symm);rw[this];exact congrArg some (my.alW (X:=X) (hs _) _ _ _ (U k hk C))
     .rw[dif_neg (fun h=>hc (this.1 h)),dif_neg hc];cases hm:br ml q with
      |none=>rfl
      |some r=>exact congrArg some (Z5 (fun x hx=>(iP x hx).1) hm _ _ _ (U k hk C))
  rw[e1,e2] at hg;exact hg
theorem Q5{env:Env}{m:Mem}{nx j n:Nat}{e et:TypeId}{ρ:Nat->Nat}{L:Nat->List D}{l:List (Nat×D)}{ml:List (Nat×Row)}(X:Nat->Prop)(h:ko m nx j n e et ρ L)(hs:∀ i,zB (L i))(C:P.cellsOf et=1)
 (J:∀ i,i<n->L i≠[]->X (ρ i)) (U:¬ X j) (he:lN l env) (hl:∀ x∈l,fR X x.2) (hm:D2 ml m) (M:∀ x∈ml,my X x.2/\¬ X x.1):
 aH P ⟨env,m,nx⟩ ⟨ax l,br ((j,.cells ((range n).map fun i=>.sl (L i) (L i).length) e)::ml),nx⟩:=by
 have key:∀ k,k<=n->aH P ⟨ax l,kG ml j n 0 e et ρ L,nx⟩ ⟨ax l,kG ml j n k e et ρ L,nx⟩:=fun k=>by
  induction k with
  |zero=>exact fun _=>.refl _
  |succ k ih=>exact fun hk=>(ih oG).trans (adn h hs C J U hl M oG)
 have h0:aH P ⟨env,m,nx⟩ ⟨ax l,kG ml j n 0 e et ρ L,nx⟩:=by
  refine(aH.forget env _ m nx (qj he)).trans (.drop _ _ _ _ fun q=>?_);by_cases hq:q=j
  .subst hq;left;simp only[kG,if_true,Nat.not_lt_zero,if_false];exact h.row.symm
  .simp only[kG,if_neg hq];by_cases hc:∃ i,0<=i/\i<n/\L i≠[]/\ρ i=q
   .rw[dif_pos hc];have e1:=Classical.choose_spec hc;left;have:=h.B9 _ e1.2.1 e1.2.2.1;rw[e1.2.2.2] at this;exact this.symm
   .rw[dif_neg hc];exact Lf hm q
 refine h0.trans ((key n (aZ _)).trans (.drop _ _ _ _ fun q=>.inl ?_));by_cases hq:q=j
 .subst hq;simp only[br,kG,if_true];congr 2;exact List.map_congr_left fun i hi=>by rw[if_pos (by simpa using hi)]
 .simp only[br,if_neg hq,kG];rw[dif_neg];rintro⟨i,g1,g2,_⟩;omega
end
end Go.Abs
namespace Go.Argus
open Go.Proofs.Tryz.K (nextR)
def jW(b:Nat)(L:Nat->List Int)(t:Int):Nat->List Int:=up L t.toNat (L t.toNat++[(b:Int)])
def qv(bs:List bE)(L:Nat->List Int)(b:Nat):Nat->List Int:=match bs[b]? with
 |none=>L
 |some x=>(nextR x.fin).foldl (jW b) L
def dj(bs:List bE)(k:Nat):Nat->List Int:=(range k).foldl (qv bs) fun _=>[]
def lO(bs:List bE):List (List Int):=(range bs.length).map (dj bs bs.length)
def bX(L:List (List Int)):D:=.sl (L.map aT) L.length
theorem uA(L:List (List Int)):Tr (bX L):=.sl (.map fun _=>di _)
theorem R9{F:Nat->List Int}{n:Nat}:(D.sl ((range n).map fun i=>.sl ((F i).map I) ((F i).map I).length) n)=bX ((range n).map F):=by
 unfold bX;rw[List.map_map,List.length_map,List.length_range];congr 1;exact List.map_congr_left fun i _=>by simp[aT]
theorem Qu{b:Nat}{L:Nat->List Int}{t:Int}{c:Nat}(h:∀ i,(L i).length<=c):∀ i,(jW b L t i).length<=c+1:=fun i=>by
 unfold jW;simp only[up];split
 .have:=h t.toNat;simp;omega
 .have:=h i;omega
theorem afA{L:Nat->List Int}{k:Nat}{l:List Int}:(fun i=>(up L k l i).map I)=up (fun i=>(L i).map I) k (l.map I):=by
 funext i;simp only[up];split<;>rfl
end Go.Argus
namespace Go.Proofs.Tryz.K
theorem Ch{p q:D}{f:ai}{n:Nat}(hp:Tr p)(hq:Tr q)(eO:p.one=true)(bN:q.one=true)(hn:f.blocks.length=n)(Ae:n<=100000)(hw:∀ b∈f.blocks,b.fin.aP.length<=9)(ht:∀ b∈f.blocks,∀ t∈nextR b.fin,0<=t/\t<n):
 aB prog 130 [.agg (a7 p q f)] (bX (lO f.blocks)):=by
 have bg:∀ a∈[D.agg (a7 p q f)],Tr a:=.cons (kP hp hq f) .nil;refine bj ahM bg (uA _) ?_;rw[ahN];refine aw ?_;refine ab ?_;refine aa (bH (dA [(0,a7 p q f,113)] eH (l:=[(1,.pt (a7 p q f))]) eH) (aw ?_));refine aY ?_;refine eM (Dv rfl rfl V.h V.h) ak ⟨oG,rfl,oG,by rw[Fq];omega,V.h⟩ ?_;refine SS ?_;have iL:((f.blocks.length:Nat):Int).toNat=n:=hn;refine aa (bH (cn (l:=[(1,.pt (a7 p q f)),(3,.rs 1 0 n)]) (ml:=[(1,.cells (replicate n .z) 43)]) ⟨rfl,congrArg (fun k=>D.rs 1 0 k) iL,trivial⟩ ⟨?_,trivial⟩) (az (aw ?_)))
 .exact congrArg (fun c=>some (Row.cells c 43)) ((congrArg (fun k=>dB k [D.z]) iL).trans (aeE n))
 refine bw ?_
 refine aa (bZ (fun s=>∃ m nx ρ,aH prog s ⟨ax [(3,.rs 1 0 n)],m,nx⟩/\ko m nx 1 n 43 3 ρ (fun i=>(dj f.blocks n i).map I)) (cH (α:=Nat×Mem×Nat)
  (fun k=>⟨ax [(1,.pt (a7 p q f)),(3,.rs 1 0 n),(15,cG f.blocks),(16,I n),(17,I k.1)],k.2.1,k.2.2⟩)
  (fun k=>k.1<=n/\(∃ ρ,ko k.2.1 k.2.2 1 n 43 3 ρ (fun i=>(dj f.blocks k.1 i).map I))/\∀ i,(dj f.blocks k.1 i).length<=12*k.1) (fun k=>n - k.1) (0,br [(1,.cells (replicate n .z) 43)],2)
  (au ⟨rfl,rfl,rfl,congrArg (fun k:Nat=>I k) hn,rfl,trivial⟩) ⟨Nat.zero_le _,⟨fun _=>0,adm (show 1<2 by decide) rfl⟩,fun _=>aZ _⟩ ?_) ?_)
 .rintro⟨k,m,nx⟩ ⟨hk,⟨ρ,C⟩,hlen⟩;dsimp only at hk C hlen ⊢;have ap:=C.row;have cZ:=C.Ar;refine SS ?_;refine aa ⟨_,rfl,fun h=>?_,fun h=>?_⟩
  .have af:k<n:=by simpa using h
   have hx:f.blocks[k]? =some f.blocks[k]:=aL oG;have X:f.blocks[k]∈f.blocks:=gA _;generalize f.blocks[k]=x at hx X
   have fG:dj f.blocks (k+1)=(nextR x.fin).foldl (jW k) (dj f.blocks k):=by
    rw[dj,List.range_succ,List.foldl_append];show qv f.blocks _ k=_;rw[qv,hx];rfl
   generalize dj f.blocks k=L0 at C hlen ap fG;refine ws ?_;refine cz ?_;have vE:=vE (x:=x.fin);have vH:=Ud (x:=x.fin) (hw x X)
   change aB _ _ _ (aT (nextR x.fin)) at vH
   have gj:=ht x X;have l6:=Kp x.fin;have hwh:=hw x X;generalize nextR x.fin=l at vH gj l6 fG;refine aa (aw ?_);refine SS ?_;refine av (fz (vs:=bC _) rfl (aj _ _ _) V.h V.h rfl) ak (fA V.h V.h (by first|(simp;done)|omega|exact bJ rfl)) ?_;refine cl vE ?_;refine cl vH ?_;refine ab ?_
   refine aa (cH (α:=Nat×Mem×Nat)
    (fun j=>⟨ax [(1,.pt (a7 p q f)),(3,.rs 1 0 n),(4,I k),(15,cG f.blocks),(16,I n),(17,I k),(25,aT l),(26,I l.length),(27,I j.1)],j.2.1,j.2.2⟩)
    (fun j=>j.1<=l.length/\(∃ ρ,ko j.2.1 j.2.2 1 n 43 3 ρ (fun i=>((l.take j.1).foldl (jW k) L0 i).map I))/\∀ i,((l.take j.1).foldl (jW k) L0 i).length<=12*k+j.1) (fun j=>l.length - j.1) (0,up m nx (some (.cells (bU x) 59)),nx+1)
    (ux eH (vq _ _ _ _)) ⟨Nat.zero_le _,⟨ρ,C.ext (fun q hq=>ah oG rfl) oM⟩,hlen⟩ ?_)
   clear C ap hlen;rintro⟨j,m,nx⟩ ⟨hj,⟨ρ,C⟩,hlen⟩;dsimp only at hj C hlen ⊢;have ap:=C.row;have cZ:=C.Ar;have U:∀ t,l[j]? =some t->(l.take (j+1)).foldl (jW k) L0=jW k ((l.take j).foldl (jW k) L0) t:=fun t ht=>Dd ht;have EA:j=l.length->(l.take j).foldl (jW k) L0=dj f.blocks (k+1):=fun e=>by rw[fG,dq oG]
   generalize (l.take j).foldl (jW k) L0=L at C hlen ap U EA;refine SS ?_;refine aa ⟨_,rfl,fun h=>?_,fun h=>?_⟩
   .have Wu:j<l.length:=by simpa using h
    have XH:l[j]? =some l[j]:=aL Wu;have FD:=gj _ (gA Wu);generalize l[j]=t at XH FD;obtain⟨i,rfl⟩:=lv FD.1;have J:i<n:=by omega
    have hL:=hlen i;have U:(l.take (j+1)).foldl (jW k) L0=up L i (L i++[(k:Int)]):=U _ XH
    have Er:∀ i,((l.take (j+1)).foldl (jW k) L0 i).length<=12*k+(j+1):=fun a=>by
     rw[U];exact Qu (t:=(i:Int)) hlen a
    have XI:(fun a=>((l.take (j+1)).foldl (jW k) L0 a).map I)=up (fun a=>(L a).map I) i ((L i++[(k:Int)]).map I):=by rw[U];exact afA
    obtain⟨cs,kd⟩:=R8 (ρ:=ρ) (L:=fun i=>(L i).map I) J;refine ws ?_;refine ay ?_;refine aa (fO ?_);by_cases hz:L i=[]
    .have At:jc (ρ i) ((L i).map I)=.z:=by rw[hz];rfl
     rw[At] at kd;refine bh ?_;refine av (na rfl rfl (ah oG (ah oG ap)) V.h V.h) ak ⟨V.h,oG⟩ ?_;refine bQ (eR (d:=.rs _ _ _) (cs':=_) rfl rfl (ah oG (ah oG ap)) rfl rfl) ak (cw V.h V.h (by first|(simp;done)|exact⟨rfl,bJ rfl⟩|(simp;omega)) rfl) ?_;refine aa ?_;refine ab ?_;refine aa (bf (j+1,up (up (up m nx (some (.cells [I k] 3))) (nx+1) (some (.cells [I k] 3))) 1 (some (.cells ((oB ρ (fun i=>(L i).map I) n).set i (.rs (nx+1) 0 1)) 43)),nx+2) (au eH) ⟨oM,⟨up ρ i (nx+1),?_⟩,Er⟩ oM);dsimp only;rw[XI];refine C.Jf J oS oG oG ?_ ?_ (fun q hq wk _=>?_)
     .rw[hz];exact aj _ _ _
     .rw[hz];exact ah oG (aj _ _ _)
     .exact ah oG (ah oG (ah oG rfl))
    .have M:(L i).map I≠[]:=by simpa using hz
     have At:jc (ρ i) ((L i).map I)=.rs (ρ i) 0 (L i).length:=by rw[Eu M,List.length_map]
     rw[At] at kd;have iz:=C.B9 i J M;have hρn:=C.lt i J M;have hρ1:=C.ne i J M;refine bh ?_;refine av (na rfl rfl (ah oG (ah oG (ah oG ap))) V.h V.h) ak ⟨V.h,oG⟩ ?_;refine bQ (eR (d:=.rs _ _ _) (cs':=_) rfl rfl (ah oG (ah oG (ah oG ap))) rfl rfl) ak (cw V.h V.h (by first|(simp;done)|exact⟨rfl,bJ rfl⟩|(simp;omega)) rfl) ?_;refine aa ?_;refine ab ?_;refine aa (bf (j+1,up (up (up (up m nx (some (.cells [I k] 3))) (ρ i) none) (nx+1) (some (.cells ((L i).map I++[I k]) 3))) 1 (some (.cells ((oB ρ (fun i=>(L i).map I) n).set i (.rs (nx+1) 0 ((L i).length+1))) 43)),nx+2) (au eH) ⟨oM,⟨up ρ i (nx+1),?_⟩,Er⟩ oM);dsimp only;rw[XI];refine C.Jf J oS oG oG ?_ ?_ (fun q hq wk z8=>?_)
     .rw[List.length_map,List.length_append];exact aj _ _ _
     .rw[List.map_append];exact ah oG (aj _ _ _)
     .have:=z8 M;exact ah oG (ah oG (ah oG (ah oG rfl)))
   .have bm:¬ j<l.length:=by simpa using h
    have vl:=EA oG;subst vl;show aq _ _ _ _ _ _ _ _ _;refine ab ?_;refine aa (bf (k+1,m,nx) (au eH) ⟨oM,⟨ρ,C⟩,fun i=>by have:=hlen i;dsimp only at this ⊢;omega⟩ oM)
  .have bm:¬ k<n:=by simpa using h
   have:k=n:=by omega
   subst this;exact⟨m,nx,ρ,au eH,C⟩
 .rintro s ⟨m,nx,ρ,hg,C⟩;have xT:¬ ∃ i,i<n/\(dj f.blocks n i).map I≠[]/\ρ i=1:=fun⟨i,h1,h2,h3⟩=>C.ne i h1 h2 h3;refine⟨_,hg.trans (Q5 (l:=[(3,.rs 1 0 n)]) (ml:=[]) (fun r=>∃ i,i<n/\(dj f.blocks n i).map I≠[]/\ρ i=r) C (fun _=>.map) c3 (fun i h1 h2=>⟨i,h1,h2,rfl⟩) xT ⟨rfl,trivial⟩ (fun x hx=>?_) trivial (fun x hx=>by cases hx)),aw ?_⟩
  .simp at hx;subst hx;exact .rs xT
  refine ab ?_;refine aa (bH (dA [(1,_,43)] eH (l:=[(2,bX (lO f.blocks))]) ⟨?_,trivial⟩) (aD rfl rfl));show sub (cM 1 _ (prog.cellsOf 43)) (D.rs 1 0 n)=_;rw[jR (by rw[ui];simp),R9,lO,hn]
end Go.Proofs.Tryz.K
end
