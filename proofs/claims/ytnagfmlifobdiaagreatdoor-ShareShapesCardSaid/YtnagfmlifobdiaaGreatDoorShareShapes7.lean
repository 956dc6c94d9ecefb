/- Part 7. -/
import Derived.Test.YtnagfmlifobdiaaGreatDoorShareShapes4
import Derived.KernelRfl
import Derived.Test.YtnagfmlifobdiaaGreatDoorProg
set_option linter.all false
namespace Go.Proofs.Tryz.K
open Go.Abs
theorem a1:bI prog 1=false:=kr
theorem b1:prog.bytesOf 1=8:=kr
theorem b2:prog.bytesOf 2=8:=kr
theorem a2:bI prog 2=false:=kr
theorem t2:aO prog 2=true:=kr
theorem z2:bq prog 2=[.s (.int .i64 0)]:=kr
theorem c3:prog.cellsOf 3=1:=kr
theorem b3:prog.bytesOf 3=8:=kr
theorem a3:bI prog 3=false:=kr
theorem t3:aO prog 3=true:=kr
theorem z3:bq prog 3=[.s (.int .i64 0)]:=kr
theorem c4:prog.cellsOf 4=1:=kr
theorem b4:prog.bytesOf 4=1:=kr
theorem a4:bI prog 4=false:=kr
theorem t4:aO prog 4=true:=kr
theorem z4:bq prog 4=[.s (.bool false)]:=kr
theorem c5:prog.cellsOf 5=1:=kr
theorem b5:prog.bytesOf 5=1:=kr
theorem a5:bI prog 5=false:=kr
theorem t5:aO prog 5=true:=kr
theorem z5:bq prog 5=[.s (.int .u8 0)]:=kr
theorem b6:prog.bytesOf 6=1:=kr
theorem b7:prog.bytesOf 7=24:=kr
theorem b8:prog.bytesOf 8=24:=kr
theorem c9:prog.cellsOf 9=1:=kr
theorem b9:prog.bytesOf 9=16:=kr
theorem a9:bI prog 9=false:=kr
theorem t9:aO prog 9=true:=kr
theorem z9:bq prog 9=[.s (.string "".toUTF8)]:=kr
theorem mU:prog.bytesOf 10=16:=kr
theorem Gw:aE prog 15=321:=kr
theorem Gx:aE prog 16=324:=kr
theorem Gv:aE prog 17=331:=kr
theorem a31:bI prog 31=false:=kr
theorem t31:aO prog 31=true:=kr
theorem z31:bq prog 31=[.s .nilFunc]:=kr
theorem sy:aE prog 34=9:=kr
theorem Cy:bh prog 34=true:=kr
theorem a37:bI prog 37=false:=kr
theorem t37:aO prog 37=true:=kr
theorem z37:bq prog 37=[.s .nilFunc]:=kr
theorem ly:prog.cellsOf 43=1:=kr
theorem QD:prog.bytesOf 43=24:=kr
theorem rC:bI prog 43=false:=kr
theorem t43:aO prog 43=true:=kr
theorem dm:aE prog 43=3:=kr
theorem df:bh prog 43=true:=kr
theorem Kh:aE prog 45=5:=kr
theorem Cx:bh prog 45=true:=kr
theorem a46:bI prog 46=false:=kr
theorem t46:aO prog 46=true:=kr
theorem z46:bq prog 46=[.z]:=kr
theorem Zk:aE prog 46=59:=kr
theorem Yh:bh prog 46=true:=kr
theorem Dn:prog.cellsOf 48=8:=kr
theorem Kn:bI prog 48=true:=kr
theorem t48:aO prog 48=true:=kr
theorem a51:bI prog 51=false:=kr
theorem t51:aO prog 51=true:=kr
theorem z51:bq prog 51=[.s .nilFunc]:=kr
theorem Zj:aE prog 52=54:=kr
theorem Yg:bh prog 52=true:=kr
theorem a53:bI prog 53=true:=kr
theorem t53:aO prog 53=true:=kr
theorem z53:bq prog 53=[.s (.int .u8 0),.s (.int .i64 0),.s (.int .i64 0),.s (.int .i64 0),.s (.int .i64 0),.z]:=kr
theorem Qr:prog.cellsOf 54=6:=kr
theorem Qq:prog.bytesOf 54=64:=kr
theorem Oe:cL prog 54 2=some (2,3):=kr
theorem Of:cL prog 54 3=some (3,3):=kr
theorem EP:cL prog 54 5=some (5,43):=kr
theorem Qn:aE prog 55=79:=kr
theorem Fh:bh prog 55=true:=kr
theorem Qv:prog.cellsOf 57=15:=kr
theorem Zm:bI prog 57=true:=kr
theorem t57:aO prog 57=true:=kr
theorem Og:cL prog 57 7=some (12,43):=kr
theorem Km:prog.cellsOf 59=16:=kr
theorem Kl:prog.bytesOf 59=200:=kr
theorem z59:bq prog 59=[.z,.s (.int .u8 0),.s (.int .i64 0),.s (.int .i64 0),.s (.int .i64 0),.s (.int .i64 0),.s (.string "".toUTF8),.s (.int .u8 0),.s (.int .i64 0),.s (.int .i64 0),.s (.int .i64 0),.s (.int .i64 0),.z,.z,.z,.s (.int .i64 0)]:=kr
theorem a70:bI prog 70=true:=kr
theorem t70:aO prog 70=true:=kr
theorem z70:bq prog 70=[.s (.int .u8 0),.s (.int .i64 0)]:=kr
theorem a72:bI prog 72=true:=kr
theorem t72:aO prog 72=true:=kr
theorem z72:bq prog 72=[.s (.int .u8 0),.s (.string "".toUTF8),.s (.int .u8 0),.s (.int .i64 0),.z,.s (.int .i64 0)]:=kr
theorem a75:bI prog 75=false:=kr
theorem t75:aO prog 75=true:=kr
theorem z75:bq prog 75=[.s .nilFunc]:=kr
theorem a76:bI prog 76=false:=kr
theorem t76:aO prog 76=true:=kr
theorem z76:bq prog 76=[.s .nilFunc]:=kr
theorem Ki:prog.cellsOf 79=2:=kr
theorem Zi:prog.bytesOf 79=24:=kr
theorem A1:prog.cellsOf 92=1:=kr
theorem Gu:bI prog 92=false:=kr
theorem t92:aO prog 92=true:=kr
theorem A0:aE prog 92=4:=kr
theorem At:bh prog 92=true:=kr
theorem Ys:prog.cellsOf 113=10:=kr
theorem Yr:bI prog 113=true:=kr
theorem t113:aO prog 113=true:=kr
theorem a127:bI prog 127=false:=kr
theorem t127:aO prog 127=true:=kr
theorem z127:bq prog 127=[.s .nilFunc]:=kr
theorem mO:prog.cellsOf 163=2:=kr
theorem Yu:prog.bytesOf 163=32:=kr
theorem tu:bI prog 163=true:=kr
theorem t163:aO prog 163=true:=kr
theorem Pu:bq prog 163=[.s (.bool false),.z]:=kr
theorem Nk:cL prog 163 0=some (0,4):=kr
theorem Nl:cL prog 163 1=some (1,92):=kr
theorem a164:bI prog 164=false:=kr
theorem t164:aO prog 164=true:=kr
theorem z164:bq prog 164=[.s .nilFunc]:=kr
theorem a171:bI prog 171=false:=kr
theorem t171:aO prog 171=true:=kr
theorem z171:bq prog 171=[.s .nilFunc]:=kr
theorem a173:bI prog 173=true:=kr
theorem t173:aO prog 173=true:=kr
theorem z173:bq prog 173=[.s (.int .i64 0),.s (.int .i64 0),.z]:=kr
theorem tf:prog.cellsOf 201=20:=kr
theorem Yn:prog.bytesOf 201=160:=kr
theorem a201:bI prog 201=true:=kr
theorem t201:aO prog 201=true:=kr
theorem z201:bq prog 201=[.s (.int .u64 0),.s (.int .u64 0),.s (.int .u64 0),.s (.int .u64 0),.s (.int .u64 0),.s (.int .u64 0),.s (.int .u64 0),.s (.int .u64 0),.s (.int .u64 0),.s (.int .u64 0),.s (.int .u64 0),.s (.int .u64 0),.s (.int .u64 0),.s (.int .u64 0),.s (.int .u64 0),.s (.int .u64 0),.s (.int .u64 0),.s (.int .u64 0),.s (.int .u64 0),.s (.int .u64 0)]:=kr
theorem a212:bI prog 212=true:=kr
theorem t212:aO prog 212=true:=kr
theorem z212:bq prog 212=[.s (.pointer none),.z]:=kr
theorem a213:bI prog 213=true:=kr
theorem t213:aO prog 213=true:=kr
theorem z213:bq prog 213=[.s (.pointer none),.z]:=kr
theorem a232:bI prog 232=false:=kr
theorem t232:aO prog 232=true:=kr
theorem z232:bq prog 232=[.s .nilFunc]:=kr
theorem a233:bI prog 233=false:=kr
theorem t233:aO prog 233=true:=kr
theorem z233:bq prog 233=[.s .nilFunc]:=kr
theorem Pr:bI prog 237=true:=kr
theorem Ps:bq prog 237=[.s (.int .i64 0),.s (.int .i64 0),.s (.int .i64 0),.s (.int .i64 0),.s (.int .i64 0),.s (.int .i64 0)]:=kr
theorem mixed:prog.follows .mixedOrders=true:=kr
end Go.Proofs.Tryz.K
