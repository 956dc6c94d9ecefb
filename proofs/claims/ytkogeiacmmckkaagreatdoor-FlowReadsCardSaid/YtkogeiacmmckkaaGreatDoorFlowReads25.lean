/- Part 25 of the proof; the last part says what is proved. -/
import Derived.Test.YtkogeiacmmckkaaGreatDoorFlowReads7
import Derived.KernelRfl
import Derived.Test.YtkogeiacmmckkaaGreatDoorProg
set_option linter.all false
namespace Go.Proofs.Tryz.K
open Go.Abs
theorem c1: Tryz.prog.cellsOf 1=1:=by kernel_rfl
theorem a1:aggP Tryz.prog 1=false:=by kernel_rfl
theorem t1:tyOk Tryz.prog 1=true:=by kernel_rfl
theorem z1:zeroP Tryz.prog 1=[.s .nilFunc]:=by kernel_rfl
theorem b1: Tryz.prog.bytesOf 1=8:=by kernel_rfl
theorem c2: Tryz.prog.cellsOf 2=1:=by kernel_rfl
theorem b2: Tryz.prog.bytesOf 2=8:=by kernel_rfl
theorem a2:aggP Tryz.prog 2=false:=by kernel_rfl
theorem t2:tyOk Tryz.prog 2=true:=by kernel_rfl
theorem z2:zeroP Tryz.prog 2=[.s (.int .i64 0)]:=by kernel_rfl
theorem c3: Tryz.prog.cellsOf 3=1:=by kernel_rfl
theorem b3: Tryz.prog.bytesOf 3=8:=by kernel_rfl
theorem a3:aggP Tryz.prog 3=false:=by kernel_rfl
theorem t3:tyOk Tryz.prog 3=true:=by kernel_rfl
theorem z3:zeroP Tryz.prog 3=[.s (.int .i64 0)]:=by kernel_rfl
theorem c4: Tryz.prog.cellsOf 4=1:=by kernel_rfl
theorem b4: Tryz.prog.bytesOf 4=1:=by kernel_rfl
theorem a4:aggP Tryz.prog 4=false:=by kernel_rfl
theorem t4:tyOk Tryz.prog 4=true:=by kernel_rfl
theorem z4:zeroP Tryz.prog 4=[.s (.bool false)]:=by kernel_rfl
theorem bo4:boT Tryz.prog 4=true:=by kernel_rfl
theorem c5: Tryz.prog.cellsOf 5=1:=by kernel_rfl
theorem b5: Tryz.prog.bytesOf 5=1:=by kernel_rfl
theorem a5:aggP Tryz.prog 5=false:=by kernel_rfl
theorem t5:tyOk Tryz.prog 5=true:=by kernel_rfl
theorem z5:zeroP Tryz.prog 5=[.s (.int .u8 0)]:=by kernel_rfl
theorem c6: Tryz.prog.cellsOf 6=1:=by kernel_rfl
theorem b6: Tryz.prog.bytesOf 6=1:=by kernel_rfl
theorem a6:aggP Tryz.prog 6=false:=by kernel_rfl
theorem t6:tyOk Tryz.prog 6=true:=by kernel_rfl
theorem z6:zeroP Tryz.prog 6=[.s (.int .u8 0)]:=by kernel_rfl
theorem c7: Tryz.prog.cellsOf 7=4:=by kernel_rfl
theorem b7: Tryz.prog.bytesOf 7=24:=by kernel_rfl
theorem a7:aggP Tryz.prog 7=true:=by kernel_rfl
theorem t7:tyOk Tryz.prog 7=true:=by kernel_rfl
theorem z7:zeroP Tryz.prog 7=[.s (.int .i64 0),.s (.int .i64 0),.s (.bool false),.s (.int .u8 0)]:=by kernel_rfl
theorem f7_0:fieldP Tryz.prog 7 0=some (0,2):=by kernel_rfl
theorem f7_1:fieldP Tryz.prog 7 1=some (1,3):=by kernel_rfl
theorem f7_2:fieldP Tryz.prog 7 2=some (2,4):=by kernel_rfl
theorem f7_3:fieldP Tryz.prog 7 3=some (3,6):=by kernel_rfl
theorem c8: Tryz.prog.cellsOf 8=4:=by kernel_rfl
theorem b8: Tryz.prog.bytesOf 8=24:=by kernel_rfl
theorem a8:aggP Tryz.prog 8=true:=by kernel_rfl
theorem t8:tyOk Tryz.prog 8=true:=by kernel_rfl
theorem z8:zeroP Tryz.prog 8=[.s (.int .i64 0),.s (.int .i64 0),.s (.bool false),.s (.int .u8 0)]:=by kernel_rfl
theorem f8_0:fieldP Tryz.prog 8 0=some (0,2):=by kernel_rfl
theorem f8_1:fieldP Tryz.prog 8 1=some (1,3):=by kernel_rfl
theorem f8_2:fieldP Tryz.prog 8 2=some (2,4):=by kernel_rfl
theorem f8_3:fieldP Tryz.prog 8 3=some (3,6):=by kernel_rfl
theorem c9: Tryz.prog.cellsOf 9=1:=by kernel_rfl
theorem b9: Tryz.prog.bytesOf 9=16:=by kernel_rfl
theorem a9:aggP Tryz.prog 9=false:=by kernel_rfl
theorem t9:tyOk Tryz.prog 9=true:=by kernel_rfl
theorem z9:zeroP Tryz.prog 9=[.s (.string "".toUTF8)]:=by kernel_rfl
theorem st9:stT Tryz.prog 9=true:=by kernel_rfl
theorem c10: Tryz.prog.cellsOf 10=1:=by kernel_rfl
theorem b10: Tryz.prog.bytesOf 10=16:=by kernel_rfl
theorem a10:aggP Tryz.prog 10=false:=by kernel_rfl
theorem t10:tyOk Tryz.prog 10=true:=by kernel_rfl
theorem z10:zeroP Tryz.prog 10=[.s (.string "".toUTF8)]:=by kernel_rfl
theorem st10:stT Tryz.prog 10=true:=by kernel_rfl
theorem c11: Tryz.prog.cellsOf 11=1:=by kernel_rfl
theorem b11: Tryz.prog.bytesOf 11=16:=by kernel_rfl
theorem a11:aggP Tryz.prog 11=false:=by kernel_rfl
theorem t11:tyOk Tryz.prog 11=true:=by kernel_rfl
theorem z11:zeroP Tryz.prog 11=[.s (.string "".toUTF8)]:=by kernel_rfl
theorem st11:stT Tryz.prog 11=true:=by kernel_rfl
theorem c12: Tryz.prog.cellsOf 12=1:=by kernel_rfl
theorem b12: Tryz.prog.bytesOf 12=8:=by kernel_rfl
theorem a12:aggP Tryz.prog 12=false:=by kernel_rfl
theorem t12:tyOk Tryz.prog 12=true:=by kernel_rfl
theorem z12:zeroP Tryz.prog 12=[.s (.int .u64 0)]:=by kernel_rfl
theorem c13: Tryz.prog.cellsOf 13=2:=by kernel_rfl
theorem b13: Tryz.prog.bytesOf 13=24:=by kernel_rfl
theorem a13:aggP Tryz.prog 13=true:=by kernel_rfl
theorem t13:tyOk Tryz.prog 13=true:=by kernel_rfl
theorem z13:zeroP Tryz.prog 13=[.s (.string "".toUTF8),.s (.int .u64 0)]:=by kernel_rfl
theorem f13_0:fieldP Tryz.prog 13 0=some (0,9):=by kernel_rfl
theorem f13_1:fieldP Tryz.prog 13 1=some (1,12):=by kernel_rfl
theorem c14: Tryz.prog.cellsOf 14=2:=by kernel_rfl
theorem b14: Tryz.prog.bytesOf 14=24:=by kernel_rfl
theorem a14:aggP Tryz.prog 14=true:=by kernel_rfl
theorem t14:tyOk Tryz.prog 14=true:=by kernel_rfl
theorem z14:zeroP Tryz.prog 14=[.s (.string "".toUTF8),.s (.int .u64 0)]:=by kernel_rfl
theorem f14_0:fieldP Tryz.prog 14 0=some (0,9):=by kernel_rfl
theorem f14_1:fieldP Tryz.prog 14 1=some (1,12):=by kernel_rfl
theorem c15: Tryz.prog.cellsOf 15=1:=by kernel_rfl
theorem b15: Tryz.prog.bytesOf 15=8:=by kernel_rfl
theorem a15:aggP Tryz.prog 15=false:=by kernel_rfl
theorem t15:tyOk Tryz.prog 15=true:=by kernel_rfl
theorem z15:zeroP Tryz.prog 15=[.s (.pointer none)]:=by kernel_rfl
theorem e15:elemP Tryz.prog 15=381:=by kernel_rfl
theorem pt15:ptT Tryz.prog 15=true:=by kernel_rfl
theorem c16: Tryz.prog.cellsOf 16=1:=by kernel_rfl
theorem b16: Tryz.prog.bytesOf 16=8:=by kernel_rfl
theorem a16:aggP Tryz.prog 16=false:=by kernel_rfl
theorem t16:tyOk Tryz.prog 16=true:=by kernel_rfl
theorem z16:zeroP Tryz.prog 16=[.s (.pointer none)]:=by kernel_rfl
theorem e16:elemP Tryz.prog 16=384:=by kernel_rfl
theorem pt16:ptT Tryz.prog 16=true:=by kernel_rfl
theorem c17: Tryz.prog.cellsOf 17=1:=by kernel_rfl
theorem b17: Tryz.prog.bytesOf 17=8:=by kernel_rfl
theorem a17:aggP Tryz.prog 17=false:=by kernel_rfl
theorem t17:tyOk Tryz.prog 17=true:=by kernel_rfl
theorem z17:zeroP Tryz.prog 17=[.s (.pointer none)]:=by kernel_rfl
theorem e17:elemP Tryz.prog 17=392:=by kernel_rfl
theorem pt17:ptT Tryz.prog 17=true:=by kernel_rfl
theorem c18: Tryz.prog.cellsOf 18=1:=by kernel_rfl
theorem b18: Tryz.prog.bytesOf 18=8:=by kernel_rfl
theorem a18:aggP Tryz.prog 18=true:=by kernel_rfl
theorem t18:tyOk Tryz.prog 18=true:=by kernel_rfl
theorem z18:zeroP Tryz.prog 18=[.s (.pointer none)]:=by kernel_rfl
theorem f18_0:fieldP Tryz.prog 18 0=some (0,17):=by kernel_rfl
theorem c19: Tryz.prog.cellsOf 19=1:=by kernel_rfl
theorem b19: Tryz.prog.bytesOf 19=8:=by kernel_rfl
theorem a19:aggP Tryz.prog 19=true:=by kernel_rfl
theorem t19:tyOk Tryz.prog 19=true:=by kernel_rfl
theorem z19:zeroP Tryz.prog 19=[.s (.pointer none)]:=by kernel_rfl
theorem f19_0:fieldP Tryz.prog 19 0=some (0,17):=by kernel_rfl
theorem c21: Tryz.prog.cellsOf 21=1:=by kernel_rfl
theorem b21: Tryz.prog.bytesOf 21=4:=by kernel_rfl
theorem a21:aggP Tryz.prog 21=false:=by kernel_rfl
theorem t21:tyOk Tryz.prog 21=true:=by kernel_rfl
theorem z21:zeroP Tryz.prog 21=[.s (.int .i32 0)]:=by kernel_rfl
theorem c22: Tryz.prog.cellsOf 22=1:=by kernel_rfl
theorem b22: Tryz.prog.bytesOf 22=24:=by kernel_rfl
theorem a22:aggP Tryz.prog 22=false:=by kernel_rfl
theorem t22:tyOk Tryz.prog 22=true:=by kernel_rfl
theorem z22:zeroP Tryz.prog 22=[.z]:=by kernel_rfl
theorem e22:elemP Tryz.prog 22=5:=by kernel_rfl
theorem sl22:slT Tryz.prog 22=true:=by kernel_rfl
theorem c23: Tryz.prog.cellsOf 23=1:=by kernel_rfl
theorem b23: Tryz.prog.bytesOf 23=24:=by kernel_rfl
theorem a23:aggP Tryz.prog 23=false:=by kernel_rfl
theorem t23:tyOk Tryz.prog 23=true:=by kernel_rfl
theorem z23:zeroP Tryz.prog 23=[.z]:=by kernel_rfl
theorem e23:elemP Tryz.prog 23=9:=by kernel_rfl
theorem sl23:slT Tryz.prog 23=true:=by kernel_rfl
theorem c24: Tryz.prog.cellsOf 24=1:=by kernel_rfl
theorem b24: Tryz.prog.bytesOf 24=24:=by kernel_rfl
theorem a24:aggP Tryz.prog 24=false:=by kernel_rfl
theorem t24:tyOk Tryz.prog 24=true:=by kernel_rfl
theorem z24:zeroP Tryz.prog 24=[.z]:=by kernel_rfl
theorem e24:elemP Tryz.prog 24=69:=by kernel_rfl
theorem sl24:slT Tryz.prog 24=true:=by kernel_rfl
theorem c25: Tryz.prog.cellsOf 25=8:=by kernel_rfl
theorem b25: Tryz.prog.bytesOf 25=136:=by kernel_rfl
theorem a25:aggP Tryz.prog 25=true:=by kernel_rfl
theorem t25:tyOk Tryz.prog 25=true:=by kernel_rfl
theorem z25:zeroP Tryz.prog 25=[.s (.string "".toUTF8),.s (.bool false),.s (.int .i64 0),.s (.int .u8 0),.z,.z,.z,.z]:=by kernel_rfl
theorem f25_0:fieldP Tryz.prog 25 0=some (0,9):=by kernel_rfl
theorem f25_1:fieldP Tryz.prog 25 1=some (1,4):=by kernel_rfl
theorem f25_2:fieldP Tryz.prog 25 2=some (2,3):=by kernel_rfl
theorem f25_3:fieldP Tryz.prog 25 3=some (3,5):=by kernel_rfl
theorem f25_4:fieldP Tryz.prog 25 4=some (4,22):=by kernel_rfl
theorem f25_5:fieldP Tryz.prog 25 5=some (5,22):=by kernel_rfl
theorem f25_6:fieldP Tryz.prog 25 6=some (6,23):=by kernel_rfl
theorem f25_7:fieldP Tryz.prog 25 7=some (7,24):=by kernel_rfl
theorem c26: Tryz.prog.cellsOf 26=8:=by kernel_rfl
theorem b26: Tryz.prog.bytesOf 26=136:=by kernel_rfl
theorem a26:aggP Tryz.prog 26=true:=by kernel_rfl
theorem t26:tyOk Tryz.prog 26=true:=by kernel_rfl
theorem z26:zeroP Tryz.prog 26=[.s (.string "".toUTF8),.s (.bool false),.s (.int .i64 0),.s (.int .u8 0),.z,.z,.z,.z]:=by kernel_rfl
theorem f26_0:fieldP Tryz.prog 26 0=some (0,9):=by kernel_rfl
theorem f26_1:fieldP Tryz.prog 26 1=some (1,4):=by kernel_rfl
theorem f26_2:fieldP Tryz.prog 26 2=some (2,3):=by kernel_rfl
theorem f26_3:fieldP Tryz.prog 26 3=some (3,5):=by kernel_rfl
theorem f26_4:fieldP Tryz.prog 26 4=some (4,22):=by kernel_rfl
theorem f26_5:fieldP Tryz.prog 26 5=some (5,22):=by kernel_rfl
theorem f26_6:fieldP Tryz.prog 26 6=some (6,23):=by kernel_rfl
theorem f26_7:fieldP Tryz.prog 26 7=some (7,24):=by kernel_rfl
theorem c27: Tryz.prog.cellsOf 27=1:=by kernel_rfl
theorem a27:aggP Tryz.prog 27=false:=by kernel_rfl
theorem t27:tyOk Tryz.prog 27=true:=by kernel_rfl
theorem z27:zeroP Tryz.prog 27=[.s .nilFunc]:=by kernel_rfl
theorem b27: Tryz.prog.bytesOf 27=8:=by kernel_rfl
theorem c28: Tryz.prog.cellsOf 28=1:=by kernel_rfl
theorem a28:aggP Tryz.prog 28=false:=by kernel_rfl
theorem t28:tyOk Tryz.prog 28=true:=by kernel_rfl
theorem z28:zeroP Tryz.prog 28=[.s .nilFunc]:=by kernel_rfl
theorem b28: Tryz.prog.bytesOf 28=8:=by kernel_rfl
theorem c29: Tryz.prog.cellsOf 29=1:=by kernel_rfl
theorem b29: Tryz.prog.bytesOf 29=8:=by kernel_rfl
theorem a29:aggP Tryz.prog 29=false:=by kernel_rfl
theorem t29:tyOk Tryz.prog 29=true:=by kernel_rfl
theorem z29:zeroP Tryz.prog 29=[.s (.int .i64 0)]:=by kernel_rfl
theorem c30: Tryz.prog.cellsOf 30=1:=by kernel_rfl
theorem a30:aggP Tryz.prog 30=false:=by kernel_rfl
theorem t30:tyOk Tryz.prog 30=true:=by kernel_rfl
theorem z30:zeroP Tryz.prog 30=[.s .nilFunc]:=by kernel_rfl
theorem b30: Tryz.prog.bytesOf 30=8:=by kernel_rfl
theorem c31: Tryz.prog.cellsOf 31=1:=by kernel_rfl
theorem b31: Tryz.prog.bytesOf 31=24:=by kernel_rfl
theorem a31:aggP Tryz.prog 31=false:=by kernel_rfl
theorem t31:tyOk Tryz.prog 31=true:=by kernel_rfl
theorem z31:zeroP Tryz.prog 31=[.z]:=by kernel_rfl
theorem e31:elemP Tryz.prog 31=26:=by kernel_rfl
theorem sl31:slT Tryz.prog 31=true:=by kernel_rfl
theorem c32: Tryz.prog.cellsOf 32=1:=by kernel_rfl
theorem a32:aggP Tryz.prog 32=false:=by kernel_rfl
theorem t32:tyOk Tryz.prog 32=true:=by kernel_rfl
theorem z32:zeroP Tryz.prog 32=[.s .nilFunc]:=by kernel_rfl
theorem b32: Tryz.prog.bytesOf 32=8:=by kernel_rfl
theorem c34: Tryz.prog.cellsOf 34=1:=by kernel_rfl
theorem a34:aggP Tryz.prog 34=false:=by kernel_rfl
theorem t34:tyOk Tryz.prog 34=true:=by kernel_rfl
theorem z34:zeroP Tryz.prog 34=[.s .nilFunc]:=by kernel_rfl
theorem b34: Tryz.prog.bytesOf 34=8:=by kernel_rfl
theorem c35: Tryz.prog.cellsOf 35=1:=by kernel_rfl
theorem b35: Tryz.prog.bytesOf 35=24:=by kernel_rfl
theorem a35:aggP Tryz.prog 35=false:=by kernel_rfl
theorem t35:tyOk Tryz.prog 35=true:=by kernel_rfl
theorem z35:zeroP Tryz.prog 35=[.z]:=by kernel_rfl
theorem e35:elemP Tryz.prog 35=3:=by kernel_rfl
theorem sl35:slT Tryz.prog 35=true:=by kernel_rfl
theorem c36: Tryz.prog.cellsOf 36=2:=by kernel_rfl
theorem b36: Tryz.prog.bytesOf 36=16:=by kernel_rfl
theorem a36:aggP Tryz.prog 36=true:=by kernel_rfl
theorem t36:tyOk Tryz.prog 36=true:=by kernel_rfl
theorem z36:zeroP Tryz.prog 36=[.s (.int .u8 0),.s (.int .i64 0)]:=by kernel_rfl
theorem f36_0:fieldP Tryz.prog 36 0=some (0,5):=by kernel_rfl
theorem f36_1:fieldP Tryz.prog 36 1=some (1,3):=by kernel_rfl
theorem c37: Tryz.prog.cellsOf 37=2:=by kernel_rfl
theorem b37: Tryz.prog.bytesOf 37=16:=by kernel_rfl
theorem a37:aggP Tryz.prog 37=true:=by kernel_rfl
theorem t37:tyOk Tryz.prog 37=true:=by kernel_rfl
theorem z37:zeroP Tryz.prog 37=[.s (.int .u8 0),.s (.int .i64 0)]:=by kernel_rfl
theorem f37_0:fieldP Tryz.prog 37 0=some (0,5):=by kernel_rfl
theorem f37_1:fieldP Tryz.prog 37 1=some (1,3):=by kernel_rfl
theorem c38: Tryz.prog.cellsOf 38=6:=by kernel_rfl
theorem b38: Tryz.prog.bytesOf 38=72:=by kernel_rfl
theorem a38:aggP Tryz.prog 38=true:=by kernel_rfl
theorem t38:tyOk Tryz.prog 38=true:=by kernel_rfl
theorem z38:zeroP Tryz.prog 38=[.s (.int .u8 0),.s (.string "".toUTF8),.s (.int .u8 0),.s (.int .i64 0),.z,.s (.int .i64 0)]:=by kernel_rfl
theorem f38_0:fieldP Tryz.prog 38 0=some (0,5):=by kernel_rfl
theorem f38_1:fieldP Tryz.prog 38 1=some (1,9):=by kernel_rfl
theorem f38_2:fieldP Tryz.prog 38 2=some (2,37):=by kernel_rfl
theorem f38_3:fieldP Tryz.prog 38 3=some (4,35):=by kernel_rfl
theorem f38_4:fieldP Tryz.prog 38 4=some (5,3):=by kernel_rfl
theorem c39: Tryz.prog.cellsOf 39=6:=by kernel_rfl
theorem b39: Tryz.prog.bytesOf 39=72:=by kernel_rfl
theorem a39:aggP Tryz.prog 39=true:=by kernel_rfl
theorem t39:tyOk Tryz.prog 39=true:=by kernel_rfl
theorem z39:zeroP Tryz.prog 39=[.s (.int .u8 0),.s (.string "".toUTF8),.s (.int .u8 0),.s (.int .i64 0),.z,.s (.int .i64 0)]:=by kernel_rfl
theorem f39_0:fieldP Tryz.prog 39 0=some (0,5):=by kernel_rfl
theorem f39_1:fieldP Tryz.prog 39 1=some (1,9):=by kernel_rfl
theorem f39_2:fieldP Tryz.prog 39 2=some (2,37):=by kernel_rfl
theorem f39_3:fieldP Tryz.prog 39 3=some (4,35):=by kernel_rfl
theorem f39_4:fieldP Tryz.prog 39 4=some (5,3):=by kernel_rfl
theorem c41: Tryz.prog.cellsOf 41=1:=by kernel_rfl
theorem a41:aggP Tryz.prog 41=false:=by kernel_rfl
theorem t41:tyOk Tryz.prog 41=true:=by kernel_rfl
theorem z41:zeroP Tryz.prog 41=[.s .nilFunc]:=by kernel_rfl
theorem b41: Tryz.prog.bytesOf 41=8:=by kernel_rfl
theorem c42: Tryz.prog.cellsOf 42=1:=by kernel_rfl
theorem a42:aggP Tryz.prog 42=false:=by kernel_rfl
theorem t42:tyOk Tryz.prog 42=true:=by kernel_rfl
theorem z42:zeroP Tryz.prog 42=[.s .nilFunc]:=by kernel_rfl
theorem b42: Tryz.prog.bytesOf 42=8:=by kernel_rfl
theorem c43: Tryz.prog.cellsOf 43=1:=by kernel_rfl
theorem a43:aggP Tryz.prog 43=false:=by kernel_rfl
theorem t43:tyOk Tryz.prog 43=true:=by kernel_rfl
theorem z43:zeroP Tryz.prog 43=[.s .nilFunc]:=by kernel_rfl
theorem b43: Tryz.prog.bytesOf 43=8:=by kernel_rfl
theorem c44: Tryz.prog.cellsOf 44=6:=by kernel_rfl
theorem b44: Tryz.prog.bytesOf 44=64:=by kernel_rfl
theorem a44:aggP Tryz.prog 44=true:=by kernel_rfl
theorem t44:tyOk Tryz.prog 44=true:=by kernel_rfl
theorem z44:zeroP Tryz.prog 44=[.s (.int .u8 0),.s (.int .i64 0),.s (.int .i64 0),.s (.int .i64 0),.s (.int .i64 0),.z]:=by kernel_rfl
theorem f44_0:fieldP Tryz.prog 44 0=some (0,5):=by kernel_rfl
theorem f44_1:fieldP Tryz.prog 44 1=some (1,3):=by kernel_rfl
theorem f44_2:fieldP Tryz.prog 44 2=some (2,3):=by kernel_rfl
theorem f44_3:fieldP Tryz.prog 44 3=some (3,3):=by kernel_rfl
theorem f44_4:fieldP Tryz.prog 44 4=some (4,3):=by kernel_rfl
theorem f44_5:fieldP Tryz.prog 44 5=some (5,35):=by kernel_rfl
theorem c45: Tryz.prog.cellsOf 45=6:=by kernel_rfl
theorem b45: Tryz.prog.bytesOf 45=64:=by kernel_rfl
theorem a45:aggP Tryz.prog 45=true:=by kernel_rfl
theorem t45:tyOk Tryz.prog 45=true:=by kernel_rfl
theorem z45:zeroP Tryz.prog 45=[.s (.int .u8 0),.s (.int .i64 0),.s (.int .i64 0),.s (.int .i64 0),.s (.int .i64 0),.z]:=by kernel_rfl
theorem f45_0:fieldP Tryz.prog 45 0=some (0,5):=by kernel_rfl
theorem f45_1:fieldP Tryz.prog 45 1=some (1,3):=by kernel_rfl
theorem f45_2:fieldP Tryz.prog 45 2=some (2,3):=by kernel_rfl
theorem f45_3:fieldP Tryz.prog 45 3=some (3,3):=by kernel_rfl
theorem f45_4:fieldP Tryz.prog 45 4=some (4,3):=by kernel_rfl
theorem f45_5:fieldP Tryz.prog 45 5=some (5,35):=by kernel_rfl
theorem c46: Tryz.prog.cellsOf 46=1:=by kernel_rfl
theorem b46: Tryz.prog.bytesOf 46=24:=by kernel_rfl
theorem a46:aggP Tryz.prog 46=false:=by kernel_rfl
theorem t46:tyOk Tryz.prog 46=true:=by kernel_rfl
theorem z46:zeroP Tryz.prog 46=[.z]:=by kernel_rfl
theorem e46:elemP Tryz.prog 46=82:=by kernel_rfl
theorem sl46:slT Tryz.prog 46=true:=by kernel_rfl
theorem c47: Tryz.prog.cellsOf 47=15:=by kernel_rfl
theorem b47: Tryz.prog.bytesOf 47=176:=by kernel_rfl
theorem a47:aggP Tryz.prog 47=true:=by kernel_rfl
theorem t47:tyOk Tryz.prog 47=true:=by kernel_rfl
theorem z47:zeroP Tryz.prog 47=[.s (.int .u8 0),.s (.int .i64 0),.s (.int .i64 0),.s (.int .i64 0),.s (.int .i64 0),.s (.string "".toUTF8),.s (.int .u8 0),.s (.int .i64 0),.s (.int .i64 0),.s (.int .i64 0),.s (.int .i64 0),.z,.z,.z,.s (.int .i64 0)]:=by kernel_rfl
theorem f47_0:fieldP Tryz.prog 47 0=some (0,5):=by kernel_rfl
theorem f47_1:fieldP Tryz.prog 47 1=some (1,3):=by kernel_rfl
theorem f47_2:fieldP Tryz.prog 47 2=some (2,3):=by kernel_rfl
theorem f47_3:fieldP Tryz.prog 47 3=some (3,3):=by kernel_rfl
theorem f47_4:fieldP Tryz.prog 47 4=some (4,3):=by kernel_rfl
theorem f47_5:fieldP Tryz.prog 47 5=some (5,9):=by kernel_rfl
theorem f47_6:fieldP Tryz.prog 47 6=some (6,45):=by kernel_rfl
theorem f47_7:fieldP Tryz.prog 47 7=some (12,35):=by kernel_rfl
theorem f47_8:fieldP Tryz.prog 47 8=some (13,46):=by kernel_rfl
theorem f47_9:fieldP Tryz.prog 47 9=some (14,3):=by kernel_rfl
theorem c48: Tryz.prog.cellsOf 48=15:=by kernel_rfl
theorem b48: Tryz.prog.bytesOf 48=176:=by kernel_rfl
theorem a48:aggP Tryz.prog 48=true:=by kernel_rfl
theorem t48:tyOk Tryz.prog 48=true:=by kernel_rfl
theorem z48:zeroP Tryz.prog 48=[.s (.int .u8 0),.s (.int .i64 0),.s (.int .i64 0),.s (.int .i64 0),.s (.int .i64 0),.s (.string "".toUTF8),.s (.int .u8 0),.s (.int .i64 0),.s (.int .i64 0),.s (.int .i64 0),.s (.int .i64 0),.z,.z,.z,.s (.int .i64 0)]:=by kernel_rfl
theorem f48_0:fieldP Tryz.prog 48 0=some (0,5):=by kernel_rfl
theorem f48_1:fieldP Tryz.prog 48 1=some (1,3):=by kernel_rfl
theorem f48_2:fieldP Tryz.prog 48 2=some (2,3):=by kernel_rfl
theorem f48_3:fieldP Tryz.prog 48 3=some (3,3):=by kernel_rfl
theorem f48_4:fieldP Tryz.prog 48 4=some (4,3):=by kernel_rfl
theorem f48_5:fieldP Tryz.prog 48 5=some (5,9):=by kernel_rfl
theorem f48_6:fieldP Tryz.prog 48 6=some (6,45):=by kernel_rfl
theorem f48_7:fieldP Tryz.prog 48 7=some (12,35):=by kernel_rfl
theorem f48_8:fieldP Tryz.prog 48 8=some (13,46):=by kernel_rfl
theorem f48_9:fieldP Tryz.prog 48 9=some (14,3):=by kernel_rfl
theorem c49: Tryz.prog.cellsOf 49=1:=by kernel_rfl
theorem a49:aggP Tryz.prog 49=false:=by kernel_rfl
theorem t49:tyOk Tryz.prog 49=true:=by kernel_rfl
theorem z49:zeroP Tryz.prog 49=[.s .nilFunc]:=by kernel_rfl
theorem b49: Tryz.prog.bytesOf 49=8:=by kernel_rfl
theorem c50: Tryz.prog.cellsOf 50=1:=by kernel_rfl
theorem a50:aggP Tryz.prog 50=false:=by kernel_rfl
theorem t50:tyOk Tryz.prog 50=true:=by kernel_rfl
theorem z50:zeroP Tryz.prog 50=[.s .nilFunc]:=by kernel_rfl
theorem b50: Tryz.prog.bytesOf 50=8:=by kernel_rfl
theorem c51: Tryz.prog.cellsOf 51=1:=by kernel_rfl
theorem a51:aggP Tryz.prog 51=false:=by kernel_rfl
theorem t51:tyOk Tryz.prog 51=true:=by kernel_rfl
theorem z51:zeroP Tryz.prog 51=[.s .nilFunc]:=by kernel_rfl
theorem b51: Tryz.prog.bytesOf 51=8:=by kernel_rfl
theorem c52: Tryz.prog.cellsOf 52=1:=by kernel_rfl
theorem a52:aggP Tryz.prog 52=false:=by kernel_rfl
theorem t52:tyOk Tryz.prog 52=true:=by kernel_rfl
theorem z52:zeroP Tryz.prog 52=[.s .nilFunc]:=by kernel_rfl
theorem b52: Tryz.prog.bytesOf 52=8:=by kernel_rfl
theorem c53: Tryz.prog.cellsOf 53=1:=by kernel_rfl
theorem a53:aggP Tryz.prog 53=false:=by kernel_rfl
theorem t53:tyOk Tryz.prog 53=true:=by kernel_rfl
theorem z53:zeroP Tryz.prog 53=[.s .nilFunc]:=by kernel_rfl
theorem b53: Tryz.prog.bytesOf 53=8:=by kernel_rfl
theorem c54: Tryz.prog.cellsOf 54=1:=by kernel_rfl
theorem a54:aggP Tryz.prog 54=false:=by kernel_rfl
theorem t54:tyOk Tryz.prog 54=true:=by kernel_rfl
theorem z54:zeroP Tryz.prog 54=[.s .nilFunc]:=by kernel_rfl
theorem b54: Tryz.prog.bytesOf 54=8:=by kernel_rfl
theorem c55: Tryz.prog.cellsOf 55=1:=by kernel_rfl
theorem a55:aggP Tryz.prog 55=false:=by kernel_rfl
theorem t55:tyOk Tryz.prog 55=true:=by kernel_rfl
theorem z55:zeroP Tryz.prog 55=[.s .nilFunc]:=by kernel_rfl
theorem b55: Tryz.prog.bytesOf 55=8:=by kernel_rfl
theorem c57: Tryz.prog.cellsOf 57=1:=by kernel_rfl
theorem a57:aggP Tryz.prog 57=false:=by kernel_rfl
theorem t57:tyOk Tryz.prog 57=true:=by kernel_rfl
theorem z57:zeroP Tryz.prog 57=[.s .nilFunc]:=by kernel_rfl
theorem b57: Tryz.prog.bytesOf 57=8:=by kernel_rfl
theorem c59: Tryz.prog.cellsOf 59=1:=by kernel_rfl
theorem a59:aggP Tryz.prog 59=false:=by kernel_rfl
theorem t59:tyOk Tryz.prog 59=true:=by kernel_rfl
theorem z59:zeroP Tryz.prog 59=[.s .nilFunc]:=by kernel_rfl
theorem b59: Tryz.prog.bytesOf 59=8:=by kernel_rfl
theorem c60: Tryz.prog.cellsOf 60=1:=by kernel_rfl
theorem a60:aggP Tryz.prog 60=false:=by kernel_rfl
theorem t60:tyOk Tryz.prog 60=true:=by kernel_rfl
theorem z60:zeroP Tryz.prog 60=[.s .nilFunc]:=by kernel_rfl
theorem b60: Tryz.prog.bytesOf 60=8:=by kernel_rfl
theorem c61: Tryz.prog.cellsOf 61=1:=by kernel_rfl
theorem a61:aggP Tryz.prog 61=false:=by kernel_rfl
theorem t61:tyOk Tryz.prog 61=true:=by kernel_rfl
theorem z61:zeroP Tryz.prog 61=[.s .nilFunc]:=by kernel_rfl
theorem b61: Tryz.prog.bytesOf 61=8:=by kernel_rfl
theorem c62: Tryz.prog.cellsOf 62=1:=by kernel_rfl
theorem b62: Tryz.prog.bytesOf 62=8:=by kernel_rfl
theorem a62:aggP Tryz.prog 62=false:=by kernel_rfl
theorem t62:tyOk Tryz.prog 62=true:=by kernel_rfl
theorem z62:zeroP Tryz.prog 62=[.s (.int .u64 0)]:=by kernel_rfl
theorem c63: Tryz.prog.cellsOf 63=1:=by kernel_rfl
theorem b63: Tryz.prog.bytesOf 63=24:=by kernel_rfl
theorem a63:aggP Tryz.prog 63=false:=by kernel_rfl
theorem t63:tyOk Tryz.prog 63=true:=by kernel_rfl
theorem z63:zeroP Tryz.prog 63=[.z]:=by kernel_rfl
theorem e63:elemP Tryz.prog 63=4:=by kernel_rfl
theorem sl63:slT Tryz.prog 63=true:=by kernel_rfl
theorem c65: Tryz.prog.cellsOf 65=1:=by kernel_rfl
theorem a65:aggP Tryz.prog 65=false:=by kernel_rfl
theorem t65:tyOk Tryz.prog 65=true:=by kernel_rfl
theorem z65:zeroP Tryz.prog 65=[.s .nilFunc]:=by kernel_rfl
theorem b65: Tryz.prog.bytesOf 65=8:=by kernel_rfl
theorem c66: Tryz.prog.cellsOf 66=1:=by kernel_rfl
theorem a66:aggP Tryz.prog 66=false:=by kernel_rfl
theorem t66:tyOk Tryz.prog 66=true:=by kernel_rfl
theorem z66:zeroP Tryz.prog 66=[.s .nilFunc]:=by kernel_rfl
theorem b66: Tryz.prog.bytesOf 66=8:=by kernel_rfl
theorem c67: Tryz.prog.cellsOf 67=1:=by kernel_rfl
theorem b67: Tryz.prog.bytesOf 67=24:=by kernel_rfl
theorem a67:aggP Tryz.prog 67=false:=by kernel_rfl
theorem t67:tyOk Tryz.prog 67=true:=by kernel_rfl
theorem z67:zeroP Tryz.prog 67=[.z]:=by kernel_rfl
theorem e67:elemP Tryz.prog 67=45:=by kernel_rfl
theorem sl67:slT Tryz.prog 67=true:=by kernel_rfl
theorem c68: Tryz.prog.cellsOf 68=16:=by kernel_rfl
theorem b68: Tryz.prog.bytesOf 68=200:=by kernel_rfl
theorem a68:aggP Tryz.prog 68=true:=by kernel_rfl
theorem t68:tyOk Tryz.prog 68=true:=by kernel_rfl
theorem z68:zeroP Tryz.prog 68=[.z,.s (.int .u8 0),.s (.int .i64 0),.s (.int .i64 0),.s (.int .i64 0),.s (.int .i64 0),.s (.string "".toUTF8),.s (.int .u8 0),.s (.int .i64 0),.s (.int .i64 0),.s (.int .i64 0),.s (.int .i64 0),.z,.z,.z,.s (.int .i64 0)]:=by kernel_rfl
theorem f68_0:fieldP Tryz.prog 68 0=some (0,67):=by kernel_rfl
theorem f68_1:fieldP Tryz.prog 68 1=some (1,48):=by kernel_rfl
theorem c69: Tryz.prog.cellsOf 69=16:=by kernel_rfl
theorem b69: Tryz.prog.bytesOf 69=200:=by kernel_rfl
theorem a69:aggP Tryz.prog 69=true:=by kernel_rfl
theorem t69:tyOk Tryz.prog 69=true:=by kernel_rfl
theorem z69:zeroP Tryz.prog 69=[.z,.s (.int .u8 0),.s (.int .i64 0),.s (.int .i64 0),.s (.int .i64 0),.s (.int .i64 0),.s (.string "".toUTF8),.s (.int .u8 0),.s (.int .i64 0),.s (.int .i64 0),.s (.int .i64 0),.s (.int .i64 0),.z,.z,.z,.s (.int .i64 0)]:=by kernel_rfl
theorem f69_0:fieldP Tryz.prog 69 0=some (0,67):=by kernel_rfl
theorem f69_1:fieldP Tryz.prog 69 1=some (1,48):=by kernel_rfl
theorem c70: Tryz.prog.cellsOf 70=1:=by kernel_rfl
theorem a70:aggP Tryz.prog 70=false:=by kernel_rfl
theorem t70:tyOk Tryz.prog 70=true:=by kernel_rfl
theorem z70:zeroP Tryz.prog 70=[.s .nilFunc]:=by kernel_rfl
theorem b70: Tryz.prog.bytesOf 70=8:=by kernel_rfl
theorem c71: Tryz.prog.cellsOf 71=1:=by kernel_rfl
theorem a71:aggP Tryz.prog 71=false:=by kernel_rfl
theorem t71:tyOk Tryz.prog 71=true:=by kernel_rfl
theorem z71:zeroP Tryz.prog 71=[.s .nilFunc]:=by kernel_rfl
theorem b71: Tryz.prog.bytesOf 71=8:=by kernel_rfl
theorem c72: Tryz.prog.cellsOf 72=1:=by kernel_rfl
theorem a72:aggP Tryz.prog 72=false:=by kernel_rfl
theorem t72:tyOk Tryz.prog 72=true:=by kernel_rfl
theorem z72:zeroP Tryz.prog 72=[.s .nilFunc]:=by kernel_rfl
theorem b72: Tryz.prog.bytesOf 72=8:=by kernel_rfl
theorem c73: Tryz.prog.cellsOf 73=1:=by kernel_rfl
theorem a73:aggP Tryz.prog 73=false:=by kernel_rfl
theorem t73:tyOk Tryz.prog 73=true:=by kernel_rfl
theorem z73:zeroP Tryz.prog 73=[.s .nilFunc]:=by kernel_rfl
theorem b73: Tryz.prog.bytesOf 73=8:=by kernel_rfl
theorem c74: Tryz.prog.cellsOf 74=1:=by kernel_rfl
theorem a74:aggP Tryz.prog 74=false:=by kernel_rfl
theorem t74:tyOk Tryz.prog 74=true:=by kernel_rfl
theorem z74:zeroP Tryz.prog 74=[.s .nilFunc]:=by kernel_rfl
theorem b74: Tryz.prog.bytesOf 74=8:=by kernel_rfl
theorem c75: Tryz.prog.cellsOf 75=1:=by kernel_rfl
theorem a75:aggP Tryz.prog 75=false:=by kernel_rfl
theorem t75:tyOk Tryz.prog 75=true:=by kernel_rfl
theorem z75:zeroP Tryz.prog 75=[.s .nilFunc]:=by kernel_rfl
theorem b75: Tryz.prog.bytesOf 75=8:=by kernel_rfl
theorem c76: Tryz.prog.cellsOf 76=1:=by kernel_rfl
theorem a76:aggP Tryz.prog 76=false:=by kernel_rfl
theorem t76:tyOk Tryz.prog 76=true:=by kernel_rfl
theorem z76:zeroP Tryz.prog 76=[.s .nilFunc]:=by kernel_rfl
theorem b76: Tryz.prog.bytesOf 76=8:=by kernel_rfl
theorem c78: Tryz.prog.cellsOf 78=1:=by kernel_rfl
theorem a78:aggP Tryz.prog 78=false:=by kernel_rfl
theorem t78:tyOk Tryz.prog 78=true:=by kernel_rfl
theorem z78:zeroP Tryz.prog 78=[.s .nilFunc]:=by kernel_rfl
theorem b78: Tryz.prog.bytesOf 78=8:=by kernel_rfl
theorem c80: Tryz.prog.cellsOf 80=1:=by kernel_rfl
theorem a80:aggP Tryz.prog 80=false:=by kernel_rfl
theorem t80:tyOk Tryz.prog 80=true:=by kernel_rfl
theorem z80:zeroP Tryz.prog 80=[.s .nilFunc]:=by kernel_rfl
theorem b80: Tryz.prog.bytesOf 80=8:=by kernel_rfl
theorem c81: Tryz.prog.cellsOf 81=2:=by kernel_rfl
theorem b81: Tryz.prog.bytesOf 81=24:=by kernel_rfl
theorem a81:aggP Tryz.prog 81=true:=by kernel_rfl
theorem t81:tyOk Tryz.prog 81=true:=by kernel_rfl
theorem z81:zeroP Tryz.prog 81=[.s (.string "".toUTF8),.s (.int .i64 0)]:=by kernel_rfl
theorem f81_0:fieldP Tryz.prog 81 0=some (0,9):=by kernel_rfl
theorem f81_1:fieldP Tryz.prog 81 1=some (1,3):=by kernel_rfl
theorem c82: Tryz.prog.cellsOf 82=2:=by kernel_rfl
theorem b82: Tryz.prog.bytesOf 82=24:=by kernel_rfl
theorem a82:aggP Tryz.prog 82=true:=by kernel_rfl
theorem t82:tyOk Tryz.prog 82=true:=by kernel_rfl
theorem z82:zeroP Tryz.prog 82=[.s (.string "".toUTF8),.s (.int .i64 0)]:=by kernel_rfl
theorem f82_0:fieldP Tryz.prog 82 0=some (0,9):=by kernel_rfl
theorem f82_1:fieldP Tryz.prog 82 1=some (1,3):=by kernel_rfl
theorem c83: Tryz.prog.cellsOf 83=1:=by kernel_rfl
theorem a83:aggP Tryz.prog 83=false:=by kernel_rfl
theorem t83:tyOk Tryz.prog 83=true:=by kernel_rfl
theorem z83:zeroP Tryz.prog 83=[.s .nilFunc]:=by kernel_rfl
theorem b83: Tryz.prog.bytesOf 83=8:=by kernel_rfl
theorem c84: Tryz.prog.cellsOf 84=1:=by kernel_rfl
theorem a84:aggP Tryz.prog 84=false:=by kernel_rfl
theorem t84:tyOk Tryz.prog 84=true:=by kernel_rfl
theorem z84:zeroP Tryz.prog 84=[.s .nilFunc]:=by kernel_rfl
theorem b84: Tryz.prog.bytesOf 84=8:=by kernel_rfl
theorem c85: Tryz.prog.cellsOf 85=1:=by kernel_rfl
theorem a85:aggP Tryz.prog 85=false:=by kernel_rfl
theorem t85:tyOk Tryz.prog 85=true:=by kernel_rfl
theorem z85:zeroP Tryz.prog 85=[.s .nilFunc]:=by kernel_rfl
theorem b85: Tryz.prog.bytesOf 85=8:=by kernel_rfl
theorem c86: Tryz.prog.cellsOf 86=1:=by kernel_rfl
theorem a86:aggP Tryz.prog 86=false:=by kernel_rfl
theorem t86:tyOk Tryz.prog 86=true:=by kernel_rfl
theorem z86:zeroP Tryz.prog 86=[.s .nilFunc]:=by kernel_rfl
theorem b86: Tryz.prog.bytesOf 86=8:=by kernel_rfl
theorem c87: Tryz.prog.cellsOf 87=1:=by kernel_rfl
theorem a87:aggP Tryz.prog 87=false:=by kernel_rfl
theorem t87:tyOk Tryz.prog 87=true:=by kernel_rfl
theorem z87:zeroP Tryz.prog 87=[.s .nilFunc]:=by kernel_rfl
theorem b87: Tryz.prog.bytesOf 87=8:=by kernel_rfl
theorem c88: Tryz.prog.cellsOf 88=1:=by kernel_rfl
theorem a88:aggP Tryz.prog 88=false:=by kernel_rfl
theorem t88:tyOk Tryz.prog 88=true:=by kernel_rfl
theorem z88:zeroP Tryz.prog 88=[.s .nilFunc]:=by kernel_rfl
theorem b88: Tryz.prog.bytesOf 88=8:=by kernel_rfl
theorem c89: Tryz.prog.cellsOf 89=1:=by kernel_rfl
theorem a89:aggP Tryz.prog 89=false:=by kernel_rfl
theorem t89:tyOk Tryz.prog 89=true:=by kernel_rfl
theorem z89:zeroP Tryz.prog 89=[.s .nilFunc]:=by kernel_rfl
theorem b89: Tryz.prog.bytesOf 89=8:=by kernel_rfl
theorem c90: Tryz.prog.cellsOf 90=1:=by kernel_rfl
theorem a90:aggP Tryz.prog 90=false:=by kernel_rfl
theorem t90:tyOk Tryz.prog 90=true:=by kernel_rfl
theorem z90:zeroP Tryz.prog 90=[.s .nilFunc]:=by kernel_rfl
theorem b90: Tryz.prog.bytesOf 90=8:=by kernel_rfl
theorem c91: Tryz.prog.cellsOf 91=1:=by kernel_rfl
theorem b91: Tryz.prog.bytesOf 91=8:=by kernel_rfl
theorem a91:aggP Tryz.prog 91=false:=by kernel_rfl
theorem t91:tyOk Tryz.prog 91=true:=by kernel_rfl
theorem z91:zeroP Tryz.prog 91=[.s (.map none)]:=by kernel_rfl
theorem c92: Tryz.prog.cellsOf 92=10:=by kernel_rfl
theorem b92: Tryz.prog.bytesOf 92=152:=by kernel_rfl
theorem a92:aggP Tryz.prog 92=true:=by kernel_rfl
theorem t92:tyOk Tryz.prog 92=true:=by kernel_rfl
theorem z92:zeroP Tryz.prog 92=[.s (.string "".toUTF8),.s (.bool false),.s (.int .i64 0),.s (.int .u8 0),.z,.z,.z,.z,.s (.map none),.s (.map none)]:=by kernel_rfl
theorem f92_0:fieldP Tryz.prog 92 0=some (0,26):=by kernel_rfl
theorem f92_1:fieldP Tryz.prog 92 1=some (8,91):=by kernel_rfl
theorem f92_2:fieldP Tryz.prog 92 2=some (9,91):=by kernel_rfl
theorem c93: Tryz.prog.cellsOf 93=10:=by kernel_rfl
theorem b93: Tryz.prog.bytesOf 93=152:=by kernel_rfl
theorem a93:aggP Tryz.prog 93=true:=by kernel_rfl
theorem t93:tyOk Tryz.prog 93=true:=by kernel_rfl
theorem z93:zeroP Tryz.prog 93=[.s (.string "".toUTF8),.s (.bool false),.s (.int .i64 0),.s (.int .u8 0),.z,.z,.z,.z,.s (.map none),.s (.map none)]:=by kernel_rfl
theorem f93_0:fieldP Tryz.prog 93 0=some (0,26):=by kernel_rfl
theorem f93_1:fieldP Tryz.prog 93 1=some (8,91):=by kernel_rfl
theorem f93_2:fieldP Tryz.prog 93 2=some (9,91):=by kernel_rfl
theorem c94: Tryz.prog.cellsOf 94=1:=by kernel_rfl
theorem b94: Tryz.prog.bytesOf 94=24:=by kernel_rfl
theorem a94:aggP Tryz.prog 94=false:=by kernel_rfl
theorem t94:tyOk Tryz.prog 94=true:=by kernel_rfl
theorem z94:zeroP Tryz.prog 94=[.z]:=by kernel_rfl
theorem e94:elemP Tryz.prog 94=99:=by kernel_rfl
theorem sl94:slT Tryz.prog 94=true:=by kernel_rfl
theorem c95: Tryz.prog.cellsOf 95=1:=by kernel_rfl
theorem a95:aggP Tryz.prog 95=false:=by kernel_rfl
theorem t95:tyOk Tryz.prog 95=true:=by kernel_rfl
theorem z95:zeroP Tryz.prog 95=[.s .nilFunc]:=by kernel_rfl
theorem b95: Tryz.prog.bytesOf 95=8:=by kernel_rfl
theorem c96: Tryz.prog.cellsOf 96=1:=by kernel_rfl
theorem b96: Tryz.prog.bytesOf 96=24:=by kernel_rfl
theorem a96:aggP Tryz.prog 96=false:=by kernel_rfl
theorem t96:tyOk Tryz.prog 96=true:=by kernel_rfl
theorem z96:zeroP Tryz.prog 96=[.z]:=by kernel_rfl
theorem e96:elemP Tryz.prog 96=35:=by kernel_rfl
theorem sl96:slT Tryz.prog 96=true:=by kernel_rfl
theorem c97: Tryz.prog.cellsOf 97=1:=by kernel_rfl
theorem a97:aggP Tryz.prog 97=false:=by kernel_rfl
theorem t97:tyOk Tryz.prog 97=true:=by kernel_rfl
theorem z97:zeroP Tryz.prog 97=[.s .nilFunc]:=by kernel_rfl
theorem b97: Tryz.prog.bytesOf 97=8:=by kernel_rfl
theorem c98: Tryz.prog.cellsOf 98=2:=by kernel_rfl
theorem b98: Tryz.prog.bytesOf 98=32:=by kernel_rfl
theorem a98:aggP Tryz.prog 98=true:=by kernel_rfl
theorem t98:tyOk Tryz.prog 98=true:=by kernel_rfl
theorem z98:zeroP Tryz.prog 98=[.s (.bool false),.z]:=by kernel_rfl
theorem f98_0:fieldP Tryz.prog 98 0=some (0,4):=by kernel_rfl
theorem f98_1:fieldP Tryz.prog 98 1=some (1,63):=by kernel_rfl
theorem c99: Tryz.prog.cellsOf 99=2:=by kernel_rfl
theorem b99: Tryz.prog.bytesOf 99=32:=by kernel_rfl
theorem a99:aggP Tryz.prog 99=true:=by kernel_rfl
theorem t99:tyOk Tryz.prog 99=true:=by kernel_rfl
theorem z99:zeroP Tryz.prog 99=[.s (.bool false),.z]:=by kernel_rfl
theorem f99_0:fieldP Tryz.prog 99 0=some (0,4):=by kernel_rfl
theorem f99_1:fieldP Tryz.prog 99 1=some (1,63):=by kernel_rfl
theorem c100: Tryz.prog.cellsOf 100=1:=by kernel_rfl
theorem a100:aggP Tryz.prog 100=false:=by kernel_rfl
theorem t100:tyOk Tryz.prog 100=true:=by kernel_rfl
theorem z100:zeroP Tryz.prog 100=[.s .nilFunc]:=by kernel_rfl
theorem b100: Tryz.prog.bytesOf 100=8:=by kernel_rfl
theorem c101: Tryz.prog.cellsOf 101=1:=by kernel_rfl
theorem a101:aggP Tryz.prog 101=false:=by kernel_rfl
theorem t101:tyOk Tryz.prog 101=true:=by kernel_rfl
theorem z101:zeroP Tryz.prog 101=[.s .nilFunc]:=by kernel_rfl
theorem b101: Tryz.prog.bytesOf 101=8:=by kernel_rfl
theorem c102: Tryz.prog.cellsOf 102=1:=by kernel_rfl
theorem a102:aggP Tryz.prog 102=false:=by kernel_rfl
theorem t102:tyOk Tryz.prog 102=true:=by kernel_rfl
theorem z102:zeroP Tryz.prog 102=[.s .nilFunc]:=by kernel_rfl
theorem b102: Tryz.prog.bytesOf 102=8:=by kernel_rfl
theorem c103: Tryz.prog.cellsOf 103=1:=by kernel_rfl
theorem a103:aggP Tryz.prog 103=false:=by kernel_rfl
theorem t103:tyOk Tryz.prog 103=true:=by kernel_rfl
theorem z103:zeroP Tryz.prog 103=[.s .nilFunc]:=by kernel_rfl
theorem b103: Tryz.prog.bytesOf 103=8:=by kernel_rfl
theorem c104: Tryz.prog.cellsOf 104=1:=by kernel_rfl
theorem a104:aggP Tryz.prog 104=false:=by kernel_rfl
theorem t104:tyOk Tryz.prog 104=true:=by kernel_rfl
theorem z104:zeroP Tryz.prog 104=[.s .nilFunc]:=by kernel_rfl
theorem b104: Tryz.prog.bytesOf 104=8:=by kernel_rfl
theorem c105: Tryz.prog.cellsOf 105=1:=by kernel_rfl
theorem a105:aggP Tryz.prog 105=false:=by kernel_rfl
theorem t105:tyOk Tryz.prog 105=true:=by kernel_rfl
theorem z105:zeroP Tryz.prog 105=[.s .nilFunc]:=by kernel_rfl
theorem b105: Tryz.prog.bytesOf 105=8:=by kernel_rfl
theorem c106: Tryz.prog.cellsOf 106=1:=by kernel_rfl
theorem a106:aggP Tryz.prog 106=false:=by kernel_rfl
theorem t106:tyOk Tryz.prog 106=true:=by kernel_rfl
theorem z106:zeroP Tryz.prog 106=[.s .nilFunc]:=by kernel_rfl
theorem b106: Tryz.prog.bytesOf 106=8:=by kernel_rfl
theorem c108: Tryz.prog.cellsOf 108=1:=by kernel_rfl
theorem a108:aggP Tryz.prog 108=false:=by kernel_rfl
theorem t108:tyOk Tryz.prog 108=true:=by kernel_rfl
theorem z108:zeroP Tryz.prog 108=[.s .nilFunc]:=by kernel_rfl
theorem b108: Tryz.prog.bytesOf 108=8:=by kernel_rfl
theorem c109: Tryz.prog.cellsOf 109=1:=by kernel_rfl
theorem a109:aggP Tryz.prog 109=false:=by kernel_rfl
theorem t109:tyOk Tryz.prog 109=true:=by kernel_rfl
theorem z109:zeroP Tryz.prog 109=[.s .nilFunc]:=by kernel_rfl
theorem b109: Tryz.prog.bytesOf 109=8:=by kernel_rfl
theorem c110: Tryz.prog.cellsOf 110=1:=by kernel_rfl
theorem a110:aggP Tryz.prog 110=false:=by kernel_rfl
theorem t110:tyOk Tryz.prog 110=true:=by kernel_rfl
theorem z110:zeroP Tryz.prog 110=[.s .nilFunc]:=by kernel_rfl
theorem b110: Tryz.prog.bytesOf 110=8:=by kernel_rfl
theorem c111: Tryz.prog.cellsOf 111=1:=by kernel_rfl
theorem a111:aggP Tryz.prog 111=false:=by kernel_rfl
theorem t111:tyOk Tryz.prog 111=true:=by kernel_rfl
theorem z111:zeroP Tryz.prog 111=[.s .nilFunc]:=by kernel_rfl
theorem b111: Tryz.prog.bytesOf 111=8:=by kernel_rfl
theorem c112: Tryz.prog.cellsOf 112=1:=by kernel_rfl
theorem b112: Tryz.prog.bytesOf 112=8:=by kernel_rfl
theorem a112:aggP Tryz.prog 112=false:=by kernel_rfl
theorem t112:tyOk Tryz.prog 112=true:=by kernel_rfl
theorem z112:zeroP Tryz.prog 112=[.s (.pointer none)]:=by kernel_rfl
theorem e112:elemP Tryz.prog 112=115:=by kernel_rfl
theorem pt112:ptT Tryz.prog 112=true:=by kernel_rfl
theorem c113: Tryz.prog.cellsOf 113=1:=by kernel_rfl
theorem b113: Tryz.prog.bytesOf 113=24:=by kernel_rfl
theorem a113:aggP Tryz.prog 113=false:=by kernel_rfl
theorem t113:tyOk Tryz.prog 113=true:=by kernel_rfl
theorem z113:zeroP Tryz.prog 113=[.z]:=by kernel_rfl
theorem e113:elemP Tryz.prog 113=340:=by kernel_rfl
theorem sl113:slT Tryz.prog 113=true:=by kernel_rfl
theorem c114: Tryz.prog.cellsOf 114=5:=by kernel_rfl
theorem b114: Tryz.prog.bytesOf 114=88:=by kernel_rfl
theorem a114:aggP Tryz.prog 114=true:=by kernel_rfl
theorem t114:tyOk Tryz.prog 114=true:=by kernel_rfl
theorem z114:zeroP Tryz.prog 114=[.z,.z,.z,.s (.int .i64 0),.s (.int .i64 0)]:=by kernel_rfl
theorem f114_0:fieldP Tryz.prog 114 0=some (0,31):=by kernel_rfl
theorem f114_1:fieldP Tryz.prog 114 1=some (1,113):=by kernel_rfl
theorem f114_2:fieldP Tryz.prog 114 2=some (2,35):=by kernel_rfl
theorem f114_3:fieldP Tryz.prog 114 3=some (3,3):=by kernel_rfl
theorem f114_4:fieldP Tryz.prog 114 4=some (4,3):=by kernel_rfl
theorem c115: Tryz.prog.cellsOf 115=5:=by kernel_rfl
theorem b115: Tryz.prog.bytesOf 115=88:=by kernel_rfl
theorem a115:aggP Tryz.prog 115=true:=by kernel_rfl
theorem t115:tyOk Tryz.prog 115=true:=by kernel_rfl
theorem z115:zeroP Tryz.prog 115=[.z,.z,.z,.s (.int .i64 0),.s (.int .i64 0)]:=by kernel_rfl
theorem f115_0:fieldP Tryz.prog 115 0=some (0,31):=by kernel_rfl
theorem f115_1:fieldP Tryz.prog 115 1=some (1,113):=by kernel_rfl
theorem f115_2:fieldP Tryz.prog 115 2=some (2,35):=by kernel_rfl
theorem f115_3:fieldP Tryz.prog 115 3=some (3,3):=by kernel_rfl
theorem f115_4:fieldP Tryz.prog 115 4=some (4,3):=by kernel_rfl
theorem c116: Tryz.prog.cellsOf 116=1:=by kernel_rfl
theorem b116: Tryz.prog.bytesOf 116=1:=by kernel_rfl
theorem a116:aggP Tryz.prog 116=true:=by kernel_rfl
theorem t116:tyOk Tryz.prog 116=true:=by kernel_rfl
theorem z116:zeroP Tryz.prog 116=[.s (.int .u8 0)]:=by kernel_rfl
theorem f116_0:fieldP Tryz.prog 116 0=some (0,5):=by kernel_rfl
theorem c117: Tryz.prog.cellsOf 117=1:=by kernel_rfl
theorem b117: Tryz.prog.bytesOf 117=1:=by kernel_rfl
theorem a117:aggP Tryz.prog 117=true:=by kernel_rfl
theorem t117:tyOk Tryz.prog 117=true:=by kernel_rfl
theorem z117:zeroP Tryz.prog 117=[.s (.int .u8 0)]:=by kernel_rfl
theorem f117_0:fieldP Tryz.prog 117 0=some (0,5):=by kernel_rfl
theorem c119: Tryz.prog.cellsOf 119=3:=by kernel_rfl
theorem b119: Tryz.prog.bytesOf 119=32:=by kernel_rfl
theorem a119:aggP Tryz.prog 119=true:=by kernel_rfl
theorem t119:tyOk Tryz.prog 119=true:=by kernel_rfl
theorem z119:zeroP Tryz.prog 119=[.s (.string "".toUTF8),.s (.int .i64 0),.s (.bool false)]:=by kernel_rfl
theorem f119_0:fieldP Tryz.prog 119 0=some (0,9):=by kernel_rfl
theorem f119_1:fieldP Tryz.prog 119 1=some (1,3):=by kernel_rfl
theorem f119_2:fieldP Tryz.prog 119 2=some (2,4):=by kernel_rfl
theorem c120: Tryz.prog.cellsOf 120=3:=by kernel_rfl
theorem b120: Tryz.prog.bytesOf 120=32:=by kernel_rfl
theorem a120:aggP Tryz.prog 120=true:=by kernel_rfl
theorem t120:tyOk Tryz.prog 120=true:=by kernel_rfl
theorem z120:zeroP Tryz.prog 120=[.s (.string "".toUTF8),.s (.int .i64 0),.s (.bool false)]:=by kernel_rfl
theorem f120_0:fieldP Tryz.prog 120 0=some (0,9):=by kernel_rfl
theorem f120_1:fieldP Tryz.prog 120 1=some (1,3):=by kernel_rfl
theorem f120_2:fieldP Tryz.prog 120 2=some (2,4):=by kernel_rfl
theorem c121: Tryz.prog.cellsOf 121=1:=by kernel_rfl
theorem a121:aggP Tryz.prog 121=false:=by kernel_rfl
theorem t121:tyOk Tryz.prog 121=true:=by kernel_rfl
theorem z121:zeroP Tryz.prog 121=[.s .nilFunc]:=by kernel_rfl
theorem b121: Tryz.prog.bytesOf 121=8:=by kernel_rfl
theorem c122: Tryz.prog.cellsOf 122=1:=by kernel_rfl
theorem b122: Tryz.prog.bytesOf 122=8:=by kernel_rfl
theorem a122:aggP Tryz.prog 122=false:=by kernel_rfl
theorem t122:tyOk Tryz.prog 122=true:=by kernel_rfl
theorem z122:zeroP Tryz.prog 122=[.s (.pointer none)]:=by kernel_rfl
theorem e122:elemP Tryz.prog 122=215:=by kernel_rfl
theorem pt122:ptT Tryz.prog 122=true:=by kernel_rfl
theorem c123: Tryz.prog.cellsOf 123=1:=by kernel_rfl
theorem a123:aggP Tryz.prog 123=false:=by kernel_rfl
theorem t123:tyOk Tryz.prog 123=true:=by kernel_rfl
theorem z123:zeroP Tryz.prog 123=[.s .nilFunc]:=by kernel_rfl
theorem b123: Tryz.prog.bytesOf 123=8:=by kernel_rfl
theorem c124: Tryz.prog.cellsOf 124=1:=by kernel_rfl
theorem a124:aggP Tryz.prog 124=false:=by kernel_rfl
theorem t124:tyOk Tryz.prog 124=true:=by kernel_rfl
theorem z124:zeroP Tryz.prog 124=[.s .nilFunc]:=by kernel_rfl
theorem b124: Tryz.prog.bytesOf 124=8:=by kernel_rfl
theorem c125: Tryz.prog.cellsOf 125=1:=by kernel_rfl
theorem b125: Tryz.prog.bytesOf 125=8:=by kernel_rfl
theorem a125:aggP Tryz.prog 125=false:=by kernel_rfl
theorem t125:tyOk Tryz.prog 125=true:=by kernel_rfl
theorem z125:zeroP Tryz.prog 125=[.s (.pointer none)]:=by kernel_rfl
theorem e125:elemP Tryz.prog 125=129:=by kernel_rfl
theorem pt125:ptT Tryz.prog 125=true:=by kernel_rfl
theorem c126: Tryz.prog.cellsOf 126=1:=by kernel_rfl
theorem b126: Tryz.prog.bytesOf 126=24:=by kernel_rfl
theorem a126:aggP Tryz.prog 126=false:=by kernel_rfl
theorem t126:tyOk Tryz.prog 126=true:=by kernel_rfl
theorem z126:zeroP Tryz.prog 126=[.z]:=by kernel_rfl
theorem e126:elemP Tryz.prog 126=284:=by kernel_rfl
theorem sl126:slT Tryz.prog 126=true:=by kernel_rfl
theorem c127: Tryz.prog.cellsOf 127=1:=by kernel_rfl
theorem b127: Tryz.prog.bytesOf 127=24:=by kernel_rfl
theorem a127:aggP Tryz.prog 127=false:=by kernel_rfl
theorem t127:tyOk Tryz.prog 127=true:=by kernel_rfl
theorem z127:zeroP Tryz.prog 127=[.z]:=by kernel_rfl
theorem e127:elemP Tryz.prog 127=132:=by kernel_rfl
theorem sl127:slT Tryz.prog 127=true:=by kernel_rfl
theorem c128: Tryz.prog.cellsOf 128=9:=by kernel_rfl
theorem b128: Tryz.prog.bytesOf 128=128:=by kernel_rfl
theorem a128:aggP Tryz.prog 128=true:=by kernel_rfl
theorem t128:tyOk Tryz.prog 128=true:=by kernel_rfl
theorem z128:zeroP Tryz.prog 128=[.z,.z,.z,.z,.s (.int .i64 0),.s (.int .i64 0),.s (.int .i64 0),.s (.bool false),.s (.bool false)]:=by kernel_rfl
theorem f128_0:fieldP Tryz.prog 128 0=some (0,31):=by kernel_rfl
theorem f128_1:fieldP Tryz.prog 128 1=some (1,126):=by kernel_rfl
theorem f128_2:fieldP Tryz.prog 128 2=some (2,127):=by kernel_rfl
theorem f128_3:fieldP Tryz.prog 128 3=some (3,35):=by kernel_rfl
theorem f128_4:fieldP Tryz.prog 128 4=some (4,3):=by kernel_rfl
theorem f128_5:fieldP Tryz.prog 128 5=some (5,3):=by kernel_rfl
theorem f128_6:fieldP Tryz.prog 128 6=some (6,3):=by kernel_rfl
theorem f128_7:fieldP Tryz.prog 128 7=some (7,4):=by kernel_rfl
theorem f128_8:fieldP Tryz.prog 128 8=some (8,4):=by kernel_rfl
theorem c129: Tryz.prog.cellsOf 129=9:=by kernel_rfl
theorem b129: Tryz.prog.bytesOf 129=128:=by kernel_rfl
theorem a129:aggP Tryz.prog 129=true:=by kernel_rfl
theorem t129:tyOk Tryz.prog 129=true:=by kernel_rfl
theorem z129:zeroP Tryz.prog 129=[.z,.z,.z,.z,.s (.int .i64 0),.s (.int .i64 0),.s (.int .i64 0),.s (.bool false),.s (.bool false)]:=by kernel_rfl
theorem f129_0:fieldP Tryz.prog 129 0=some (0,31):=by kernel_rfl
theorem f129_1:fieldP Tryz.prog 129 1=some (1,126):=by kernel_rfl
theorem f129_2:fieldP Tryz.prog 129 2=some (2,127):=by kernel_rfl
theorem f129_3:fieldP Tryz.prog 129 3=some (3,35):=by kernel_rfl
theorem f129_4:fieldP Tryz.prog 129 4=some (4,3):=by kernel_rfl
theorem f129_5:fieldP Tryz.prog 129 5=some (5,3):=by kernel_rfl
theorem f129_6:fieldP Tryz.prog 129 6=some (6,3):=by kernel_rfl
theorem f129_7:fieldP Tryz.prog 129 7=some (7,4):=by kernel_rfl
theorem f129_8:fieldP Tryz.prog 129 8=some (8,4):=by kernel_rfl
theorem c131: Tryz.prog.cellsOf 131=1:=by kernel_rfl
theorem a131:aggP Tryz.prog 131=false:=by kernel_rfl
theorem t131:tyOk Tryz.prog 131=true:=by kernel_rfl
theorem z131:zeroP Tryz.prog 131=[.s .nilFunc]:=by kernel_rfl
theorem b131: Tryz.prog.bytesOf 131=8:=by kernel_rfl
theorem c132: Tryz.prog.cellsOf 132=1:=by kernel_rfl
theorem b132: Tryz.prog.bytesOf 132=8:=by kernel_rfl
theorem a132:aggP Tryz.prog 132=false:=by kernel_rfl
theorem t132:tyOk Tryz.prog 132=true:=by kernel_rfl
theorem z132:zeroP Tryz.prog 132=[.s (.pointer none)]:=by kernel_rfl
theorem e132:elemP Tryz.prog 132=217:=by kernel_rfl
theorem pt132:ptT Tryz.prog 132=true:=by kernel_rfl
theorem c133: Tryz.prog.cellsOf 133=1:=by kernel_rfl
theorem a133:aggP Tryz.prog 133=false:=by kernel_rfl
theorem t133:tyOk Tryz.prog 133=true:=by kernel_rfl
theorem z133:zeroP Tryz.prog 133=[.s .nilFunc]:=by kernel_rfl
theorem b133: Tryz.prog.bytesOf 133=8:=by kernel_rfl
theorem c134: Tryz.prog.cellsOf 134=1:=by kernel_rfl
theorem a134:aggP Tryz.prog 134=false:=by kernel_rfl
theorem t134:tyOk Tryz.prog 134=true:=by kernel_rfl
theorem z134:zeroP Tryz.prog 134=[.s .nilFunc]:=by kernel_rfl
theorem b134: Tryz.prog.bytesOf 134=8:=by kernel_rfl
theorem c135: Tryz.prog.cellsOf 135=1:=by kernel_rfl
theorem a135:aggP Tryz.prog 135=false:=by kernel_rfl
theorem t135:tyOk Tryz.prog 135=true:=by kernel_rfl
theorem z135:zeroP Tryz.prog 135=[.s .nilFunc]:=by kernel_rfl
theorem b135: Tryz.prog.bytesOf 135=8:=by kernel_rfl
theorem c136: Tryz.prog.cellsOf 136=1:=by kernel_rfl
theorem a136:aggP Tryz.prog 136=false:=by kernel_rfl
theorem t136:tyOk Tryz.prog 136=true:=by kernel_rfl
theorem z136:zeroP Tryz.prog 136=[.s .nilFunc]:=by kernel_rfl
theorem b136: Tryz.prog.bytesOf 136=8:=by kernel_rfl
theorem c137: Tryz.prog.cellsOf 137=1:=by kernel_rfl
theorem a137:aggP Tryz.prog 137=false:=by kernel_rfl
theorem t137:tyOk Tryz.prog 137=true:=by kernel_rfl
theorem z137:zeroP Tryz.prog 137=[.s .nilFunc]:=by kernel_rfl
theorem b137: Tryz.prog.bytesOf 137=8:=by kernel_rfl
theorem c138: Tryz.prog.cellsOf 138=1:=by kernel_rfl
theorem a138:aggP Tryz.prog 138=false:=by kernel_rfl
theorem t138:tyOk Tryz.prog 138=true:=by kernel_rfl
theorem z138:zeroP Tryz.prog 138=[.s .nilFunc]:=by kernel_rfl
theorem b138: Tryz.prog.bytesOf 138=8:=by kernel_rfl
theorem c139: Tryz.prog.cellsOf 139=1:=by kernel_rfl
theorem a139:aggP Tryz.prog 139=false:=by kernel_rfl
theorem t139:tyOk Tryz.prog 139=true:=by kernel_rfl
theorem z139:zeroP Tryz.prog 139=[.s .nilFunc]:=by kernel_rfl
theorem b139: Tryz.prog.bytesOf 139=8:=by kernel_rfl
theorem c140: Tryz.prog.cellsOf 140=1:=by kernel_rfl
theorem a140:aggP Tryz.prog 140=false:=by kernel_rfl
theorem t140:tyOk Tryz.prog 140=true:=by kernel_rfl
theorem z140:zeroP Tryz.prog 140=[.s .nilFunc]:=by kernel_rfl
theorem b140: Tryz.prog.bytesOf 140=8:=by kernel_rfl
theorem c141: Tryz.prog.cellsOf 141=1:=by kernel_rfl
theorem a141:aggP Tryz.prog 141=false:=by kernel_rfl
theorem t141:tyOk Tryz.prog 141=true:=by kernel_rfl
theorem z141:zeroP Tryz.prog 141=[.s .nilFunc]:=by kernel_rfl
theorem b141: Tryz.prog.bytesOf 141=8:=by kernel_rfl
theorem c142: Tryz.prog.cellsOf 142=1:=by kernel_rfl
theorem a142:aggP Tryz.prog 142=false:=by kernel_rfl
theorem t142:tyOk Tryz.prog 142=true:=by kernel_rfl
theorem z142:zeroP Tryz.prog 142=[.s .nilFunc]:=by kernel_rfl
theorem b142: Tryz.prog.bytesOf 142=8:=by kernel_rfl
theorem c143: Tryz.prog.cellsOf 143=1:=by kernel_rfl
theorem a143:aggP Tryz.prog 143=false:=by kernel_rfl
theorem t143:tyOk Tryz.prog 143=true:=by kernel_rfl
theorem z143:zeroP Tryz.prog 143=[.s .nilFunc]:=by kernel_rfl
theorem b143: Tryz.prog.bytesOf 143=8:=by kernel_rfl
theorem c144: Tryz.prog.cellsOf 144=1:=by kernel_rfl
theorem a144:aggP Tryz.prog 144=false:=by kernel_rfl
theorem t144:tyOk Tryz.prog 144=true:=by kernel_rfl
theorem z144:zeroP Tryz.prog 144=[.s .nilFunc]:=by kernel_rfl
theorem b144: Tryz.prog.bytesOf 144=8:=by kernel_rfl
theorem c145: Tryz.prog.cellsOf 145=1:=by kernel_rfl
theorem a145:aggP Tryz.prog 145=false:=by kernel_rfl
theorem t145:tyOk Tryz.prog 145=true:=by kernel_rfl
theorem z145:zeroP Tryz.prog 145=[.s .nilFunc]:=by kernel_rfl
theorem b145: Tryz.prog.bytesOf 145=8:=by kernel_rfl
theorem c146: Tryz.prog.cellsOf 146=1:=by kernel_rfl
theorem a146:aggP Tryz.prog 146=false:=by kernel_rfl
theorem t146:tyOk Tryz.prog 146=true:=by kernel_rfl
theorem z146:zeroP Tryz.prog 146=[.s .nilFunc]:=by kernel_rfl
theorem b146: Tryz.prog.bytesOf 146=8:=by kernel_rfl
theorem c147: Tryz.prog.cellsOf 147=1:=by kernel_rfl
theorem a147:aggP Tryz.prog 147=false:=by kernel_rfl
theorem t147:tyOk Tryz.prog 147=true:=by kernel_rfl
theorem z147:zeroP Tryz.prog 147=[.s .nilFunc]:=by kernel_rfl
theorem b147: Tryz.prog.bytesOf 147=8:=by kernel_rfl
theorem c148: Tryz.prog.cellsOf 148=1:=by kernel_rfl
theorem b148: Tryz.prog.bytesOf 148=8:=by kernel_rfl
theorem a148:aggP Tryz.prog 148=false:=by kernel_rfl
theorem t148:tyOk Tryz.prog 148=true:=by kernel_rfl
theorem z148:zeroP Tryz.prog 148=[.s (.pointer none)]:=by kernel_rfl
theorem e148:elemP Tryz.prog 148=69:=by kernel_rfl
theorem pt148:ptT Tryz.prog 148=true:=by kernel_rfl
theorem c149: Tryz.prog.cellsOf 149=1:=by kernel_rfl
theorem a149:aggP Tryz.prog 149=false:=by kernel_rfl
theorem t149:tyOk Tryz.prog 149=true:=by kernel_rfl
theorem z149:zeroP Tryz.prog 149=[.s .nilFunc]:=by kernel_rfl
theorem b149: Tryz.prog.bytesOf 149=8:=by kernel_rfl
theorem c150: Tryz.prog.cellsOf 150=1:=by kernel_rfl
theorem a150:aggP Tryz.prog 150=false:=by kernel_rfl
theorem t150:tyOk Tryz.prog 150=true:=by kernel_rfl
theorem z150:zeroP Tryz.prog 150=[.s .nilFunc]:=by kernel_rfl
theorem b150: Tryz.prog.bytesOf 150=8:=by kernel_rfl
theorem c151: Tryz.prog.cellsOf 151=1:=by kernel_rfl
theorem a151:aggP Tryz.prog 151=false:=by kernel_rfl
theorem t151:tyOk Tryz.prog 151=true:=by kernel_rfl
theorem z151:zeroP Tryz.prog 151=[.s .nilFunc]:=by kernel_rfl
theorem b151: Tryz.prog.bytesOf 151=8:=by kernel_rfl
theorem c152: Tryz.prog.cellsOf 152=1:=by kernel_rfl
theorem b152: Tryz.prog.bytesOf 152=8:=by kernel_rfl
theorem a152:aggP Tryz.prog 152=false:=by kernel_rfl
theorem t152:tyOk Tryz.prog 152=true:=by kernel_rfl
theorem z152:zeroP Tryz.prog 152=[.s (.pointer none)]:=by kernel_rfl
theorem e152:elemP Tryz.prog 152=48:=by kernel_rfl
theorem pt152:ptT Tryz.prog 152=true:=by kernel_rfl
theorem c153: Tryz.prog.cellsOf 153=1:=by kernel_rfl
theorem a153:aggP Tryz.prog 153=false:=by kernel_rfl
theorem t153:tyOk Tryz.prog 153=true:=by kernel_rfl
theorem z153:zeroP Tryz.prog 153=[.s .nilFunc]:=by kernel_rfl
theorem b153: Tryz.prog.bytesOf 153=8:=by kernel_rfl
theorem c154: Tryz.prog.cellsOf 154=1:=by kernel_rfl
theorem a154:aggP Tryz.prog 154=false:=by kernel_rfl
theorem t154:tyOk Tryz.prog 154=true:=by kernel_rfl
theorem z154:zeroP Tryz.prog 154=[.s .nilFunc]:=by kernel_rfl
theorem b154: Tryz.prog.bytesOf 154=8:=by kernel_rfl
theorem c155: Tryz.prog.cellsOf 155=1:=by kernel_rfl
theorem b155: Tryz.prog.bytesOf 155=8:=by kernel_rfl
theorem a155:aggP Tryz.prog 155=false:=by kernel_rfl
theorem t155:tyOk Tryz.prog 155=true:=by kernel_rfl
theorem z155:zeroP Tryz.prog 155=[.s (.pointer none)]:=by kernel_rfl
theorem e155:elemP Tryz.prog 155=160:=by kernel_rfl
theorem pt155:ptT Tryz.prog 155=true:=by kernel_rfl
theorem c156: Tryz.prog.cellsOf 156=1:=by kernel_rfl
theorem b156: Tryz.prog.bytesOf 156=8:=by kernel_rfl
theorem a156:aggP Tryz.prog 156=false:=by kernel_rfl
theorem t156:tyOk Tryz.prog 156=true:=by kernel_rfl
theorem z156:zeroP Tryz.prog 156=[.s (.pointer none)]:=by kernel_rfl
theorem e156:elemP Tryz.prog 156=158:=by kernel_rfl
theorem pt156:ptT Tryz.prog 156=true:=by kernel_rfl
theorem c157: Tryz.prog.cellsOf 157=2:=by kernel_rfl
theorem b157: Tryz.prog.bytesOf 157=32:=by kernel_rfl
theorem a157:aggP Tryz.prog 157=true:=by kernel_rfl
theorem t157:tyOk Tryz.prog 157=true:=by kernel_rfl
theorem z157:zeroP Tryz.prog 157=[.s (.pointer none),.z]:=by kernel_rfl
theorem f157_0:fieldP Tryz.prog 157 0=some (0,156):=by kernel_rfl
theorem f157_1:fieldP Tryz.prog 157 1=some (1,22):=by kernel_rfl
theorem c158: Tryz.prog.cellsOf 158=2:=by kernel_rfl
theorem b158: Tryz.prog.bytesOf 158=32:=by kernel_rfl
theorem a158:aggP Tryz.prog 158=true:=by kernel_rfl
theorem t158:tyOk Tryz.prog 158=true:=by kernel_rfl
theorem z158:zeroP Tryz.prog 158=[.s (.pointer none),.z]:=by kernel_rfl
theorem f158_0:fieldP Tryz.prog 158 0=some (0,156):=by kernel_rfl
theorem f158_1:fieldP Tryz.prog 158 1=some (1,22):=by kernel_rfl
theorem c159: Tryz.prog.cellsOf 159=2:=by kernel_rfl
theorem b159: Tryz.prog.bytesOf 159=32:=by kernel_rfl
theorem a159:aggP Tryz.prog 159=true:=by kernel_rfl
theorem t159:tyOk Tryz.prog 159=true:=by kernel_rfl
theorem z159:zeroP Tryz.prog 159=[.s (.pointer none),.z]:=by kernel_rfl
theorem f159_0:fieldP Tryz.prog 159 0=some (0,158):=by kernel_rfl
theorem c160: Tryz.prog.cellsOf 160=2:=by kernel_rfl
theorem b160: Tryz.prog.bytesOf 160=32:=by kernel_rfl
theorem a160:aggP Tryz.prog 160=true:=by kernel_rfl
theorem t160:tyOk Tryz.prog 160=true:=by kernel_rfl
theorem z160:zeroP Tryz.prog 160=[.s (.pointer none),.z]:=by kernel_rfl
theorem f160_0:fieldP Tryz.prog 160 0=some (0,158):=by kernel_rfl
theorem c161: Tryz.prog.cellsOf 161=1:=by kernel_rfl
theorem a161:aggP Tryz.prog 161=false:=by kernel_rfl
theorem t161:tyOk Tryz.prog 161=true:=by kernel_rfl
theorem z161:zeroP Tryz.prog 161=[.s .nilFunc]:=by kernel_rfl
theorem b161: Tryz.prog.bytesOf 161=8:=by kernel_rfl
theorem c162: Tryz.prog.cellsOf 162=1:=by kernel_rfl
theorem a162:aggP Tryz.prog 162=false:=by kernel_rfl
theorem t162:tyOk Tryz.prog 162=true:=by kernel_rfl
theorem z162:zeroP Tryz.prog 162=[.s .nilFunc]:=by kernel_rfl
theorem b162: Tryz.prog.bytesOf 162=8:=by kernel_rfl
theorem c163: Tryz.prog.cellsOf 163=1:=by kernel_rfl
theorem a163:aggP Tryz.prog 163=false:=by kernel_rfl
theorem t163:tyOk Tryz.prog 163=true:=by kernel_rfl
theorem z163:zeroP Tryz.prog 163=[.s .nilFunc]:=by kernel_rfl
theorem b163: Tryz.prog.bytesOf 163=8:=by kernel_rfl
theorem c164: Tryz.prog.cellsOf 164=1:=by kernel_rfl
theorem a164:aggP Tryz.prog 164=false:=by kernel_rfl
theorem t164:tyOk Tryz.prog 164=true:=by kernel_rfl
theorem z164:zeroP Tryz.prog 164=[.s .nilFunc]:=by kernel_rfl
theorem b164: Tryz.prog.bytesOf 164=8:=by kernel_rfl
theorem c165: Tryz.prog.cellsOf 165=1:=by kernel_rfl
theorem a165:aggP Tryz.prog 165=false:=by kernel_rfl
theorem t165:tyOk Tryz.prog 165=true:=by kernel_rfl
theorem z165:zeroP Tryz.prog 165=[.s .nilFunc]:=by kernel_rfl
theorem b165: Tryz.prog.bytesOf 165=8:=by kernel_rfl
theorem c166: Tryz.prog.cellsOf 166=1:=by kernel_rfl
theorem a166:aggP Tryz.prog 166=false:=by kernel_rfl
theorem t166:tyOk Tryz.prog 166=true:=by kernel_rfl
theorem z166:zeroP Tryz.prog 166=[.s .nilFunc]:=by kernel_rfl
theorem b166: Tryz.prog.bytesOf 166=8:=by kernel_rfl
theorem c167: Tryz.prog.cellsOf 167=1:=by kernel_rfl
theorem a167:aggP Tryz.prog 167=false:=by kernel_rfl
theorem t167:tyOk Tryz.prog 167=true:=by kernel_rfl
theorem z167:zeroP Tryz.prog 167=[.s .nilFunc]:=by kernel_rfl
theorem b167: Tryz.prog.bytesOf 167=8:=by kernel_rfl
theorem c168: Tryz.prog.cellsOf 168=1:=by kernel_rfl
theorem a168:aggP Tryz.prog 168=false:=by kernel_rfl
theorem t168:tyOk Tryz.prog 168=true:=by kernel_rfl
theorem z168:zeroP Tryz.prog 168=[.s .nilFunc]:=by kernel_rfl
theorem b168: Tryz.prog.bytesOf 168=8:=by kernel_rfl
theorem c169: Tryz.prog.cellsOf 169=1:=by kernel_rfl
theorem a169:aggP Tryz.prog 169=false:=by kernel_rfl
theorem t169:tyOk Tryz.prog 169=true:=by kernel_rfl
theorem z169:zeroP Tryz.prog 169=[.s .nilFunc]:=by kernel_rfl
theorem b169: Tryz.prog.bytesOf 169=8:=by kernel_rfl
theorem c170: Tryz.prog.cellsOf 170=1:=by kernel_rfl
theorem a170:aggP Tryz.prog 170=false:=by kernel_rfl
theorem t170:tyOk Tryz.prog 170=true:=by kernel_rfl
theorem z170:zeroP Tryz.prog 170=[.s .nilFunc]:=by kernel_rfl
theorem b170: Tryz.prog.bytesOf 170=8:=by kernel_rfl
theorem c171: Tryz.prog.cellsOf 171=1:=by kernel_rfl
theorem a171:aggP Tryz.prog 171=false:=by kernel_rfl
theorem t171:tyOk Tryz.prog 171=true:=by kernel_rfl
theorem z171:zeroP Tryz.prog 171=[.s .nilFunc]:=by kernel_rfl
theorem b171: Tryz.prog.bytesOf 171=8:=by kernel_rfl
theorem c172: Tryz.prog.cellsOf 172=1:=by kernel_rfl
theorem a172:aggP Tryz.prog 172=false:=by kernel_rfl
theorem t172:tyOk Tryz.prog 172=true:=by kernel_rfl
theorem z172:zeroP Tryz.prog 172=[.s .nilFunc]:=by kernel_rfl
theorem b172: Tryz.prog.bytesOf 172=8:=by kernel_rfl
theorem c173: Tryz.prog.cellsOf 173=0:=by kernel_rfl
theorem b173: Tryz.prog.bytesOf 173=0:=by kernel_rfl
theorem a173:aggP Tryz.prog 173=true:=by kernel_rfl
theorem t173:tyOk Tryz.prog 173=true:=by kernel_rfl
theorem z173:zeroP Tryz.prog 173=[]:=by kernel_rfl
theorem c174: Tryz.prog.cellsOf 174=0:=by kernel_rfl
theorem b174: Tryz.prog.bytesOf 174=0:=by kernel_rfl
theorem a174:aggP Tryz.prog 174=true:=by kernel_rfl
theorem t174:tyOk Tryz.prog 174=true:=by kernel_rfl
theorem z174:zeroP Tryz.prog 174=[]:=by kernel_rfl
theorem c176: Tryz.prog.cellsOf 176=1:=by kernel_rfl
theorem b176: Tryz.prog.bytesOf 176=8:=by kernel_rfl
theorem a176:aggP Tryz.prog 176=false:=by kernel_rfl
theorem t176:tyOk Tryz.prog 176=true:=by kernel_rfl
theorem z176:zeroP Tryz.prog 176=[.s (.pointer none)]:=by kernel_rfl
theorem e176:elemP Tryz.prog 176=179:=by kernel_rfl
theorem pt176:ptT Tryz.prog 176=true:=by kernel_rfl
theorem c177: Tryz.prog.cellsOf 177=1:=by kernel_rfl
theorem b177: Tryz.prog.bytesOf 177=24:=by kernel_rfl
theorem a177:aggP Tryz.prog 177=false:=by kernel_rfl
theorem t177:tyOk Tryz.prog 177=true:=by kernel_rfl
theorem z177:zeroP Tryz.prog 177=[.z]:=by kernel_rfl
theorem e177:elemP Tryz.prog 177=23:=by kernel_rfl
theorem sl177:slT Tryz.prog 177=true:=by kernel_rfl
theorem c178: Tryz.prog.cellsOf 178=1:=by kernel_rfl
theorem b178: Tryz.prog.bytesOf 178=24:=by kernel_rfl
theorem a178:aggP Tryz.prog 178=true:=by kernel_rfl
theorem t178:tyOk Tryz.prog 178=true:=by kernel_rfl
theorem z178:zeroP Tryz.prog 178=[.z]:=by kernel_rfl
theorem f178_0:fieldP Tryz.prog 178 0=some (0,177):=by kernel_rfl
theorem c179: Tryz.prog.cellsOf 179=1:=by kernel_rfl
theorem b179: Tryz.prog.bytesOf 179=24:=by kernel_rfl
theorem a179:aggP Tryz.prog 179=true:=by kernel_rfl
theorem t179:tyOk Tryz.prog 179=true:=by kernel_rfl
theorem z179:zeroP Tryz.prog 179=[.z]:=by kernel_rfl
theorem f179_0:fieldP Tryz.prog 179 0=some (0,177):=by kernel_rfl
theorem c180: Tryz.prog.cellsOf 180=1:=by kernel_rfl
theorem a180:aggP Tryz.prog 180=false:=by kernel_rfl
theorem t180:tyOk Tryz.prog 180=true:=by kernel_rfl
theorem z180:zeroP Tryz.prog 180=[.s .nilFunc]:=by kernel_rfl
theorem b180: Tryz.prog.bytesOf 180=8:=by kernel_rfl
theorem c181: Tryz.prog.cellsOf 181=1:=by kernel_rfl
theorem a181:aggP Tryz.prog 181=false:=by kernel_rfl
theorem t181:tyOk Tryz.prog 181=true:=by kernel_rfl
theorem z181:zeroP Tryz.prog 181=[.s .nilFunc]:=by kernel_rfl
theorem b181: Tryz.prog.bytesOf 181=8:=by kernel_rfl
theorem c182: Tryz.prog.cellsOf 182=1:=by kernel_rfl
theorem a182:aggP Tryz.prog 182=false:=by kernel_rfl
theorem t182:tyOk Tryz.prog 182=true:=by kernel_rfl
theorem z182:zeroP Tryz.prog 182=[.s .nilFunc]:=by kernel_rfl
theorem b182: Tryz.prog.bytesOf 182=8:=by kernel_rfl
theorem c183: Tryz.prog.cellsOf 183=1:=by kernel_rfl
theorem a183:aggP Tryz.prog 183=false:=by kernel_rfl
theorem t183:tyOk Tryz.prog 183=true:=by kernel_rfl
theorem z183:zeroP Tryz.prog 183=[.s .nilFunc]:=by kernel_rfl
theorem b183: Tryz.prog.bytesOf 183=8:=by kernel_rfl
theorem c184: Tryz.prog.cellsOf 184=1:=by kernel_rfl
theorem a184:aggP Tryz.prog 184=false:=by kernel_rfl
theorem t184:tyOk Tryz.prog 184=true:=by kernel_rfl
theorem z184:zeroP Tryz.prog 184=[.s .nilFunc]:=by kernel_rfl
theorem b184: Tryz.prog.bytesOf 184=8:=by kernel_rfl
theorem c185: Tryz.prog.cellsOf 185=1:=by kernel_rfl
theorem a185:aggP Tryz.prog 185=false:=by kernel_rfl
theorem t185:tyOk Tryz.prog 185=true:=by kernel_rfl
theorem z185:zeroP Tryz.prog 185=[.s .nilFunc]:=by kernel_rfl
theorem b185: Tryz.prog.bytesOf 185=8:=by kernel_rfl
theorem c186: Tryz.prog.cellsOf 186=1:=by kernel_rfl
theorem a186:aggP Tryz.prog 186=false:=by kernel_rfl
theorem t186:tyOk Tryz.prog 186=true:=by kernel_rfl
theorem z186:zeroP Tryz.prog 186=[.s .nilFunc]:=by kernel_rfl
theorem b186: Tryz.prog.bytesOf 186=8:=by kernel_rfl
theorem c187: Tryz.prog.cellsOf 187=1:=by kernel_rfl
theorem a187:aggP Tryz.prog 187=false:=by kernel_rfl
theorem t187:tyOk Tryz.prog 187=true:=by kernel_rfl
theorem z187:zeroP Tryz.prog 187=[.s .nilFunc]:=by kernel_rfl
theorem b187: Tryz.prog.bytesOf 187=8:=by kernel_rfl
theorem c188: Tryz.prog.cellsOf 188=1:=by kernel_rfl
theorem a188:aggP Tryz.prog 188=false:=by kernel_rfl
theorem t188:tyOk Tryz.prog 188=true:=by kernel_rfl
theorem z188:zeroP Tryz.prog 188=[.s .nilFunc]:=by kernel_rfl
theorem b188: Tryz.prog.bytesOf 188=8:=by kernel_rfl
theorem c189: Tryz.prog.cellsOf 189=1:=by kernel_rfl
theorem a189:aggP Tryz.prog 189=false:=by kernel_rfl
theorem t189:tyOk Tryz.prog 189=true:=by kernel_rfl
theorem z189:zeroP Tryz.prog 189=[.s .nilFunc]:=by kernel_rfl
theorem b189: Tryz.prog.bytesOf 189=8:=by kernel_rfl
theorem c190: Tryz.prog.cellsOf 190=1:=by kernel_rfl
theorem a190:aggP Tryz.prog 190=false:=by kernel_rfl
theorem t190:tyOk Tryz.prog 190=true:=by kernel_rfl
theorem z190:zeroP Tryz.prog 190=[.s .nilFunc]:=by kernel_rfl
theorem b190: Tryz.prog.bytesOf 190=8:=by kernel_rfl
theorem c191: Tryz.prog.cellsOf 191=1:=by kernel_rfl
theorem a191:aggP Tryz.prog 191=false:=by kernel_rfl
theorem t191:tyOk Tryz.prog 191=true:=by kernel_rfl
theorem z191:zeroP Tryz.prog 191=[.s .nilFunc]:=by kernel_rfl
theorem b191: Tryz.prog.bytesOf 191=8:=by kernel_rfl
theorem c192: Tryz.prog.cellsOf 192=1:=by kernel_rfl
theorem a192:aggP Tryz.prog 192=false:=by kernel_rfl
theorem t192:tyOk Tryz.prog 192=true:=by kernel_rfl
theorem z192:zeroP Tryz.prog 192=[.s .nilFunc]:=by kernel_rfl
theorem b192: Tryz.prog.bytesOf 192=8:=by kernel_rfl
theorem c193: Tryz.prog.cellsOf 193=1:=by kernel_rfl
theorem b193: Tryz.prog.bytesOf 193=8:=by kernel_rfl
theorem a193:aggP Tryz.prog 193=false:=by kernel_rfl
theorem t193:tyOk Tryz.prog 193=true:=by kernel_rfl
theorem z193:zeroP Tryz.prog 193=[.s (.map none)]:=by kernel_rfl
theorem c194: Tryz.prog.cellsOf 194=1:=by kernel_rfl
theorem a194:aggP Tryz.prog 194=false:=by kernel_rfl
theorem t194:tyOk Tryz.prog 194=true:=by kernel_rfl
theorem z194:zeroP Tryz.prog 194=[.s .nilFunc]:=by kernel_rfl
theorem b194: Tryz.prog.bytesOf 194=8:=by kernel_rfl
theorem c195: Tryz.prog.cellsOf 195=1:=by kernel_rfl
theorem a195:aggP Tryz.prog 195=false:=by kernel_rfl
theorem t195:tyOk Tryz.prog 195=true:=by kernel_rfl
theorem z195:zeroP Tryz.prog 195=[.s .nilFunc]:=by kernel_rfl
theorem b195: Tryz.prog.bytesOf 195=8:=by kernel_rfl
theorem c196: Tryz.prog.cellsOf 196=1:=by kernel_rfl
theorem b196: Tryz.prog.bytesOf 196=24:=by kernel_rfl
theorem a196:aggP Tryz.prog 196=false:=by kernel_rfl
theorem t196:tyOk Tryz.prog 196=true:=by kernel_rfl
theorem z196:zeroP Tryz.prog 196=[.z]:=by kernel_rfl
theorem e196:elemP Tryz.prog 196=201:=by kernel_rfl
theorem sl196:slT Tryz.prog 196=true:=by kernel_rfl
theorem c198: Tryz.prog.cellsOf 198=1:=by kernel_rfl
theorem a198:aggP Tryz.prog 198=false:=by kernel_rfl
theorem t198:tyOk Tryz.prog 198=true:=by kernel_rfl
theorem z198:zeroP Tryz.prog 198=[.s .nilFunc]:=by kernel_rfl
theorem b198: Tryz.prog.bytesOf 198=8:=by kernel_rfl
theorem c199: Tryz.prog.cellsOf 199=1:=by kernel_rfl
theorem b199: Tryz.prog.bytesOf 199=8:=by kernel_rfl
theorem a199:aggP Tryz.prog 199=false:=by kernel_rfl
theorem t199:tyOk Tryz.prog 199=true:=by kernel_rfl
theorem z199:zeroP Tryz.prog 199=[.s (.int .u64 0)]:=by kernel_rfl
theorem c200: Tryz.prog.cellsOf 200=20:=by kernel_rfl
theorem b200: Tryz.prog.bytesOf 200=160:=by kernel_rfl
theorem a200:aggP Tryz.prog 200=true:=by kernel_rfl
theorem t200:tyOk Tryz.prog 200=true:=by kernel_rfl
theorem z200:zeroP Tryz.prog 200=[.s (.int .u64 0),.s (.int .u64 0),.s (.int .u64 0),.s (.int .u64 0),.s (.int .u64 0),.s (.int .u64 0),.s (.int .u64 0),.s (.int .u64 0),.s (.int .u64 0),.s (.int .u64 0),.s (.int .u64 0),.s (.int .u64 0),.s (.int .u64 0),.s (.int .u64 0),.s (.int .u64 0),.s (.int .u64 0),.s (.int .u64 0),.s (.int .u64 0),.s (.int .u64 0),.s (.int .u64 0)]:=by kernel_rfl
theorem e200:elemP Tryz.prog 200=199:=by kernel_rfl
theorem ar200:arT Tryz.prog 200=true:=by kernel_rfl
theorem l200:lenP Tryz.prog 200=20:=by kernel_rfl
theorem c201: Tryz.prog.cellsOf 201=20:=by kernel_rfl
theorem b201: Tryz.prog.bytesOf 201=160:=by kernel_rfl
theorem a201:aggP Tryz.prog 201=true:=by kernel_rfl
theorem t201:tyOk Tryz.prog 201=true:=by kernel_rfl
theorem z201:zeroP Tryz.prog 201=[.s (.int .u64 0),.s (.int .u64 0),.s (.int .u64 0),.s (.int .u64 0),.s (.int .u64 0),.s (.int .u64 0),.s (.int .u64 0),.s (.int .u64 0),.s (.int .u64 0),.s (.int .u64 0),.s (.int .u64 0),.s (.int .u64 0),.s (.int .u64 0),.s (.int .u64 0),.s (.int .u64 0),.s (.int .u64 0),.s (.int .u64 0),.s (.int .u64 0),.s (.int .u64 0),.s (.int .u64 0)]:=by kernel_rfl
theorem e201:elemP Tryz.prog 201=199:=by kernel_rfl
theorem ar201:arT Tryz.prog 201=true:=by kernel_rfl
theorem l201:lenP Tryz.prog 201=20:=by kernel_rfl
theorem c203: Tryz.prog.cellsOf 203=1:=by kernel_rfl
theorem a203:aggP Tryz.prog 203=false:=by kernel_rfl
theorem t203:tyOk Tryz.prog 203=true:=by kernel_rfl
theorem z203:zeroP Tryz.prog 203=[.s .nilFunc]:=by kernel_rfl
theorem b203: Tryz.prog.bytesOf 203=8:=by kernel_rfl
theorem c204: Tryz.prog.cellsOf 204=1:=by kernel_rfl
theorem a204:aggP Tryz.prog 204=false:=by kernel_rfl
theorem t204:tyOk Tryz.prog 204=true:=by kernel_rfl
theorem z204:zeroP Tryz.prog 204=[.s .nilFunc]:=by kernel_rfl
theorem b204: Tryz.prog.bytesOf 204=8:=by kernel_rfl
theorem c205: Tryz.prog.cellsOf 205=9:=by kernel_rfl
theorem b205: Tryz.prog.bytesOf 205=160:=by kernel_rfl
theorem a205:aggP Tryz.prog 205=true:=by kernel_rfl
theorem t205:tyOk Tryz.prog 205=true:=by kernel_rfl
theorem z205:zeroP Tryz.prog 205=[.s (.string "".toUTF8),.s (.bool false),.s (.int .i64 0),.s (.int .u8 0),.z,.z,.z,.z,.z]:=by kernel_rfl
theorem f205_0:fieldP Tryz.prog 205 0=some (0,26):=by kernel_rfl
theorem f205_1:fieldP Tryz.prog 205 1=some (8,96):=by kernel_rfl
theorem c206: Tryz.prog.cellsOf 206=9:=by kernel_rfl
theorem b206: Tryz.prog.bytesOf 206=160:=by kernel_rfl
theorem a206:aggP Tryz.prog 206=true:=by kernel_rfl
theorem t206:tyOk Tryz.prog 206=true:=by kernel_rfl
theorem z206:zeroP Tryz.prog 206=[.s (.string "".toUTF8),.s (.bool false),.s (.int .i64 0),.s (.int .u8 0),.z,.z,.z,.z,.z]:=by kernel_rfl
theorem f206_0:fieldP Tryz.prog 206 0=some (0,26):=by kernel_rfl
theorem f206_1:fieldP Tryz.prog 206 1=some (8,96):=by kernel_rfl
theorem c207: Tryz.prog.cellsOf 207=1:=by kernel_rfl
theorem a207:aggP Tryz.prog 207=false:=by kernel_rfl
theorem t207:tyOk Tryz.prog 207=true:=by kernel_rfl
theorem z207:zeroP Tryz.prog 207=[.s .nilFunc]:=by kernel_rfl
theorem b207: Tryz.prog.bytesOf 207=8:=by kernel_rfl
theorem c208: Tryz.prog.cellsOf 208=1:=by kernel_rfl
theorem a208:aggP Tryz.prog 208=false:=by kernel_rfl
theorem t208:tyOk Tryz.prog 208=true:=by kernel_rfl
theorem z208:zeroP Tryz.prog 208=[.s .nilFunc]:=by kernel_rfl
theorem b208: Tryz.prog.bytesOf 208=8:=by kernel_rfl
theorem c209: Tryz.prog.cellsOf 209=1:=by kernel_rfl
theorem a209:aggP Tryz.prog 209=false:=by kernel_rfl
theorem t209:tyOk Tryz.prog 209=true:=by kernel_rfl
theorem z209:zeroP Tryz.prog 209=[.s .nilFunc]:=by kernel_rfl
theorem b209: Tryz.prog.bytesOf 209=8:=by kernel_rfl
theorem c210: Tryz.prog.cellsOf 210=1:=by kernel_rfl
theorem a210:aggP Tryz.prog 210=false:=by kernel_rfl
theorem t210:tyOk Tryz.prog 210=true:=by kernel_rfl
theorem z210:zeroP Tryz.prog 210=[.s .nilFunc]:=by kernel_rfl
theorem b210: Tryz.prog.bytesOf 210=8:=by kernel_rfl
theorem c211: Tryz.prog.cellsOf 211=1:=by kernel_rfl
theorem a211:aggP Tryz.prog 211=false:=by kernel_rfl
theorem t211:tyOk Tryz.prog 211=true:=by kernel_rfl
theorem z211:zeroP Tryz.prog 211=[.s .nilFunc]:=by kernel_rfl
theorem b211: Tryz.prog.bytesOf 211=8:=by kernel_rfl
theorem c212: Tryz.prog.cellsOf 212=1:=by kernel_rfl
theorem a212:aggP Tryz.prog 212=false:=by kernel_rfl
theorem t212:tyOk Tryz.prog 212=true:=by kernel_rfl
theorem z212:zeroP Tryz.prog 212=[.s .nilFunc]:=by kernel_rfl
theorem b212: Tryz.prog.bytesOf 212=8:=by kernel_rfl
theorem c213: Tryz.prog.cellsOf 213=1:=by kernel_rfl
theorem b213: Tryz.prog.bytesOf 213=8:=by kernel_rfl
theorem a213:aggP Tryz.prog 213=false:=by kernel_rfl
theorem t213:tyOk Tryz.prog 213=true:=by kernel_rfl
theorem z213:zeroP Tryz.prog 213=[.s (.map none)]:=by kernel_rfl
theorem c214: Tryz.prog.cellsOf 214=18:=by kernel_rfl
theorem b214: Tryz.prog.bytesOf 214=240:=by kernel_rfl
theorem a214:aggP Tryz.prog 214=true:=by kernel_rfl
theorem t214:tyOk Tryz.prog 214=true:=by kernel_rfl
theorem z214:zeroP Tryz.prog 214=[.s (.string "".toUTF8),.s (.bool false),.s (.int .i64 0),.s (.int .u8 0),.z,.z,.z,.z,.s (.map none),.s (.map none),.z,.z,.s (.map none),.s (.int .i64 0),.s (.int .i64 0),.s (.int .i64 0),.s (.bool false),.s (.bool false)]:=by kernel_rfl
theorem f214_0:fieldP Tryz.prog 214 0=some (0,93):=by kernel_rfl
theorem f214_1:fieldP Tryz.prog 214 1=some (10,35):=by kernel_rfl
theorem f214_2:fieldP Tryz.prog 214 2=some (11,35):=by kernel_rfl
theorem f214_3:fieldP Tryz.prog 214 3=some (12,213):=by kernel_rfl
theorem f214_4:fieldP Tryz.prog 214 4=some (13,3):=by kernel_rfl
theorem f214_5:fieldP Tryz.prog 214 5=some (14,3):=by kernel_rfl
theorem f214_6:fieldP Tryz.prog 214 6=some (15,3):=by kernel_rfl
theorem f214_7:fieldP Tryz.prog 214 7=some (16,4):=by kernel_rfl
theorem f214_8:fieldP Tryz.prog 214 8=some (17,4):=by kernel_rfl
theorem c215: Tryz.prog.cellsOf 215=18:=by kernel_rfl
theorem b215: Tryz.prog.bytesOf 215=240:=by kernel_rfl
theorem a215:aggP Tryz.prog 215=true:=by kernel_rfl
theorem t215:tyOk Tryz.prog 215=true:=by kernel_rfl
theorem z215:zeroP Tryz.prog 215=[.s (.string "".toUTF8),.s (.bool false),.s (.int .i64 0),.s (.int .u8 0),.z,.z,.z,.z,.s (.map none),.s (.map none),.z,.z,.s (.map none),.s (.int .i64 0),.s (.int .i64 0),.s (.int .i64 0),.s (.bool false),.s (.bool false)]:=by kernel_rfl
theorem f215_0:fieldP Tryz.prog 215 0=some (0,93):=by kernel_rfl
theorem f215_1:fieldP Tryz.prog 215 1=some (10,35):=by kernel_rfl
theorem f215_2:fieldP Tryz.prog 215 2=some (11,35):=by kernel_rfl
theorem f215_3:fieldP Tryz.prog 215 3=some (12,213):=by kernel_rfl
theorem f215_4:fieldP Tryz.prog 215 4=some (13,3):=by kernel_rfl
theorem f215_5:fieldP Tryz.prog 215 5=some (14,3):=by kernel_rfl
theorem f215_6:fieldP Tryz.prog 215 6=some (15,3):=by kernel_rfl
theorem f215_7:fieldP Tryz.prog 215 7=some (16,4):=by kernel_rfl
theorem f215_8:fieldP Tryz.prog 215 8=some (17,4):=by kernel_rfl
theorem c216: Tryz.prog.cellsOf 216=5:=by kernel_rfl
theorem b216: Tryz.prog.bytesOf 216=72:=by kernel_rfl
theorem a216:aggP Tryz.prog 216=true:=by kernel_rfl
theorem t216:tyOk Tryz.prog 216=true:=by kernel_rfl
theorem z216:zeroP Tryz.prog 216=[.s (.int .i64 0),.z,.z,.s (.int .i64 0),.s (.bool false)]:=by kernel_rfl
theorem f216_0:fieldP Tryz.prog 216 0=some (0,3):=by kernel_rfl
theorem f216_1:fieldP Tryz.prog 216 1=some (1,35):=by kernel_rfl
theorem f216_2:fieldP Tryz.prog 216 2=some (2,35):=by kernel_rfl
theorem f216_3:fieldP Tryz.prog 216 3=some (3,3):=by kernel_rfl
theorem f216_4:fieldP Tryz.prog 216 4=some (4,4):=by kernel_rfl
theorem c217: Tryz.prog.cellsOf 217=5:=by kernel_rfl
theorem b217: Tryz.prog.bytesOf 217=72:=by kernel_rfl
theorem a217:aggP Tryz.prog 217=true:=by kernel_rfl
theorem t217:tyOk Tryz.prog 217=true:=by kernel_rfl
theorem z217:zeroP Tryz.prog 217=[.s (.int .i64 0),.z,.z,.s (.int .i64 0),.s (.bool false)]:=by kernel_rfl
theorem f217_0:fieldP Tryz.prog 217 0=some (0,3):=by kernel_rfl
theorem f217_1:fieldP Tryz.prog 217 1=some (1,35):=by kernel_rfl
theorem f217_2:fieldP Tryz.prog 217 2=some (2,35):=by kernel_rfl
theorem f217_3:fieldP Tryz.prog 217 3=some (3,3):=by kernel_rfl
theorem f217_4:fieldP Tryz.prog 217 4=some (4,4):=by kernel_rfl
theorem c218: Tryz.prog.cellsOf 218=1:=by kernel_rfl
theorem a218:aggP Tryz.prog 218=false:=by kernel_rfl
theorem t218:tyOk Tryz.prog 218=true:=by kernel_rfl
theorem z218:zeroP Tryz.prog 218=[.s .nilFunc]:=by kernel_rfl
theorem b218: Tryz.prog.bytesOf 218=8:=by kernel_rfl
theorem c219: Tryz.prog.cellsOf 219=1:=by kernel_rfl
theorem a219:aggP Tryz.prog 219=false:=by kernel_rfl
theorem t219:tyOk Tryz.prog 219=true:=by kernel_rfl
theorem z219:zeroP Tryz.prog 219=[.s .nilFunc]:=by kernel_rfl
theorem b219: Tryz.prog.bytesOf 219=8:=by kernel_rfl
theorem c220: Tryz.prog.cellsOf 220=1:=by kernel_rfl
theorem a220:aggP Tryz.prog 220=false:=by kernel_rfl
theorem t220:tyOk Tryz.prog 220=true:=by kernel_rfl
theorem z220:zeroP Tryz.prog 220=[.s .nilFunc]:=by kernel_rfl
theorem b220: Tryz.prog.bytesOf 220=8:=by kernel_rfl
theorem c222: Tryz.prog.cellsOf 222=1:=by kernel_rfl
theorem a222:aggP Tryz.prog 222=false:=by kernel_rfl
theorem t222:tyOk Tryz.prog 222=true:=by kernel_rfl
theorem z222:zeroP Tryz.prog 222=[.s .nilFunc]:=by kernel_rfl
theorem b222: Tryz.prog.bytesOf 222=8:=by kernel_rfl
theorem c223: Tryz.prog.cellsOf 223=1:=by kernel_rfl
theorem a223:aggP Tryz.prog 223=false:=by kernel_rfl
theorem t223:tyOk Tryz.prog 223=true:=by kernel_rfl
theorem z223:zeroP Tryz.prog 223=[.s .nilFunc]:=by kernel_rfl
theorem b223: Tryz.prog.bytesOf 223=8:=by kernel_rfl
theorem c224: Tryz.prog.cellsOf 224=1:=by kernel_rfl
theorem a224:aggP Tryz.prog 224=false:=by kernel_rfl
theorem t224:tyOk Tryz.prog 224=true:=by kernel_rfl
theorem z224:zeroP Tryz.prog 224=[.s .nilFunc]:=by kernel_rfl
theorem b224: Tryz.prog.bytesOf 224=8:=by kernel_rfl
theorem c225: Tryz.prog.cellsOf 225=1:=by kernel_rfl
theorem a225:aggP Tryz.prog 225=false:=by kernel_rfl
theorem t225:tyOk Tryz.prog 225=true:=by kernel_rfl
theorem z225:zeroP Tryz.prog 225=[.s .nilFunc]:=by kernel_rfl
theorem b225: Tryz.prog.bytesOf 225=8:=by kernel_rfl
theorem c226: Tryz.prog.cellsOf 226=1:=by kernel_rfl
theorem a226:aggP Tryz.prog 226=false:=by kernel_rfl
theorem t226:tyOk Tryz.prog 226=true:=by kernel_rfl
theorem z226:zeroP Tryz.prog 226=[.s .nilFunc]:=by kernel_rfl
theorem b226: Tryz.prog.bytesOf 226=8:=by kernel_rfl
theorem c227: Tryz.prog.cellsOf 227=1:=by kernel_rfl
theorem a227:aggP Tryz.prog 227=false:=by kernel_rfl
theorem t227:tyOk Tryz.prog 227=true:=by kernel_rfl
theorem z227:zeroP Tryz.prog 227=[.s .nilFunc]:=by kernel_rfl
theorem b227: Tryz.prog.bytesOf 227=8:=by kernel_rfl
theorem c228: Tryz.prog.cellsOf 228=1:=by kernel_rfl
theorem a228:aggP Tryz.prog 228=false:=by kernel_rfl
theorem t228:tyOk Tryz.prog 228=true:=by kernel_rfl
theorem z228:zeroP Tryz.prog 228=[.s .nilFunc]:=by kernel_rfl
theorem b228: Tryz.prog.bytesOf 228=8:=by kernel_rfl
theorem c229: Tryz.prog.cellsOf 229=1:=by kernel_rfl
theorem a229:aggP Tryz.prog 229=false:=by kernel_rfl
theorem t229:tyOk Tryz.prog 229=true:=by kernel_rfl
theorem z229:zeroP Tryz.prog 229=[.s .nilFunc]:=by kernel_rfl
theorem b229: Tryz.prog.bytesOf 229=8:=by kernel_rfl
theorem c230: Tryz.prog.cellsOf 230=1:=by kernel_rfl
theorem a230:aggP Tryz.prog 230=false:=by kernel_rfl
theorem t230:tyOk Tryz.prog 230=true:=by kernel_rfl
theorem z230:zeroP Tryz.prog 230=[.s .nilFunc]:=by kernel_rfl
theorem b230: Tryz.prog.bytesOf 230=8:=by kernel_rfl
theorem c231: Tryz.prog.cellsOf 231=1:=by kernel_rfl
theorem a231:aggP Tryz.prog 231=false:=by kernel_rfl
theorem t231:tyOk Tryz.prog 231=true:=by kernel_rfl
theorem z231:zeroP Tryz.prog 231=[.s .nilFunc]:=by kernel_rfl
theorem b231: Tryz.prog.bytesOf 231=8:=by kernel_rfl
theorem c233: Tryz.prog.cellsOf 233=1:=by kernel_rfl
theorem a233:aggP Tryz.prog 233=false:=by kernel_rfl
theorem t233:tyOk Tryz.prog 233=true:=by kernel_rfl
theorem z233:zeroP Tryz.prog 233=[.s .nilFunc]:=by kernel_rfl
theorem b233: Tryz.prog.bytesOf 233=8:=by kernel_rfl
theorem c234: Tryz.prog.cellsOf 234=6:=by kernel_rfl
theorem b234: Tryz.prog.bytesOf 234=48:=by kernel_rfl
theorem a234:aggP Tryz.prog 234=true:=by kernel_rfl
theorem t234:tyOk Tryz.prog 234=true:=by kernel_rfl
theorem z234:zeroP Tryz.prog 234=[.s (.int .i64 0),.s (.int .i64 0),.s (.int .i64 0),.s (.int .i64 0),.s (.int .i64 0),.s (.int .i64 0)]:=by kernel_rfl
theorem f234_0:fieldP Tryz.prog 234 0=some (0,3):=by kernel_rfl
theorem f234_1:fieldP Tryz.prog 234 1=some (1,3):=by kernel_rfl
theorem f234_2:fieldP Tryz.prog 234 2=some (2,3):=by kernel_rfl
theorem f234_3:fieldP Tryz.prog 234 3=some (3,3):=by kernel_rfl
theorem f234_4:fieldP Tryz.prog 234 4=some (4,3):=by kernel_rfl
theorem f234_5:fieldP Tryz.prog 234 5=some (5,3):=by kernel_rfl
theorem c235: Tryz.prog.cellsOf 235=6:=by kernel_rfl
theorem b235: Tryz.prog.bytesOf 235=48:=by kernel_rfl
theorem a235:aggP Tryz.prog 235=true:=by kernel_rfl
theorem t235:tyOk Tryz.prog 235=true:=by kernel_rfl
theorem z235:zeroP Tryz.prog 235=[.s (.int .i64 0),.s (.int .i64 0),.s (.int .i64 0),.s (.int .i64 0),.s (.int .i64 0),.s (.int .i64 0)]:=by kernel_rfl
theorem f235_0:fieldP Tryz.prog 235 0=some (0,3):=by kernel_rfl
theorem f235_1:fieldP Tryz.prog 235 1=some (1,3):=by kernel_rfl
theorem f235_2:fieldP Tryz.prog 235 2=some (2,3):=by kernel_rfl
theorem f235_3:fieldP Tryz.prog 235 3=some (3,3):=by kernel_rfl
theorem f235_4:fieldP Tryz.prog 235 4=some (4,3):=by kernel_rfl
theorem f235_5:fieldP Tryz.prog 235 5=some (5,3):=by kernel_rfl
theorem c240: Tryz.prog.cellsOf 240=1:=by kernel_rfl
theorem a240:aggP Tryz.prog 240=false:=by kernel_rfl
theorem t240:tyOk Tryz.prog 240=true:=by kernel_rfl
theorem z240:zeroP Tryz.prog 240=[.s .nilFunc]:=by kernel_rfl
theorem b240: Tryz.prog.bytesOf 240=8:=by kernel_rfl
theorem c241: Tryz.prog.cellsOf 241=1:=by kernel_rfl
theorem a241:aggP Tryz.prog 241=false:=by kernel_rfl
theorem t241:tyOk Tryz.prog 241=true:=by kernel_rfl
theorem z241:zeroP Tryz.prog 241=[.s .nilFunc]:=by kernel_rfl
theorem b241: Tryz.prog.bytesOf 241=8:=by kernel_rfl
theorem c242: Tryz.prog.cellsOf 242=1:=by kernel_rfl
theorem a242:aggP Tryz.prog 242=false:=by kernel_rfl
theorem t242:tyOk Tryz.prog 242=true:=by kernel_rfl
theorem z242:zeroP Tryz.prog 242=[.s .nilFunc]:=by kernel_rfl
theorem b242: Tryz.prog.bytesOf 242=8:=by kernel_rfl
theorem c243: Tryz.prog.cellsOf 243=1:=by kernel_rfl
theorem a243:aggP Tryz.prog 243=false:=by kernel_rfl
theorem t243:tyOk Tryz.prog 243=true:=by kernel_rfl
theorem z243:zeroP Tryz.prog 243=[.s .nilFunc]:=by kernel_rfl
theorem b243: Tryz.prog.bytesOf 243=8:=by kernel_rfl
theorem c244: Tryz.prog.cellsOf 244=1:=by kernel_rfl
theorem a244:aggP Tryz.prog 244=false:=by kernel_rfl
theorem t244:tyOk Tryz.prog 244=true:=by kernel_rfl
theorem z244:zeroP Tryz.prog 244=[.s .nilFunc]:=by kernel_rfl
theorem b244: Tryz.prog.bytesOf 244=8:=by kernel_rfl
theorem c245: Tryz.prog.cellsOf 245=1:=by kernel_rfl
theorem b245: Tryz.prog.bytesOf 245=8:=by kernel_rfl
theorem a245:aggP Tryz.prog 245=false:=by kernel_rfl
theorem t245:tyOk Tryz.prog 245=true:=by kernel_rfl
theorem z245:zeroP Tryz.prog 245=[.s (.pointer none)]:=by kernel_rfl
theorem e245:elemP Tryz.prog 245=5:=by kernel_rfl
theorem pt245:ptT Tryz.prog 245=true:=by kernel_rfl
theorem c246: Tryz.prog.cellsOf 246=1:=by kernel_rfl
theorem a246:aggP Tryz.prog 246=false:=by kernel_rfl
theorem t246:tyOk Tryz.prog 246=true:=by kernel_rfl
theorem z246:zeroP Tryz.prog 246=[.s .nilFunc]:=by kernel_rfl
theorem b246: Tryz.prog.bytesOf 246=8:=by kernel_rfl
theorem c247: Tryz.prog.cellsOf 247=1:=by kernel_rfl
theorem a247:aggP Tryz.prog 247=false:=by kernel_rfl
theorem t247:tyOk Tryz.prog 247=true:=by kernel_rfl
theorem z247:zeroP Tryz.prog 247=[.s .nilFunc]:=by kernel_rfl
theorem b247: Tryz.prog.bytesOf 247=8:=by kernel_rfl
theorem c248: Tryz.prog.cellsOf 248=1:=by kernel_rfl
theorem a248:aggP Tryz.prog 248=false:=by kernel_rfl
theorem t248:tyOk Tryz.prog 248=true:=by kernel_rfl
theorem z248:zeroP Tryz.prog 248=[.s .nilFunc]:=by kernel_rfl
theorem b248: Tryz.prog.bytesOf 248=8:=by kernel_rfl
theorem c249: Tryz.prog.cellsOf 249=1:=by kernel_rfl
theorem a249:aggP Tryz.prog 249=false:=by kernel_rfl
theorem t249:tyOk Tryz.prog 249=true:=by kernel_rfl
theorem z249:zeroP Tryz.prog 249=[.s .nilFunc]:=by kernel_rfl
theorem b249: Tryz.prog.bytesOf 249=8:=by kernel_rfl
theorem c250: Tryz.prog.cellsOf 250=1:=by kernel_rfl
theorem a250:aggP Tryz.prog 250=false:=by kernel_rfl
theorem t250:tyOk Tryz.prog 250=true:=by kernel_rfl
theorem z250:zeroP Tryz.prog 250=[.s .nilFunc]:=by kernel_rfl
theorem b250: Tryz.prog.bytesOf 250=8:=by kernel_rfl
theorem c251: Tryz.prog.cellsOf 251=1:=by kernel_rfl
theorem a251:aggP Tryz.prog 251=false:=by kernel_rfl
theorem t251:tyOk Tryz.prog 251=true:=by kernel_rfl
theorem z251:zeroP Tryz.prog 251=[.s .nilFunc]:=by kernel_rfl
theorem b251: Tryz.prog.bytesOf 251=8:=by kernel_rfl
theorem c252: Tryz.prog.cellsOf 252=1:=by kernel_rfl
theorem a252:aggP Tryz.prog 252=false:=by kernel_rfl
theorem t252:tyOk Tryz.prog 252=true:=by kernel_rfl
theorem z252:zeroP Tryz.prog 252=[.s .nilFunc]:=by kernel_rfl
theorem b252: Tryz.prog.bytesOf 252=8:=by kernel_rfl
theorem c253: Tryz.prog.cellsOf 253=1:=by kernel_rfl
theorem a253:aggP Tryz.prog 253=false:=by kernel_rfl
theorem t253:tyOk Tryz.prog 253=true:=by kernel_rfl
theorem z253:zeroP Tryz.prog 253=[.s .nilFunc]:=by kernel_rfl
theorem b253: Tryz.prog.bytesOf 253=8:=by kernel_rfl
theorem c254: Tryz.prog.cellsOf 254=1:=by kernel_rfl
theorem a254:aggP Tryz.prog 254=false:=by kernel_rfl
theorem t254:tyOk Tryz.prog 254=true:=by kernel_rfl
theorem z254:zeroP Tryz.prog 254=[.s .nilFunc]:=by kernel_rfl
theorem b254: Tryz.prog.bytesOf 254=8:=by kernel_rfl
theorem c255: Tryz.prog.cellsOf 255=1:=by kernel_rfl
theorem a255:aggP Tryz.prog 255=false:=by kernel_rfl
theorem t255:tyOk Tryz.prog 255=true:=by kernel_rfl
theorem z255:zeroP Tryz.prog 255=[.s .nilFunc]:=by kernel_rfl
theorem b255: Tryz.prog.bytesOf 255=8:=by kernel_rfl
theorem c256: Tryz.prog.cellsOf 256=1:=by kernel_rfl
theorem a256:aggP Tryz.prog 256=false:=by kernel_rfl
theorem t256:tyOk Tryz.prog 256=true:=by kernel_rfl
theorem z256:zeroP Tryz.prog 256=[.s .nilFunc]:=by kernel_rfl
theorem b256: Tryz.prog.bytesOf 256=8:=by kernel_rfl
theorem c257: Tryz.prog.cellsOf 257=1:=by kernel_rfl
theorem a257:aggP Tryz.prog 257=false:=by kernel_rfl
theorem t257:tyOk Tryz.prog 257=true:=by kernel_rfl
theorem z257:zeroP Tryz.prog 257=[.s .nilFunc]:=by kernel_rfl
theorem b257: Tryz.prog.bytesOf 257=8:=by kernel_rfl
theorem c258: Tryz.prog.cellsOf 258=1:=by kernel_rfl
theorem a258:aggP Tryz.prog 258=false:=by kernel_rfl
theorem t258:tyOk Tryz.prog 258=true:=by kernel_rfl
theorem z258:zeroP Tryz.prog 258=[.s .nilFunc]:=by kernel_rfl
theorem b258: Tryz.prog.bytesOf 258=8:=by kernel_rfl
theorem c259: Tryz.prog.cellsOf 259=1:=by kernel_rfl
theorem a259:aggP Tryz.prog 259=false:=by kernel_rfl
theorem t259:tyOk Tryz.prog 259=true:=by kernel_rfl
theorem z259:zeroP Tryz.prog 259=[.s .nilFunc]:=by kernel_rfl
theorem b259: Tryz.prog.bytesOf 259=8:=by kernel_rfl
theorem c260: Tryz.prog.cellsOf 260=1:=by kernel_rfl
theorem a260:aggP Tryz.prog 260=false:=by kernel_rfl
theorem t260:tyOk Tryz.prog 260=true:=by kernel_rfl
theorem z260:zeroP Tryz.prog 260=[.s .nilFunc]:=by kernel_rfl
theorem b260: Tryz.prog.bytesOf 260=8:=by kernel_rfl
theorem c261: Tryz.prog.cellsOf 261=1:=by kernel_rfl
theorem a261:aggP Tryz.prog 261=false:=by kernel_rfl
theorem t261:tyOk Tryz.prog 261=true:=by kernel_rfl
theorem z261:zeroP Tryz.prog 261=[.s .nilFunc]:=by kernel_rfl
theorem b261: Tryz.prog.bytesOf 261=8:=by kernel_rfl
theorem c262: Tryz.prog.cellsOf 262=1:=by kernel_rfl
theorem a262:aggP Tryz.prog 262=false:=by kernel_rfl
theorem t262:tyOk Tryz.prog 262=true:=by kernel_rfl
theorem z262:zeroP Tryz.prog 262=[.s .nilFunc]:=by kernel_rfl
theorem b262: Tryz.prog.bytesOf 262=8:=by kernel_rfl
theorem c263: Tryz.prog.cellsOf 263=1:=by kernel_rfl
theorem a263:aggP Tryz.prog 263=false:=by kernel_rfl
theorem t263:tyOk Tryz.prog 263=true:=by kernel_rfl
theorem z263:zeroP Tryz.prog 263=[.s .nilFunc]:=by kernel_rfl
theorem b263: Tryz.prog.bytesOf 263=8:=by kernel_rfl
theorem c264: Tryz.prog.cellsOf 264=1:=by kernel_rfl
theorem a264:aggP Tryz.prog 264=false:=by kernel_rfl
theorem t264:tyOk Tryz.prog 264=true:=by kernel_rfl
theorem z264:zeroP Tryz.prog 264=[.s .nilFunc]:=by kernel_rfl
theorem b264: Tryz.prog.bytesOf 264=8:=by kernel_rfl
theorem c265: Tryz.prog.cellsOf 265=1:=by kernel_rfl
theorem a265:aggP Tryz.prog 265=false:=by kernel_rfl
theorem t265:tyOk Tryz.prog 265=true:=by kernel_rfl
theorem z265:zeroP Tryz.prog 265=[.s .nilFunc]:=by kernel_rfl
theorem b265: Tryz.prog.bytesOf 265=8:=by kernel_rfl
theorem c266: Tryz.prog.cellsOf 266=1:=by kernel_rfl
theorem a266:aggP Tryz.prog 266=false:=by kernel_rfl
theorem t266:tyOk Tryz.prog 266=true:=by kernel_rfl
theorem z266:zeroP Tryz.prog 266=[.s .nilFunc]:=by kernel_rfl
theorem b266: Tryz.prog.bytesOf 266=8:=by kernel_rfl
theorem c267: Tryz.prog.cellsOf 267=1:=by kernel_rfl
theorem a267:aggP Tryz.prog 267=false:=by kernel_rfl
theorem t267:tyOk Tryz.prog 267=true:=by kernel_rfl
theorem z267:zeroP Tryz.prog 267=[.s .nilFunc]:=by kernel_rfl
theorem b267: Tryz.prog.bytesOf 267=8:=by kernel_rfl
theorem c268: Tryz.prog.cellsOf 268=1:=by kernel_rfl
theorem a268:aggP Tryz.prog 268=false:=by kernel_rfl
theorem t268:tyOk Tryz.prog 268=true:=by kernel_rfl
theorem z268:zeroP Tryz.prog 268=[.s .nilFunc]:=by kernel_rfl
theorem b268: Tryz.prog.bytesOf 268=8:=by kernel_rfl
theorem c269: Tryz.prog.cellsOf 269=1:=by kernel_rfl
theorem a269:aggP Tryz.prog 269=false:=by kernel_rfl
theorem t269:tyOk Tryz.prog 269=true:=by kernel_rfl
theorem z269:zeroP Tryz.prog 269=[.s .nilFunc]:=by kernel_rfl
theorem b269: Tryz.prog.bytesOf 269=8:=by kernel_rfl
theorem c270: Tryz.prog.cellsOf 270=1:=by kernel_rfl
theorem a270:aggP Tryz.prog 270=false:=by kernel_rfl
theorem t270:tyOk Tryz.prog 270=true:=by kernel_rfl
theorem z270:zeroP Tryz.prog 270=[.s .nilFunc]:=by kernel_rfl
theorem b270: Tryz.prog.bytesOf 270=8:=by kernel_rfl
theorem c271: Tryz.prog.cellsOf 271=1:=by kernel_rfl
theorem a271:aggP Tryz.prog 271=false:=by kernel_rfl
theorem t271:tyOk Tryz.prog 271=true:=by kernel_rfl
theorem z271:zeroP Tryz.prog 271=[.s .nilFunc]:=by kernel_rfl
theorem b271: Tryz.prog.bytesOf 271=8:=by kernel_rfl
theorem c272: Tryz.prog.cellsOf 272=1:=by kernel_rfl
theorem a272:aggP Tryz.prog 272=false:=by kernel_rfl
theorem t272:tyOk Tryz.prog 272=true:=by kernel_rfl
theorem z272:zeroP Tryz.prog 272=[.s .nilFunc]:=by kernel_rfl
theorem b272: Tryz.prog.bytesOf 272=8:=by kernel_rfl
theorem c273: Tryz.prog.cellsOf 273=1:=by kernel_rfl
theorem b273: Tryz.prog.bytesOf 273=8:=by kernel_rfl
theorem a273:aggP Tryz.prog 273=false:=by kernel_rfl
theorem t273:tyOk Tryz.prog 273=true:=by kernel_rfl
theorem z273:zeroP Tryz.prog 273=[.s (.map none)]:=by kernel_rfl
theorem c274: Tryz.prog.cellsOf 274=1:=by kernel_rfl
theorem a274:aggP Tryz.prog 274=false:=by kernel_rfl
theorem t274:tyOk Tryz.prog 274=true:=by kernel_rfl
theorem z274:zeroP Tryz.prog 274=[.s .nilFunc]:=by kernel_rfl
theorem b274: Tryz.prog.bytesOf 274=8:=by kernel_rfl
theorem c275: Tryz.prog.cellsOf 275=1:=by kernel_rfl
theorem a275:aggP Tryz.prog 275=false:=by kernel_rfl
theorem t275:tyOk Tryz.prog 275=true:=by kernel_rfl
theorem z275:zeroP Tryz.prog 275=[.s .nilFunc]:=by kernel_rfl
theorem b275: Tryz.prog.bytesOf 275=8:=by kernel_rfl
theorem c276: Tryz.prog.cellsOf 276=1:=by kernel_rfl
theorem a276:aggP Tryz.prog 276=false:=by kernel_rfl
theorem t276:tyOk Tryz.prog 276=true:=by kernel_rfl
theorem z276:zeroP Tryz.prog 276=[.s .nilFunc]:=by kernel_rfl
theorem b276: Tryz.prog.bytesOf 276=8:=by kernel_rfl
theorem c277: Tryz.prog.cellsOf 277=1:=by kernel_rfl
theorem a277:aggP Tryz.prog 277=false:=by kernel_rfl
theorem t277:tyOk Tryz.prog 277=true:=by kernel_rfl
theorem z277:zeroP Tryz.prog 277=[.s .nilFunc]:=by kernel_rfl
theorem b277: Tryz.prog.bytesOf 277=8:=by kernel_rfl
theorem c278: Tryz.prog.cellsOf 278=1:=by kernel_rfl
theorem a278:aggP Tryz.prog 278=false:=by kernel_rfl
theorem t278:tyOk Tryz.prog 278=true:=by kernel_rfl
theorem z278:zeroP Tryz.prog 278=[.s .nilFunc]:=by kernel_rfl
theorem b278: Tryz.prog.bytesOf 278=8:=by kernel_rfl
theorem c279: Tryz.prog.cellsOf 279=1:=by kernel_rfl
theorem a279:aggP Tryz.prog 279=false:=by kernel_rfl
theorem t279:tyOk Tryz.prog 279=true:=by kernel_rfl
theorem z279:zeroP Tryz.prog 279=[.s .nilFunc]:=by kernel_rfl
theorem b279: Tryz.prog.bytesOf 279=8:=by kernel_rfl
theorem c280: Tryz.prog.cellsOf 280=1:=by kernel_rfl
theorem a280:aggP Tryz.prog 280=false:=by kernel_rfl
theorem t280:tyOk Tryz.prog 280=true:=by kernel_rfl
theorem z280:zeroP Tryz.prog 280=[.s .nilFunc]:=by kernel_rfl
theorem b280: Tryz.prog.bytesOf 280=8:=by kernel_rfl
theorem c281: Tryz.prog.cellsOf 281=1:=by kernel_rfl
theorem a281:aggP Tryz.prog 281=false:=by kernel_rfl
theorem t281:tyOk Tryz.prog 281=true:=by kernel_rfl
theorem z281:zeroP Tryz.prog 281=[.s .nilFunc]:=by kernel_rfl
theorem b281: Tryz.prog.bytesOf 281=8:=by kernel_rfl
theorem c282: Tryz.prog.cellsOf 282=1:=by kernel_rfl
theorem a282:aggP Tryz.prog 282=false:=by kernel_rfl
theorem t282:tyOk Tryz.prog 282=true:=by kernel_rfl
theorem z282:zeroP Tryz.prog 282=[.s .nilFunc]:=by kernel_rfl
theorem b282: Tryz.prog.bytesOf 282=8:=by kernel_rfl
theorem c283: Tryz.prog.cellsOf 283=5:=by kernel_rfl
theorem b283: Tryz.prog.bytesOf 283=64:=by kernel_rfl
theorem a283:aggP Tryz.prog 283=true:=by kernel_rfl
theorem t283:tyOk Tryz.prog 283=true:=by kernel_rfl
theorem z283:zeroP Tryz.prog 283=[.s (.bool false),.s (.bool false),.s (.int .i64 0),.z,.z]:=by kernel_rfl
theorem f283_0:fieldP Tryz.prog 283 0=some (0,4):=by kernel_rfl
theorem f283_1:fieldP Tryz.prog 283 1=some (1,4):=by kernel_rfl
theorem f283_2:fieldP Tryz.prog 283 2=some (2,3):=by kernel_rfl
theorem f283_3:fieldP Tryz.prog 283 3=some (3,22):=by kernel_rfl
theorem f283_4:fieldP Tryz.prog 283 4=some (4,35):=by kernel_rfl
theorem c284: Tryz.prog.cellsOf 284=5:=by kernel_rfl
theorem b284: Tryz.prog.bytesOf 284=64:=by kernel_rfl
theorem a284:aggP Tryz.prog 284=true:=by kernel_rfl
theorem t284:tyOk Tryz.prog 284=true:=by kernel_rfl
theorem z284:zeroP Tryz.prog 284=[.s (.bool false),.s (.bool false),.s (.int .i64 0),.z,.z]:=by kernel_rfl
theorem f284_0:fieldP Tryz.prog 284 0=some (0,4):=by kernel_rfl
theorem f284_1:fieldP Tryz.prog 284 1=some (1,4):=by kernel_rfl
theorem f284_2:fieldP Tryz.prog 284 2=some (2,3):=by kernel_rfl
theorem f284_3:fieldP Tryz.prog 284 3=some (3,22):=by kernel_rfl
theorem f284_4:fieldP Tryz.prog 284 4=some (4,35):=by kernel_rfl
theorem c285: Tryz.prog.cellsOf 285=1:=by kernel_rfl
theorem a285:aggP Tryz.prog 285=false:=by kernel_rfl
theorem t285:tyOk Tryz.prog 285=true:=by kernel_rfl
theorem z285:zeroP Tryz.prog 285=[.s .nilFunc]:=by kernel_rfl
theorem b285: Tryz.prog.bytesOf 285=8:=by kernel_rfl
theorem c287: Tryz.prog.cellsOf 287=1:=by kernel_rfl
theorem a287:aggP Tryz.prog 287=false:=by kernel_rfl
theorem t287:tyOk Tryz.prog 287=true:=by kernel_rfl
theorem z287:zeroP Tryz.prog 287=[.s .nilFunc]:=by kernel_rfl
theorem b287: Tryz.prog.bytesOf 287=8:=by kernel_rfl
theorem c288: Tryz.prog.cellsOf 288=1:=by kernel_rfl
theorem a288:aggP Tryz.prog 288=false:=by kernel_rfl
theorem t288:tyOk Tryz.prog 288=true:=by kernel_rfl
theorem z288:zeroP Tryz.prog 288=[.s .nilFunc]:=by kernel_rfl
theorem b288: Tryz.prog.bytesOf 288=8:=by kernel_rfl
theorem c289: Tryz.prog.cellsOf 289=1:=by kernel_rfl
theorem a289:aggP Tryz.prog 289=false:=by kernel_rfl
theorem t289:tyOk Tryz.prog 289=true:=by kernel_rfl
theorem z289:zeroP Tryz.prog 289=[.s .nilFunc]:=by kernel_rfl
theorem b289: Tryz.prog.bytesOf 289=8:=by kernel_rfl
theorem c290: Tryz.prog.cellsOf 290=1:=by kernel_rfl
theorem a290:aggP Tryz.prog 290=false:=by kernel_rfl
theorem t290:tyOk Tryz.prog 290=true:=by kernel_rfl
theorem z290:zeroP Tryz.prog 290=[.s .nilFunc]:=by kernel_rfl
theorem b290: Tryz.prog.bytesOf 290=8:=by kernel_rfl
theorem c291: Tryz.prog.cellsOf 291=1:=by kernel_rfl
theorem a291:aggP Tryz.prog 291=false:=by kernel_rfl
theorem t291:tyOk Tryz.prog 291=true:=by kernel_rfl
theorem z291:zeroP Tryz.prog 291=[.s .nilFunc]:=by kernel_rfl
theorem b291: Tryz.prog.bytesOf 291=8:=by kernel_rfl
theorem c292: Tryz.prog.cellsOf 292=1:=by kernel_rfl
theorem b292: Tryz.prog.bytesOf 292=8:=by kernel_rfl
theorem a292:aggP Tryz.prog 292=false:=by kernel_rfl
theorem t292:tyOk Tryz.prog 292=true:=by kernel_rfl
theorem z292:zeroP Tryz.prog 292=[.s (.int .i64 0)]:=by kernel_rfl
theorem c294: Tryz.prog.cellsOf 294=1:=by kernel_rfl
theorem a294:aggP Tryz.prog 294=false:=by kernel_rfl
theorem t294:tyOk Tryz.prog 294=true:=by kernel_rfl
theorem z294:zeroP Tryz.prog 294=[.s .nilFunc]:=by kernel_rfl
theorem b294: Tryz.prog.bytesOf 294=8:=by kernel_rfl
theorem c295: Tryz.prog.cellsOf 295=1:=by kernel_rfl
theorem a295:aggP Tryz.prog 295=false:=by kernel_rfl
theorem t295:tyOk Tryz.prog 295=true:=by kernel_rfl
theorem z295:zeroP Tryz.prog 295=[.s .nilFunc]:=by kernel_rfl
theorem b295: Tryz.prog.bytesOf 295=8:=by kernel_rfl
theorem c296: Tryz.prog.cellsOf 296=1:=by kernel_rfl
theorem a296:aggP Tryz.prog 296=false:=by kernel_rfl
theorem t296:tyOk Tryz.prog 296=true:=by kernel_rfl
theorem z296:zeroP Tryz.prog 296=[.s .nilFunc]:=by kernel_rfl
theorem b296: Tryz.prog.bytesOf 296=8:=by kernel_rfl
theorem c298: Tryz.prog.cellsOf 298=1:=by kernel_rfl
theorem a298:aggP Tryz.prog 298=false:=by kernel_rfl
theorem t298:tyOk Tryz.prog 298=true:=by kernel_rfl
theorem z298:zeroP Tryz.prog 298=[.s .nilFunc]:=by kernel_rfl
theorem b298: Tryz.prog.bytesOf 298=8:=by kernel_rfl
theorem c299: Tryz.prog.cellsOf 299=1:=by kernel_rfl
theorem a299:aggP Tryz.prog 299=false:=by kernel_rfl
theorem t299:tyOk Tryz.prog 299=true:=by kernel_rfl
theorem z299:zeroP Tryz.prog 299=[.s .nilFunc]:=by kernel_rfl
theorem b299: Tryz.prog.bytesOf 299=8:=by kernel_rfl
theorem c300: Tryz.prog.cellsOf 300=1:=by kernel_rfl
theorem b300: Tryz.prog.bytesOf 300=4:=by kernel_rfl
theorem a300:aggP Tryz.prog 300=false:=by kernel_rfl
theorem t300:tyOk Tryz.prog 300=true:=by kernel_rfl
theorem z300:zeroP Tryz.prog 300=[.s (.int .u32 0)]:=by kernel_rfl
theorem c301: Tryz.prog.cellsOf 301=1:=by kernel_rfl
theorem a301:aggP Tryz.prog 301=false:=by kernel_rfl
theorem t301:tyOk Tryz.prog 301=true:=by kernel_rfl
theorem z301:zeroP Tryz.prog 301=[.s .nilFunc]:=by kernel_rfl
theorem b301: Tryz.prog.bytesOf 301=8:=by kernel_rfl
theorem c302: Tryz.prog.cellsOf 302=1:=by kernel_rfl
theorem a302:aggP Tryz.prog 302=false:=by kernel_rfl
theorem t302:tyOk Tryz.prog 302=true:=by kernel_rfl
theorem z302:zeroP Tryz.prog 302=[.s .nilFunc]:=by kernel_rfl
theorem b302: Tryz.prog.bytesOf 302=8:=by kernel_rfl
theorem c303: Tryz.prog.cellsOf 303=1:=by kernel_rfl
theorem a303:aggP Tryz.prog 303=false:=by kernel_rfl
theorem t303:tyOk Tryz.prog 303=true:=by kernel_rfl
theorem z303:zeroP Tryz.prog 303=[.s .nilFunc]:=by kernel_rfl
theorem b303: Tryz.prog.bytesOf 303=8:=by kernel_rfl
theorem c304: Tryz.prog.cellsOf 304=1:=by kernel_rfl
theorem a304:aggP Tryz.prog 304=false:=by kernel_rfl
theorem t304:tyOk Tryz.prog 304=true:=by kernel_rfl
theorem z304:zeroP Tryz.prog 304=[.s .nilFunc]:=by kernel_rfl
theorem b304: Tryz.prog.bytesOf 304=8:=by kernel_rfl
theorem c305: Tryz.prog.cellsOf 305=1:=by kernel_rfl
theorem a305:aggP Tryz.prog 305=false:=by kernel_rfl
theorem t305:tyOk Tryz.prog 305=true:=by kernel_rfl
theorem z305:zeroP Tryz.prog 305=[.s .nilFunc]:=by kernel_rfl
theorem b305: Tryz.prog.bytesOf 305=8:=by kernel_rfl
theorem c306: Tryz.prog.cellsOf 306=1:=by kernel_rfl
theorem a306:aggP Tryz.prog 306=false:=by kernel_rfl
theorem t306:tyOk Tryz.prog 306=true:=by kernel_rfl
theorem z306:zeroP Tryz.prog 306=[.s .nilFunc]:=by kernel_rfl
theorem b306: Tryz.prog.bytesOf 306=8:=by kernel_rfl
theorem c307: Tryz.prog.cellsOf 307=1:=by kernel_rfl
theorem a307:aggP Tryz.prog 307=false:=by kernel_rfl
theorem t307:tyOk Tryz.prog 307=true:=by kernel_rfl
theorem z307:zeroP Tryz.prog 307=[.s .nilFunc]:=by kernel_rfl
theorem b307: Tryz.prog.bytesOf 307=8:=by kernel_rfl
theorem c308: Tryz.prog.cellsOf 308=1:=by kernel_rfl
theorem a308:aggP Tryz.prog 308=false:=by kernel_rfl
theorem t308:tyOk Tryz.prog 308=true:=by kernel_rfl
theorem z308:zeroP Tryz.prog 308=[.s .nilFunc]:=by kernel_rfl
theorem b308: Tryz.prog.bytesOf 308=8:=by kernel_rfl
theorem c309: Tryz.prog.cellsOf 309=1:=by kernel_rfl
theorem a309:aggP Tryz.prog 309=false:=by kernel_rfl
theorem t309:tyOk Tryz.prog 309=true:=by kernel_rfl
theorem z309:zeroP Tryz.prog 309=[.s .nilFunc]:=by kernel_rfl
theorem b309: Tryz.prog.bytesOf 309=8:=by kernel_rfl
theorem c310: Tryz.prog.cellsOf 310=1:=by kernel_rfl
theorem b310: Tryz.prog.bytesOf 310=8:=by kernel_rfl
theorem a310:aggP Tryz.prog 310=false:=by kernel_rfl
theorem t310:tyOk Tryz.prog 310=true:=by kernel_rfl
theorem z310:zeroP Tryz.prog 310=[.s (.pointer none)]:=by kernel_rfl
theorem e310:elemP Tryz.prog 310=313:=by kernel_rfl
theorem pt310:ptT Tryz.prog 310=true:=by kernel_rfl
theorem c311: Tryz.prog.cellsOf 311=1:=by kernel_rfl
theorem a311:aggP Tryz.prog 311=false:=by kernel_rfl
theorem t311:tyOk Tryz.prog 311=true:=by kernel_rfl
theorem z311:zeroP Tryz.prog 311=[.s .nilFunc]:=by kernel_rfl
theorem b311: Tryz.prog.bytesOf 311=8:=by kernel_rfl
theorem c312: Tryz.prog.cellsOf 312=2:=by kernel_rfl
theorem b312: Tryz.prog.bytesOf 312=32:=by kernel_rfl
theorem a312:aggP Tryz.prog 312=true:=by kernel_rfl
theorem t312:tyOk Tryz.prog 312=true:=by kernel_rfl
theorem z312:zeroP Tryz.prog 312=[.s (.int .u8 0),.z]:=by kernel_rfl
theorem f312_0:fieldP Tryz.prog 312 0=some (0,5):=by kernel_rfl
theorem f312_1:fieldP Tryz.prog 312 1=some (1,35):=by kernel_rfl
theorem c313: Tryz.prog.cellsOf 313=2:=by kernel_rfl
theorem b313: Tryz.prog.bytesOf 313=32:=by kernel_rfl
theorem a313:aggP Tryz.prog 313=true:=by kernel_rfl
theorem t313:tyOk Tryz.prog 313=true:=by kernel_rfl
theorem z313:zeroP Tryz.prog 313=[.s (.int .u8 0),.z]:=by kernel_rfl
theorem f313_0:fieldP Tryz.prog 313 0=some (0,5):=by kernel_rfl
theorem f313_1:fieldP Tryz.prog 313 1=some (1,35):=by kernel_rfl
theorem c314: Tryz.prog.cellsOf 314=1:=by kernel_rfl
theorem a314:aggP Tryz.prog 314=false:=by kernel_rfl
theorem t314:tyOk Tryz.prog 314=true:=by kernel_rfl
theorem z314:zeroP Tryz.prog 314=[.s .nilFunc]:=by kernel_rfl
theorem b314: Tryz.prog.bytesOf 314=8:=by kernel_rfl
theorem c316: Tryz.prog.cellsOf 316=1:=by kernel_rfl
theorem a316:aggP Tryz.prog 316=false:=by kernel_rfl
theorem t316:tyOk Tryz.prog 316=true:=by kernel_rfl
theorem z316:zeroP Tryz.prog 316=[.s .nilFunc]:=by kernel_rfl
theorem b316: Tryz.prog.bytesOf 316=8:=by kernel_rfl
theorem c317: Tryz.prog.cellsOf 317=1:=by kernel_rfl
theorem a317:aggP Tryz.prog 317=false:=by kernel_rfl
theorem t317:tyOk Tryz.prog 317=true:=by kernel_rfl
theorem z317:zeroP Tryz.prog 317=[.s .nilFunc]:=by kernel_rfl
theorem b317: Tryz.prog.bytesOf 317=8:=by kernel_rfl
theorem c318: Tryz.prog.cellsOf 318=1:=by kernel_rfl
theorem a318:aggP Tryz.prog 318=false:=by kernel_rfl
theorem t318:tyOk Tryz.prog 318=true:=by kernel_rfl
theorem z318:zeroP Tryz.prog 318=[.s .nilFunc]:=by kernel_rfl
theorem b318: Tryz.prog.bytesOf 318=8:=by kernel_rfl
theorem c320: Tryz.prog.cellsOf 320=1:=by kernel_rfl
theorem a320:aggP Tryz.prog 320=false:=by kernel_rfl
theorem t320:tyOk Tryz.prog 320=true:=by kernel_rfl
theorem z320:zeroP Tryz.prog 320=[.s .nilFunc]:=by kernel_rfl
theorem b320: Tryz.prog.bytesOf 320=8:=by kernel_rfl
theorem c321: Tryz.prog.cellsOf 321=24:=by kernel_rfl
theorem b321: Tryz.prog.bytesOf 321=24:=by kernel_rfl
theorem a321:aggP Tryz.prog 321=true:=by kernel_rfl
theorem t321:tyOk Tryz.prog 321=true:=by kernel_rfl
theorem z321:zeroP Tryz.prog 321=[.s (.int .u8 0),.s (.int .u8 0),.s (.int .u8 0),.s (.int .u8 0),.s (.int .u8 0),.s (.int .u8 0),.s (.int .u8 0),.s (.int .u8 0),.s (.int .u8 0),.s (.int .u8 0),.s (.int .u8 0),.s (.int .u8 0),.s (.int .u8 0),.s (.int .u8 0),.s (.int .u8 0),.s (.int .u8 0),.s (.int .u8 0),.s (.int .u8 0),.s (.int .u8 0),.s (.int .u8 0),.s (.int .u8 0),.s (.int .u8 0),.s (.int .u8 0),.s (.int .u8 0)]:=by kernel_rfl
theorem e321:elemP Tryz.prog 321=5:=by kernel_rfl
theorem ar321:arT Tryz.prog 321=true:=by kernel_rfl
theorem l321:lenP Tryz.prog 321=24:=by kernel_rfl
theorem c322: Tryz.prog.cellsOf 322=1:=by kernel_rfl
theorem a322:aggP Tryz.prog 322=false:=by kernel_rfl
theorem t322:tyOk Tryz.prog 322=true:=by kernel_rfl
theorem z322:zeroP Tryz.prog 322=[.s .nilFunc]:=by kernel_rfl
theorem b322: Tryz.prog.bytesOf 322=8:=by kernel_rfl
theorem c324: Tryz.prog.cellsOf 324=1:=by kernel_rfl
theorem a324:aggP Tryz.prog 324=false:=by kernel_rfl
theorem t324:tyOk Tryz.prog 324=true:=by kernel_rfl
theorem z324:zeroP Tryz.prog 324=[.s .nilFunc]:=by kernel_rfl
theorem b324: Tryz.prog.bytesOf 324=8:=by kernel_rfl
theorem c325: Tryz.prog.cellsOf 325=1:=by kernel_rfl
theorem b325: Tryz.prog.bytesOf 325=8:=by kernel_rfl
theorem a325:aggP Tryz.prog 325=false:=by kernel_rfl
theorem t325:tyOk Tryz.prog 325=true:=by kernel_rfl
theorem z325:zeroP Tryz.prog 325=[.s (.int .u64 0)]:=by kernel_rfl
theorem c326: Tryz.prog.cellsOf 326=1:=by kernel_rfl
theorem a326:aggP Tryz.prog 326=false:=by kernel_rfl
theorem t326:tyOk Tryz.prog 326=true:=by kernel_rfl
theorem z326:zeroP Tryz.prog 326=[.s .nilFunc]:=by kernel_rfl
theorem b326: Tryz.prog.bytesOf 326=8:=by kernel_rfl
theorem c327: Tryz.prog.cellsOf 327=1:=by kernel_rfl
theorem a327:aggP Tryz.prog 327=false:=by kernel_rfl
theorem t327:tyOk Tryz.prog 327=true:=by kernel_rfl
theorem z327:zeroP Tryz.prog 327=[.s .nilFunc]:=by kernel_rfl
theorem b327: Tryz.prog.bytesOf 327=8:=by kernel_rfl
theorem c328: Tryz.prog.cellsOf 328=1:=by kernel_rfl
theorem a328:aggP Tryz.prog 328=false:=by kernel_rfl
theorem t328:tyOk Tryz.prog 328=true:=by kernel_rfl
theorem z328:zeroP Tryz.prog 328=[.s .nilFunc]:=by kernel_rfl
theorem b328: Tryz.prog.bytesOf 328=8:=by kernel_rfl
theorem c329: Tryz.prog.cellsOf 329=1:=by kernel_rfl
theorem b329: Tryz.prog.bytesOf 329=8:=by kernel_rfl
theorem a329:aggP Tryz.prog 329=false:=by kernel_rfl
theorem t329:tyOk Tryz.prog 329=true:=by kernel_rfl
theorem z329:zeroP Tryz.prog 329=[.s (.pointer none)]:=by kernel_rfl
theorem e329:elemP Tryz.prog 329=3:=by kernel_rfl
theorem pt329:ptT Tryz.prog 329=true:=by kernel_rfl
theorem c330: Tryz.prog.cellsOf 330=1:=by kernel_rfl
theorem a330:aggP Tryz.prog 330=false:=by kernel_rfl
theorem t330:tyOk Tryz.prog 330=true:=by kernel_rfl
theorem z330:zeroP Tryz.prog 330=[.s .nilFunc]:=by kernel_rfl
theorem b330: Tryz.prog.bytesOf 330=8:=by kernel_rfl
theorem c332: Tryz.prog.cellsOf 332=1:=by kernel_rfl
theorem a332:aggP Tryz.prog 332=false:=by kernel_rfl
theorem t332:tyOk Tryz.prog 332=true:=by kernel_rfl
theorem z332:zeroP Tryz.prog 332=[.s .nilFunc]:=by kernel_rfl
theorem b332: Tryz.prog.bytesOf 332=8:=by kernel_rfl
theorem c333: Tryz.prog.cellsOf 333=1:=by kernel_rfl
theorem a333:aggP Tryz.prog 333=false:=by kernel_rfl
theorem t333:tyOk Tryz.prog 333=true:=by kernel_rfl
theorem z333:zeroP Tryz.prog 333=[.s .nilFunc]:=by kernel_rfl
theorem b333: Tryz.prog.bytesOf 333=8:=by kernel_rfl
theorem c334: Tryz.prog.cellsOf 334=1:=by kernel_rfl
theorem a334:aggP Tryz.prog 334=false:=by kernel_rfl
theorem t334:tyOk Tryz.prog 334=true:=by kernel_rfl
theorem z334:zeroP Tryz.prog 334=[.s .nilFunc]:=by kernel_rfl
theorem b334: Tryz.prog.bytesOf 334=8:=by kernel_rfl
theorem c335: Tryz.prog.cellsOf 335=1:=by kernel_rfl
theorem b335: Tryz.prog.bytesOf 335=8:=by kernel_rfl
theorem a335:aggP Tryz.prog 335=false:=by kernel_rfl
theorem t335:tyOk Tryz.prog 335=true:=by kernel_rfl
theorem z335:zeroP Tryz.prog 335=[.s (.pointer none)]:=by kernel_rfl
theorem e335:elemP Tryz.prog 335=337:=by kernel_rfl
theorem pt335:ptT Tryz.prog 335=true:=by kernel_rfl
theorem c336: Tryz.prog.cellsOf 336=3:=by kernel_rfl
theorem b336: Tryz.prog.bytesOf 336=56:=by kernel_rfl
theorem a336:aggP Tryz.prog 336=true:=by kernel_rfl
theorem t336:tyOk Tryz.prog 336=true:=by kernel_rfl
theorem z336:zeroP Tryz.prog 336=[.s (.int .i64 0),.z,.z]:=by kernel_rfl
theorem f336_0:fieldP Tryz.prog 336 0=some (0,3):=by kernel_rfl
theorem f336_1:fieldP Tryz.prog 336 1=some (1,22):=by kernel_rfl
theorem f336_2:fieldP Tryz.prog 336 2=some (2,35):=by kernel_rfl
theorem c337: Tryz.prog.cellsOf 337=3:=by kernel_rfl
theorem b337: Tryz.prog.bytesOf 337=56:=by kernel_rfl
theorem a337:aggP Tryz.prog 337=true:=by kernel_rfl
theorem t337:tyOk Tryz.prog 337=true:=by kernel_rfl
theorem z337:zeroP Tryz.prog 337=[.s (.int .i64 0),.z,.z]:=by kernel_rfl
theorem f337_0:fieldP Tryz.prog 337 0=some (0,3):=by kernel_rfl
theorem f337_1:fieldP Tryz.prog 337 1=some (1,22):=by kernel_rfl
theorem f337_2:fieldP Tryz.prog 337 2=some (2,35):=by kernel_rfl
theorem c338: Tryz.prog.cellsOf 338=1:=by kernel_rfl
theorem a338:aggP Tryz.prog 338=false:=by kernel_rfl
theorem t338:tyOk Tryz.prog 338=true:=by kernel_rfl
theorem z338:zeroP Tryz.prog 338=[.s .nilFunc]:=by kernel_rfl
theorem b338: Tryz.prog.bytesOf 338=8:=by kernel_rfl
theorem c341: Tryz.prog.cellsOf 341=1:=by kernel_rfl
theorem a341:aggP Tryz.prog 341=false:=by kernel_rfl
theorem t341:tyOk Tryz.prog 341=true:=by kernel_rfl
theorem z341:zeroP Tryz.prog 341=[.s .nilFunc]:=by kernel_rfl
theorem b341: Tryz.prog.bytesOf 341=8:=by kernel_rfl
theorem c342: Tryz.prog.cellsOf 342=1:=by kernel_rfl
theorem a342:aggP Tryz.prog 342=false:=by kernel_rfl
theorem t342:tyOk Tryz.prog 342=true:=by kernel_rfl
theorem z342:zeroP Tryz.prog 342=[.s .nilFunc]:=by kernel_rfl
theorem b342: Tryz.prog.bytesOf 342=8:=by kernel_rfl
theorem c343: Tryz.prog.cellsOf 343=1:=by kernel_rfl
theorem a343:aggP Tryz.prog 343=false:=by kernel_rfl
theorem t343:tyOk Tryz.prog 343=true:=by kernel_rfl
theorem z343:zeroP Tryz.prog 343=[.s .nilFunc]:=by kernel_rfl
theorem b343: Tryz.prog.bytesOf 343=8:=by kernel_rfl
theorem c344: Tryz.prog.cellsOf 344=1:=by kernel_rfl
theorem a344:aggP Tryz.prog 344=false:=by kernel_rfl
theorem t344:tyOk Tryz.prog 344=true:=by kernel_rfl
theorem z344:zeroP Tryz.prog 344=[.s .nilFunc]:=by kernel_rfl
theorem b344: Tryz.prog.bytesOf 344=8:=by kernel_rfl
theorem c345: Tryz.prog.cellsOf 345=1:=by kernel_rfl
theorem a345:aggP Tryz.prog 345=false:=by kernel_rfl
theorem t345:tyOk Tryz.prog 345=true:=by kernel_rfl
theorem z345:zeroP Tryz.prog 345=[.s .nilFunc]:=by kernel_rfl
theorem b345: Tryz.prog.bytesOf 345=8:=by kernel_rfl
theorem c346: Tryz.prog.cellsOf 346=1:=by kernel_rfl
theorem a346:aggP Tryz.prog 346=false:=by kernel_rfl
theorem t346:tyOk Tryz.prog 346=true:=by kernel_rfl
theorem z346:zeroP Tryz.prog 346=[.s .nilFunc]:=by kernel_rfl
theorem b346: Tryz.prog.bytesOf 346=8:=by kernel_rfl
theorem c347: Tryz.prog.cellsOf 347=1:=by kernel_rfl
theorem a347:aggP Tryz.prog 347=false:=by kernel_rfl
theorem t347:tyOk Tryz.prog 347=true:=by kernel_rfl
theorem z347:zeroP Tryz.prog 347=[.s .nilFunc]:=by kernel_rfl
theorem b347: Tryz.prog.bytesOf 347=8:=by kernel_rfl
theorem c348: Tryz.prog.cellsOf 348=1:=by kernel_rfl
theorem a348:aggP Tryz.prog 348=false:=by kernel_rfl
theorem t348:tyOk Tryz.prog 348=true:=by kernel_rfl
theorem z348:zeroP Tryz.prog 348=[.s .nilFunc]:=by kernel_rfl
theorem b348: Tryz.prog.bytesOf 348=8:=by kernel_rfl
theorem c349: Tryz.prog.cellsOf 349=1:=by kernel_rfl
theorem a349:aggP Tryz.prog 349=false:=by kernel_rfl
theorem t349:tyOk Tryz.prog 349=true:=by kernel_rfl
theorem z349:zeroP Tryz.prog 349=[.s .nilFunc]:=by kernel_rfl
theorem b349: Tryz.prog.bytesOf 349=8:=by kernel_rfl
theorem c350: Tryz.prog.cellsOf 350=65:=by kernel_rfl
theorem b350: Tryz.prog.bytesOf 350=65:=by kernel_rfl
theorem a350:aggP Tryz.prog 350=true:=by kernel_rfl
theorem t350:tyOk Tryz.prog 350=true:=by kernel_rfl
theorem z350:zeroP Tryz.prog 350=[.s (.int .u8 0),.s (.int .u8 0),.s (.int .u8 0),.s (.int .u8 0),.s (.int .u8 0),.s (.int .u8 0),.s (.int .u8 0),.s (.int .u8 0),.s (.int .u8 0),.s (.int .u8 0),.s (.int .u8 0),.s (.int .u8 0),.s (.int .u8 0),.s (.int .u8 0),.s (.int .u8 0),.s (.int .u8 0),.s (.int .u8 0),.s (.int .u8 0),.s (.int .u8 0),.s (.int .u8 0),.s (.int .u8 0),.s (.int .u8 0),.s (.int .u8 0),.s (.int .u8 0),.s (.int .u8 0),.s (.int .u8 0),.s (.int .u8 0),.s (.int .u8 0),.s (.int .u8 0),.s (.int .u8 0),.s (.int .u8 0),.s (.int .u8 0),.s (.int .u8 0),.s (.int .u8 0),.s (.int .u8 0),.s (.int .u8 0),.s (.int .u8 0),.s (.int .u8 0),.s (.int .u8 0),.s (.int .u8 0),.s (.int .u8 0),.s (.int .u8 0),.s (.int .u8 0),.s (.int .u8 0),.s (.int .u8 0),.s (.int .u8 0),.s (.int .u8 0),.s (.int .u8 0),.s (.int .u8 0),.s (.int .u8 0),.s (.int .u8 0),.s (.int .u8 0),.s (.int .u8 0),.s (.int .u8 0),.s (.int .u8 0),.s (.int .u8 0),.s (.int .u8 0),.s (.int .u8 0),.s (.int .u8 0),.s (.int .u8 0),.s (.int .u8 0),.s (.int .u8 0),.s (.int .u8 0),.s (.int .u8 0),.s (.int .u8 0)]:=by kernel_rfl
theorem e350:elemP Tryz.prog 350=5:=by kernel_rfl
theorem ar350:arT Tryz.prog 350=true:=by kernel_rfl
theorem l350:lenP Tryz.prog 350=65:=by kernel_rfl
theorem c351: Tryz.prog.cellsOf 351=1:=by kernel_rfl
theorem b351: Tryz.prog.bytesOf 351=8:=by kernel_rfl
theorem a351:aggP Tryz.prog 351=false:=by kernel_rfl
theorem t351:tyOk Tryz.prog 351=true:=by kernel_rfl
theorem z351:zeroP Tryz.prog 351=[.s (.pointer none)]:=by kernel_rfl
theorem e351:elemP Tryz.prog 351=325:=by kernel_rfl
theorem pt351:ptT Tryz.prog 351=true:=by kernel_rfl
theorem c352: Tryz.prog.cellsOf 352=1:=by kernel_rfl
theorem a352:aggP Tryz.prog 352=false:=by kernel_rfl
theorem t352:tyOk Tryz.prog 352=true:=by kernel_rfl
theorem z352:zeroP Tryz.prog 352=[.s .nilFunc]:=by kernel_rfl
theorem b352: Tryz.prog.bytesOf 352=8:=by kernel_rfl
theorem c353: Tryz.prog.cellsOf 353=1:=by kernel_rfl
theorem b353: Tryz.prog.bytesOf 353=8:=by kernel_rfl
theorem a353:aggP Tryz.prog 353=false:=by kernel_rfl
theorem t353:tyOk Tryz.prog 353=true:=by kernel_rfl
theorem z353:zeroP Tryz.prog 353=[.s (.int .i64 0)]:=by kernel_rfl
theorem c355: Tryz.prog.cellsOf 355=1:=by kernel_rfl
theorem a355:aggP Tryz.prog 355=false:=by kernel_rfl
theorem t355:tyOk Tryz.prog 355=true:=by kernel_rfl
theorem z355:zeroP Tryz.prog 355=[.s .nilFunc]:=by kernel_rfl
theorem b355: Tryz.prog.bytesOf 355=8:=by kernel_rfl
theorem c356: Tryz.prog.cellsOf 356=1:=by kernel_rfl
theorem b356: Tryz.prog.bytesOf 356=8:=by kernel_rfl
theorem a356:aggP Tryz.prog 356=false:=by kernel_rfl
theorem t356:tyOk Tryz.prog 356=true:=by kernel_rfl
theorem z356:zeroP Tryz.prog 356=[.s (.pointer none)]:=by kernel_rfl
theorem e356:elemP Tryz.prog 356=371:=by kernel_rfl
theorem pt356:ptT Tryz.prog 356=true:=by kernel_rfl
theorem c357: Tryz.prog.cellsOf 357=1:=by kernel_rfl
theorem a357:aggP Tryz.prog 357=false:=by kernel_rfl
theorem t357:tyOk Tryz.prog 357=true:=by kernel_rfl
theorem z357:zeroP Tryz.prog 357=[.s .nilFunc]:=by kernel_rfl
theorem b357: Tryz.prog.bytesOf 357=8:=by kernel_rfl
theorem c358: Tryz.prog.cellsOf 358=1:=by kernel_rfl
theorem a358:aggP Tryz.prog 358=false:=by kernel_rfl
theorem t358:tyOk Tryz.prog 358=true:=by kernel_rfl
theorem z358:zeroP Tryz.prog 358=[.s .nilFunc]:=by kernel_rfl
theorem b358: Tryz.prog.bytesOf 358=8:=by kernel_rfl
theorem c359: Tryz.prog.cellsOf 359=1:=by kernel_rfl
theorem a359:aggP Tryz.prog 359=false:=by kernel_rfl
theorem t359:tyOk Tryz.prog 359=true:=by kernel_rfl
theorem z359:zeroP Tryz.prog 359=[.s .nilFunc]:=by kernel_rfl
theorem b359: Tryz.prog.bytesOf 359=8:=by kernel_rfl
theorem c360: Tryz.prog.cellsOf 360=1:=by kernel_rfl
theorem a360:aggP Tryz.prog 360=false:=by kernel_rfl
theorem t360:tyOk Tryz.prog 360=true:=by kernel_rfl
theorem z360:zeroP Tryz.prog 360=[.s .nilFunc]:=by kernel_rfl
theorem b360: Tryz.prog.bytesOf 360=8:=by kernel_rfl
theorem c361: Tryz.prog.cellsOf 361=256:=by kernel_rfl
theorem b361: Tryz.prog.bytesOf 361=256:=by kernel_rfl
theorem a361:aggP Tryz.prog 361=true:=by kernel_rfl
theorem t361:tyOk Tryz.prog 361=true:=by kernel_rfl
theorem z361:zeroP Tryz.prog 361=[.s (.int .u8 0),.s (.int .u8 0),.s (.int .u8 0),.s (.int .u8 0),.s (.int .u8 0),.s (.int .u8 0),.s (.int .u8 0),.s (.int .u8 0),.s (.int .u8 0),.s (.int .u8 0),.s (.int .u8 0),.s (.int .u8 0),.s (.int .u8 0),.s (.int .u8 0),.s (.int .u8 0),.s (.int .u8 0),.s (.int .u8 0),.s (.int .u8 0),.s (.int .u8 0),.s (.int .u8 0),.s (.int .u8 0),.s (.int .u8 0),.s (.int .u8 0),.s (.int .u8 0),.s (.int .u8 0),.s (.int .u8 0),.s (.int .u8 0),.s (.int .u8 0),.s (.int .u8 0),.s (.int .u8 0),.s (.int .u8 0),.s (.int .u8 0),.s (.int .u8 0),.s (.int .u8 0),.s (.int .u8 0),.s (.int .u8 0),.s (.int .u8 0),.s (.int .u8 0),.s (.int .u8 0),.s (.int .u8 0),.s (.int .u8 0),.s (.int .u8 0),.s (.int .u8 0),.s (.int .u8 0),.s (.int .u8 0),.s (.int .u8 0),.s (.int .u8 0),.s (.int .u8 0),.s (.int .u8 0),.s (.int .u8 0),.s (.int .u8 0),.s (.int .u8 0),.s (.int .u8 0),.s (.int .u8 0),.s (.int .u8 0),.s (.int .u8 0),.s (.int .u8 0),.s (.int .u8 0),.s (.int .u8 0),.s (.int .u8 0),.s (.int .u8 0),.s (.int .u8 0),.s (.int .u8 0),.s (.int .u8 0),.s (.int .u8 0),.s (.int .u8 0),.s (.int .u8 0),.s (.int .u8 0),.s (.int .u8 0),.s (.int .u8 0),.s (.int .u8 0),.s (.int .u8 0),.s (.int .u8 0),.s (.int .u8 0),.s (.int .u8 0),.s (.int .u8 0),.s (.int .u8 0),.s (.int .u8 0),.s (.int .u8 0),.s (.int .u8 0),.s (.int .u8 0),.s (.int .u8 0),.s (.int .u8 0),.s (.int .u8 0),.s (.int .u8 0),.s (.int .u8 0),.s (.int .u8 0),.s (.int .u8 0),.s (.int .u8 0),.s (.int .u8 0),.s (.int .u8 0),.s (.int .u8 0),.s (.int .u8 0),.s (.int .u8 0),.s (.int .u8 0),.s (.int .u8 0),.s (.int .u8 0),.s (.int .u8 0),.s (.int .u8 0),.s (.int .u8 0),.s (.int .u8 0),.s (.int .u8 0),.s (.int .u8 0),.s (.int .u8 0),.s (.int .u8 0),.s (.int .u8 0),.s (.int .u8 0),.s (.int .u8 0),.s (.int .u8 0),.s (.int .u8 0),.s (.int .u8 0),.s (.int .u8 0),.s (.int .u8 0),.s (.int .u8 0),.s (.int .u8 0),.s (.int .u8 0),.s (.int .u8 0),.s (.int .u8 0),.s (.int .u8 0),.s (.int .u8 0),.s (.int .u8 0),.s (.int .u8 0),.s (.int .u8 0),.s (.int .u8 0),.s (.int .u8 0),.s (.int .u8 0),.s (.int .u8 0),.s (.int .u8 0),.s (.int .u8 0),.s (.int .u8 0),.s (.int .u8 0),.s (.int .u8 0),.s (.int .u8 0),.s (.int .u8 0),.s (.int .u8 0),.s (.int .u8 0),.s (.int .u8 0),.s (.int .u8 0),.s (.int .u8 0),.s (.int .u8 0),.s (.int .u8 0),.s (.int .u8 0),.s (.int .u8 0),.s (.int .u8 0),.s (.int .u8 0),.s (.int .u8 0),.s (.int .u8 0),.s (.int .u8 0),.s (.int .u8 0),.s (.int .u8 0),.s (.int .u8 0),.s (.int .u8 0),.s (.int .u8 0),.s (.int .u8 0),.s (.int .u8 0),.s (.int .u8 0),.s (.int .u8 0),.s (.int .u8 0),.s (.int .u8 0),.s (.int .u8 0),.s (.int .u8 0),.s (.int .u8 0),.s (.int .u8 0),.s (.int .u8 0),.s (.int .u8 0),.s (.int .u8 0),.s (.int .u8 0),.s (.int .u8 0),.s (.int .u8 0),.s (.int .u8 0),.s (.int .u8 0),.s (.int .u8 0),.s (.int .u8 0),.s (.int .u8 0),.s (.int .u8 0),.s (.int .u8 0),.s (.int .u8 0),.s (.int .u8 0),.s (.int .u8 0),.s (.int .u8 0),.s (.int .u8 0),.s (.int .u8 0),.s (.int .u8 0),.s (.int .u8 0),.s (.int .u8 0),.s (.int .u8 0),.s (.int .u8 0),.s (.int .u8 0),.s (.int .u8 0),.s (.int .u8 0),.s (.int .u8 0),.s (.int .u8 0),.s (.int .u8 0),.s (.int .u8 0),.s (.int .u8 0),.s (.int .u8 0),.s (.int .u8 0),.s (.int .u8 0),.s (.int .u8 0),.s (.int .u8 0),.s (.int .u8 0),.s (.int .u8 0),.s (.int .u8 0),.s (.int .u8 0),.s (.int .u8 0),.s (.int .u8 0),.s (.int .u8 0),.s (.int .u8 0),.s (.int .u8 0),.s (.int .u8 0),.s (.int .u8 0),.s (.int .u8 0),.s (.int .u8 0),.s (.int .u8 0),.s (.int .u8 0),.s (.int .u8 0),.s (.int .u8 0),.s (.int .u8 0),.s (.int .u8 0),.s (.int .u8 0),.s (.int .u8 0),.s (.int .u8 0),.s (.int .u8 0),.s (.int .u8 0),.s (.int .u8 0),.s (.int .u8 0),.s (.int .u8 0),.s (.int .u8 0),.s (.int .u8 0),.s (.int .u8 0),.s (.int .u8 0),.s (.int .u8 0),.s (.int .u8 0),.s (.int .u8 0),.s (.int .u8 0),.s (.int .u8 0),.s (.int .u8 0),.s (.int .u8 0),.s (.int .u8 0),.s (.int .u8 0),.s (.int .u8 0),.s (.int .u8 0),.s (.int .u8 0),.s (.int .u8 0),.s (.int .u8 0),.s (.int .u8 0),.s (.int .u8 0),.s (.int .u8 0),.s (.int .u8 0),.s (.int .u8 0),.s (.int .u8 0),.s (.int .u8 0),.s (.int .u8 0),.s (.int .u8 0),.s (.int .u8 0),.s (.int .u8 0)]:=by kernel_rfl
theorem e361:elemP Tryz.prog 361=5:=by kernel_rfl
theorem ar361:arT Tryz.prog 361=true:=by kernel_rfl
theorem l361:lenP Tryz.prog 361=256:=by kernel_rfl
theorem c362: Tryz.prog.cellsOf 362=2:=by kernel_rfl
theorem b362: Tryz.prog.bytesOf 362=2:=by kernel_rfl
theorem a362:aggP Tryz.prog 362=true:=by kernel_rfl
theorem t362:tyOk Tryz.prog 362=true:=by kernel_rfl
theorem z362:zeroP Tryz.prog 362=[.s (.int .u8 0),.s (.int .u8 0)]:=by kernel_rfl
theorem f362_0:fieldP Tryz.prog 362 0=some (0,5):=by kernel_rfl
theorem f362_1:fieldP Tryz.prog 362 1=some (1,5):=by kernel_rfl
theorem c363: Tryz.prog.cellsOf 363=2:=by kernel_rfl
theorem b363: Tryz.prog.bytesOf 363=2:=by kernel_rfl
theorem a363:aggP Tryz.prog 363=true:=by kernel_rfl
theorem t363:tyOk Tryz.prog 363=true:=by kernel_rfl
theorem z363:zeroP Tryz.prog 363=[.s (.int .u8 0),.s (.int .u8 0)]:=by kernel_rfl
theorem f363_0:fieldP Tryz.prog 363 0=some (0,5):=by kernel_rfl
theorem f363_1:fieldP Tryz.prog 363 1=some (1,5):=by kernel_rfl
theorem c364: Tryz.prog.cellsOf 364=32:=by kernel_rfl
theorem b364: Tryz.prog.bytesOf 364=32:=by kernel_rfl
theorem a364:aggP Tryz.prog 364=true:=by kernel_rfl
theorem t364:tyOk Tryz.prog 364=true:=by kernel_rfl
theorem z364:zeroP Tryz.prog 364=[.s (.int .u8 0),.s (.int .u8 0),.s (.int .u8 0),.s (.int .u8 0),.s (.int .u8 0),.s (.int .u8 0),.s (.int .u8 0),.s (.int .u8 0),.s (.int .u8 0),.s (.int .u8 0),.s (.int .u8 0),.s (.int .u8 0),.s (.int .u8 0),.s (.int .u8 0),.s (.int .u8 0),.s (.int .u8 0),.s (.int .u8 0),.s (.int .u8 0),.s (.int .u8 0),.s (.int .u8 0),.s (.int .u8 0),.s (.int .u8 0),.s (.int .u8 0),.s (.int .u8 0),.s (.int .u8 0),.s (.int .u8 0),.s (.int .u8 0),.s (.int .u8 0),.s (.int .u8 0),.s (.int .u8 0),.s (.int .u8 0),.s (.int .u8 0)]:=by kernel_rfl
theorem e364:elemP Tryz.prog 364=363:=by kernel_rfl
theorem ar364:arT Tryz.prog 364=true:=by kernel_rfl
theorem l364:lenP Tryz.prog 364=16:=by kernel_rfl
theorem c366: Tryz.prog.cellsOf 366=1:=by kernel_rfl
theorem a366:aggP Tryz.prog 366=false:=by kernel_rfl
theorem t366:tyOk Tryz.prog 366=true:=by kernel_rfl
theorem z366:zeroP Tryz.prog 366=[.s .nilFunc]:=by kernel_rfl
theorem b366: Tryz.prog.bytesOf 366=8:=by kernel_rfl
theorem c368: Tryz.prog.cellsOf 368=1:=by kernel_rfl
theorem a368:aggP Tryz.prog 368=false:=by kernel_rfl
theorem t368:tyOk Tryz.prog 368=true:=by kernel_rfl
theorem z368:zeroP Tryz.prog 368=[.s .nilFunc]:=by kernel_rfl
theorem b368: Tryz.prog.bytesOf 368=8:=by kernel_rfl
theorem c369: Tryz.prog.cellsOf 369=1:=by kernel_rfl
theorem a369:aggP Tryz.prog 369=false:=by kernel_rfl
theorem t369:tyOk Tryz.prog 369=true:=by kernel_rfl
theorem z369:zeroP Tryz.prog 369=[.s .nilFunc]:=by kernel_rfl
theorem b369: Tryz.prog.bytesOf 369=8:=by kernel_rfl
theorem c370: Tryz.prog.cellsOf 370=3:=by kernel_rfl
theorem b370: Tryz.prog.bytesOf 370=48:=by kernel_rfl
theorem a370:aggP Tryz.prog 370=true:=by kernel_rfl
theorem t370:tyOk Tryz.prog 370=true:=by kernel_rfl
theorem z370:zeroP Tryz.prog 370=[.s (.string "".toUTF8),.s (.string "".toUTF8),.s .nilIface]:=by kernel_rfl
theorem f370_0:fieldP Tryz.prog 370 0=some (0,9):=by kernel_rfl
theorem f370_1:fieldP Tryz.prog 370 1=some (1,9):=by kernel_rfl
theorem f370_2:fieldP Tryz.prog 370 2=some (2,238):=by kernel_rfl
theorem c371: Tryz.prog.cellsOf 371=3:=by kernel_rfl
theorem b371: Tryz.prog.bytesOf 371=48:=by kernel_rfl
theorem a371:aggP Tryz.prog 371=true:=by kernel_rfl
theorem t371:tyOk Tryz.prog 371=true:=by kernel_rfl
theorem z371:zeroP Tryz.prog 371=[.s (.string "".toUTF8),.s (.string "".toUTF8),.s .nilIface]:=by kernel_rfl
theorem f371_0:fieldP Tryz.prog 371 0=some (0,9):=by kernel_rfl
theorem f371_1:fieldP Tryz.prog 371 1=some (1,9):=by kernel_rfl
theorem f371_2:fieldP Tryz.prog 371 2=some (2,238):=by kernel_rfl
theorem c372: Tryz.prog.cellsOf 372=1:=by kernel_rfl
theorem a372:aggP Tryz.prog 372=false:=by kernel_rfl
theorem t372:tyOk Tryz.prog 372=true:=by kernel_rfl
theorem z372:zeroP Tryz.prog 372=[.s .nilFunc]:=by kernel_rfl
theorem b372: Tryz.prog.bytesOf 372=8:=by kernel_rfl
theorem c373: Tryz.prog.cellsOf 373=1:=by kernel_rfl
theorem a373:aggP Tryz.prog 373=false:=by kernel_rfl
theorem t373:tyOk Tryz.prog 373=true:=by kernel_rfl
theorem z373:zeroP Tryz.prog 373=[.s .nilFunc]:=by kernel_rfl
theorem b373: Tryz.prog.bytesOf 373=8:=by kernel_rfl
theorem c374: Tryz.prog.cellsOf 374=32:=by kernel_rfl
theorem b374: Tryz.prog.bytesOf 374=32:=by kernel_rfl
theorem a374:aggP Tryz.prog 374=true:=by kernel_rfl
theorem t374:tyOk Tryz.prog 374=true:=by kernel_rfl
theorem z374:zeroP Tryz.prog 374=[.s (.int .u8 0),.s (.int .u8 0),.s (.int .u8 0),.s (.int .u8 0),.s (.int .u8 0),.s (.int .u8 0),.s (.int .u8 0),.s (.int .u8 0),.s (.int .u8 0),.s (.int .u8 0),.s (.int .u8 0),.s (.int .u8 0),.s (.int .u8 0),.s (.int .u8 0),.s (.int .u8 0),.s (.int .u8 0),.s (.int .u8 0),.s (.int .u8 0),.s (.int .u8 0),.s (.int .u8 0),.s (.int .u8 0),.s (.int .u8 0),.s (.int .u8 0),.s (.int .u8 0),.s (.int .u8 0),.s (.int .u8 0),.s (.int .u8 0),.s (.int .u8 0),.s (.int .u8 0),.s (.int .u8 0),.s (.int .u8 0),.s (.int .u8 0)]:=by kernel_rfl
theorem e374:elemP Tryz.prog 374=5:=by kernel_rfl
theorem ar374:arT Tryz.prog 374=true:=by kernel_rfl
theorem l374:lenP Tryz.prog 374=32:=by kernel_rfl
theorem c375: Tryz.prog.cellsOf 375=64:=by kernel_rfl
theorem b375: Tryz.prog.bytesOf 375=64:=by kernel_rfl
theorem a375:aggP Tryz.prog 375=true:=by kernel_rfl
theorem t375:tyOk Tryz.prog 375=true:=by kernel_rfl
theorem z375:zeroP Tryz.prog 375=[.s (.int .u8 0),.s (.int .u8 0),.s (.int .u8 0),.s (.int .u8 0),.s (.int .u8 0),.s (.int .u8 0),.s (.int .u8 0),.s (.int .u8 0),.s (.int .u8 0),.s (.int .u8 0),.s (.int .u8 0),.s (.int .u8 0),.s (.int .u8 0),.s (.int .u8 0),.s (.int .u8 0),.s (.int .u8 0),.s (.int .u8 0),.s (.int .u8 0),.s (.int .u8 0),.s (.int .u8 0),.s (.int .u8 0),.s (.int .u8 0),.s (.int .u8 0),.s (.int .u8 0),.s (.int .u8 0),.s (.int .u8 0),.s (.int .u8 0),.s (.int .u8 0),.s (.int .u8 0),.s (.int .u8 0),.s (.int .u8 0),.s (.int .u8 0),.s (.int .u8 0),.s (.int .u8 0),.s (.int .u8 0),.s (.int .u8 0),.s (.int .u8 0),.s (.int .u8 0),.s (.int .u8 0),.s (.int .u8 0),.s (.int .u8 0),.s (.int .u8 0),.s (.int .u8 0),.s (.int .u8 0),.s (.int .u8 0),.s (.int .u8 0),.s (.int .u8 0),.s (.int .u8 0),.s (.int .u8 0),.s (.int .u8 0),.s (.int .u8 0),.s (.int .u8 0),.s (.int .u8 0),.s (.int .u8 0),.s (.int .u8 0),.s (.int .u8 0),.s (.int .u8 0),.s (.int .u8 0),.s (.int .u8 0),.s (.int .u8 0),.s (.int .u8 0),.s (.int .u8 0),.s (.int .u8 0),.s (.int .u8 0)]:=by kernel_rfl
theorem e375:elemP Tryz.prog 375=5:=by kernel_rfl
theorem ar375:arT Tryz.prog 375=true:=by kernel_rfl
theorem l375:lenP Tryz.prog 375=64:=by kernel_rfl
theorem c376: Tryz.prog.cellsOf 376=1:=by kernel_rfl
theorem a376:aggP Tryz.prog 376=false:=by kernel_rfl
theorem t376:tyOk Tryz.prog 376=true:=by kernel_rfl
theorem z376:zeroP Tryz.prog 376=[.s .nilFunc]:=by kernel_rfl
theorem b376: Tryz.prog.bytesOf 376=8:=by kernel_rfl
theorem c377: Tryz.prog.cellsOf 377=1:=by kernel_rfl
theorem b377: Tryz.prog.bytesOf 377=8:=by kernel_rfl
theorem a377:aggP Tryz.prog 377=false:=by kernel_rfl
theorem t377:tyOk Tryz.prog 377=true:=by kernel_rfl
theorem z377:zeroP Tryz.prog 377=[.s (.pointer none)]:=by kernel_rfl
theorem e377:elemP Tryz.prog 377=379:=by kernel_rfl
theorem pt377:ptT Tryz.prog 377=true:=by kernel_rfl
theorem c378: Tryz.prog.cellsOf 378=1:=by kernel_rfl
theorem b378: Tryz.prog.bytesOf 378=16:=by kernel_rfl
theorem a378:aggP Tryz.prog 378=true:=by kernel_rfl
theorem t378:tyOk Tryz.prog 378=true:=by kernel_rfl
theorem z378:zeroP Tryz.prog 378=[.s (.string "".toUTF8)]:=by kernel_rfl
theorem f378_0:fieldP Tryz.prog 378 0=some (0,9):=by kernel_rfl
theorem c379: Tryz.prog.cellsOf 379=1:=by kernel_rfl
theorem b379: Tryz.prog.bytesOf 379=16:=by kernel_rfl
theorem a379:aggP Tryz.prog 379=true:=by kernel_rfl
theorem t379:tyOk Tryz.prog 379=true:=by kernel_rfl
theorem z379:zeroP Tryz.prog 379=[.s (.string "".toUTF8)]:=by kernel_rfl
theorem f379_0:fieldP Tryz.prog 379 0=some (0,9):=by kernel_rfl
theorem c380: Tryz.prog.cellsOf 380=4:=by kernel_rfl
theorem b380: Tryz.prog.bytesOf 380=40:=by kernel_rfl
theorem a380:aggP Tryz.prog 380=true:=by kernel_rfl
theorem t380:tyOk Tryz.prog 380=true:=by kernel_rfl
theorem z380:zeroP Tryz.prog 380=[.s (.pointer none),.s (.pointer none),.s (.pointer none),.s (.string "".toUTF8)]:=by kernel_rfl
theorem f380_0:fieldP Tryz.prog 380 0=some (0,17):=by kernel_rfl
theorem f380_1:fieldP Tryz.prog 380 1=some (1,17):=by kernel_rfl
theorem f380_2:fieldP Tryz.prog 380 2=some (2,17):=by kernel_rfl
theorem f380_3:fieldP Tryz.prog 380 3=some (3,9):=by kernel_rfl
theorem c381: Tryz.prog.cellsOf 381=4:=by kernel_rfl
theorem b381: Tryz.prog.bytesOf 381=40:=by kernel_rfl
theorem a381:aggP Tryz.prog 381=true:=by kernel_rfl
theorem t381:tyOk Tryz.prog 381=true:=by kernel_rfl
theorem z381:zeroP Tryz.prog 381=[.s (.pointer none),.s (.pointer none),.s (.pointer none),.s (.string "".toUTF8)]:=by kernel_rfl
theorem f381_0:fieldP Tryz.prog 381 0=some (0,17):=by kernel_rfl
theorem f381_1:fieldP Tryz.prog 381 1=some (1,17):=by kernel_rfl
theorem f381_2:fieldP Tryz.prog 381 2=some (2,17):=by kernel_rfl
theorem f381_3:fieldP Tryz.prog 381 3=some (3,9):=by kernel_rfl
theorem c382: Tryz.prog.cellsOf 382=0:=by kernel_rfl
theorem b382: Tryz.prog.bytesOf 382=0:=by kernel_rfl
theorem a382:aggP Tryz.prog 382=true:=by kernel_rfl
theorem t382:tyOk Tryz.prog 382=true:=by kernel_rfl
theorem z382:zeroP Tryz.prog 382=[]:=by kernel_rfl
theorem e382:elemP Tryz.prog 382=16:=by kernel_rfl
theorem ar382:arT Tryz.prog 382=true:=by kernel_rfl
theorem l382:lenP Tryz.prog 382=0:=by kernel_rfl
theorem c383: Tryz.prog.cellsOf 383=0:=by kernel_rfl
theorem b383: Tryz.prog.bytesOf 383=0:=by kernel_rfl
theorem a383:aggP Tryz.prog 383=true:=by kernel_rfl
theorem t383:tyOk Tryz.prog 383=true:=by kernel_rfl
theorem z383:zeroP Tryz.prog 383=[]:=by kernel_rfl
theorem f383_0:fieldP Tryz.prog 383 0=some (0,382):=by kernel_rfl
theorem c384: Tryz.prog.cellsOf 384=0:=by kernel_rfl
theorem b384: Tryz.prog.bytesOf 384=0:=by kernel_rfl
theorem a384:aggP Tryz.prog 384=true:=by kernel_rfl
theorem t384:tyOk Tryz.prog 384=true:=by kernel_rfl
theorem z384:zeroP Tryz.prog 384=[]:=by kernel_rfl
theorem f384_0:fieldP Tryz.prog 384 0=some (0,382):=by kernel_rfl
theorem c385: Tryz.prog.cellsOf 385=1:=by kernel_rfl
theorem a385:aggP Tryz.prog 385=false:=by kernel_rfl
theorem t385:tyOk Tryz.prog 385=true:=by kernel_rfl
theorem z385:zeroP Tryz.prog 385=[.s .nilFunc]:=by kernel_rfl
theorem b385: Tryz.prog.bytesOf 385=8:=by kernel_rfl
theorem c386: Tryz.prog.cellsOf 386=1:=by kernel_rfl
theorem b386: Tryz.prog.bytesOf 386=1:=by kernel_rfl
theorem a386:aggP Tryz.prog 386=false:=by kernel_rfl
theorem t386:tyOk Tryz.prog 386=true:=by kernel_rfl
theorem z386:zeroP Tryz.prog 386=[.s (.int .u8 0)]:=by kernel_rfl
theorem c387: Tryz.prog.cellsOf 387=1:=by kernel_rfl
theorem b387: Tryz.prog.bytesOf 387=1:=by kernel_rfl
theorem a387:aggP Tryz.prog 387=false:=by kernel_rfl
theorem t387:tyOk Tryz.prog 387=true:=by kernel_rfl
theorem z387:zeroP Tryz.prog 387=[.s (.int .u8 0)]:=by kernel_rfl
theorem c388: Tryz.prog.cellsOf 388=1:=by kernel_rfl
theorem a388:aggP Tryz.prog 388=false:=by kernel_rfl
theorem t388:tyOk Tryz.prog 388=true:=by kernel_rfl
theorem z388:zeroP Tryz.prog 388=[.s .nilFunc]:=by kernel_rfl
theorem b388: Tryz.prog.bytesOf 388=8:=by kernel_rfl
theorem c389: Tryz.prog.cellsOf 389=1:=by kernel_rfl
theorem b389: Tryz.prog.bytesOf 389=4:=by kernel_rfl
theorem a389:aggP Tryz.prog 389=false:=by kernel_rfl
theorem t389:tyOk Tryz.prog 389=true:=by kernel_rfl
theorem z389:zeroP Tryz.prog 389=[.s (.int .i32 0)]:=by kernel_rfl
theorem c390: Tryz.prog.cellsOf 390=1:=by kernel_rfl
theorem b390: Tryz.prog.bytesOf 390=4:=by kernel_rfl
theorem a390:aggP Tryz.prog 390=false:=by kernel_rfl
theorem t390:tyOk Tryz.prog 390=true:=by kernel_rfl
theorem z390:zeroP Tryz.prog 390=[.s (.int .i32 0)]:=by kernel_rfl
theorem c391: Tryz.prog.cellsOf 391=11:=by kernel_rfl
theorem b391: Tryz.prog.bytesOf 391=48:=by kernel_rfl
theorem a391:aggP Tryz.prog 391=true:=by kernel_rfl
theorem t391:tyOk Tryz.prog 391=true:=by kernel_rfl
theorem z391:zeroP Tryz.prog 391=[.s (.int .u64 0),.s (.int .u64 0),.s (.int .u32 0),.s (.int .u8 0),.s (.int .u8 0),.s (.int .u8 0),.s (.int .u8 0),.s .nilFunc,.s (.pointer none),.s (.int .i32 0),.s (.int .i32 0)]:=by kernel_rfl
theorem f391_0:fieldP Tryz.prog 391 0=some (0,12):=by kernel_rfl
theorem f391_1:fieldP Tryz.prog 391 1=some (1,12):=by kernel_rfl
theorem f391_2:fieldP Tryz.prog 391 2=some (2,300):=by kernel_rfl
theorem f391_3:fieldP Tryz.prog 391 3=some (3,386):=by kernel_rfl
theorem f391_4:fieldP Tryz.prog 391 4=some (4,5):=by kernel_rfl
theorem f391_5:fieldP Tryz.prog 391 5=some (5,5):=by kernel_rfl
theorem f391_6:fieldP Tryz.prog 391 6=some (6,387):=by kernel_rfl
theorem f391_7:fieldP Tryz.prog 391 7=some (7,388):=by kernel_rfl
theorem f391_8:fieldP Tryz.prog 391 8=some (8,245):=by kernel_rfl
theorem f391_9:fieldP Tryz.prog 391 9=some (9,389):=by kernel_rfl
theorem f391_10:fieldP Tryz.prog 391 10=some (10,390):=by kernel_rfl
theorem c392: Tryz.prog.cellsOf 392=11:=by kernel_rfl
theorem b392: Tryz.prog.bytesOf 392=48:=by kernel_rfl
theorem a392:aggP Tryz.prog 392=true:=by kernel_rfl
theorem t392:tyOk Tryz.prog 392=true:=by kernel_rfl
theorem z392:zeroP Tryz.prog 392=[.s (.int .u64 0),.s (.int .u64 0),.s (.int .u32 0),.s (.int .u8 0),.s (.int .u8 0),.s (.int .u8 0),.s (.int .u8 0),.s .nilFunc,.s (.pointer none),.s (.int .i32 0),.s (.int .i32 0)]:=by kernel_rfl
theorem f392_0:fieldP Tryz.prog 392 0=some (0,12):=by kernel_rfl
theorem f392_1:fieldP Tryz.prog 392 1=some (1,12):=by kernel_rfl
theorem f392_2:fieldP Tryz.prog 392 2=some (2,300):=by kernel_rfl
theorem f392_3:fieldP Tryz.prog 392 3=some (3,386):=by kernel_rfl
theorem f392_4:fieldP Tryz.prog 392 4=some (4,5):=by kernel_rfl
theorem f392_5:fieldP Tryz.prog 392 5=some (5,5):=by kernel_rfl
theorem f392_6:fieldP Tryz.prog 392 6=some (6,387):=by kernel_rfl
theorem f392_7:fieldP Tryz.prog 392 7=some (7,388):=by kernel_rfl
theorem f392_8:fieldP Tryz.prog 392 8=some (8,245):=by kernel_rfl
theorem f392_9:fieldP Tryz.prog 392 9=some (9,389):=by kernel_rfl
theorem f392_10:fieldP Tryz.prog 392 10=some (10,390):=by kernel_rfl
theorem mixed: Tryz.prog.follows .mixedOrders=true:=by kernel_rfl
end Go.Proofs.Tryz.K
