/- Part 3 of the proof; the last part says what is proved. -/
import Derived.Test.YtonoegleildfnaaGreatOrders2
import Derived.Below
import Derived.Carry
import Derived.ChangeOld
import Derived.OpenShut
namespace Go.Proofs.Tryz.K
open Go.Abs
theorem kR{α:Sort _}{a b:α}(h:a=b:=by kernel_rfl):a=b:=h
instance:V (prog.cellsOf 1) 1:=⟨kR⟩
instance:V (aggP prog 1) false:=⟨a1⟩
instance:V (tyOk prog 1) true:=⟨kR⟩
instance:V (prog.bytesOf 1) 8:=⟨b1⟩
instance:V (prog.cellsOf 2) 1:=⟨kR⟩
instance:V (prog.bytesOf 2) 8:=⟨b2⟩
instance:V (aggP prog 2) false:=⟨a2⟩
instance:V (tyOk prog 2) true:=⟨kR⟩
instance:V (prog.cellsOf 3) 1:=⟨c3⟩
instance:V (prog.bytesOf 3) 8:=⟨b3⟩
instance:V (aggP prog 3) false:=⟨a3⟩
instance:V (tyOk prog 3) true:=⟨kR⟩
instance:V (zeroP prog 3) [.s (.int .i64 0)]:=⟨kR⟩
instance:V (prog.cellsOf 4) 1:=⟨c4⟩
instance:V (prog.bytesOf 4) 1:=⟨b4⟩
instance:V (aggP prog 4) false:=⟨a4⟩
instance:V (tyOk prog 4) true:=⟨kR⟩
instance:V (zeroP prog 4) [.s (.bool false)]:=⟨kR⟩
instance:V (boT prog 4) true:=⟨kR⟩
instance:V (prog.cellsOf 5) 1:=⟨c5⟩
instance:V (prog.bytesOf 5) 1:=⟨b5⟩
instance:V (aggP prog 5) false:=⟨a5⟩
instance:V (tyOk prog 5) true:=⟨kR⟩
instance:V (zeroP prog 5) [.s (.int .u8 0)]:=⟨kR⟩
instance:V (prog.bytesOf 6) 1:=⟨b6⟩
instance:V (aggP prog 6) false:=⟨a6⟩
instance:V (prog.cellsOf 9) 1:=⟨kR⟩
instance:V (aggP prog 9) false:=⟨kR⟩
instance:V (tyOk prog 9) true:=⟨kR⟩
instance:V (stT prog 9) true:=⟨kR⟩
instance:V (elemP prog 15) 275:=⟨zk⟩
instance:V (elemP prog 16) 278:=⟨zl⟩
instance:V (elemP prog 17) 287:=⟨zj⟩
instance:V (prog.cellsOf 22) 1:=⟨kR⟩
instance:V (aggP prog 22) false:=⟨kR⟩
instance:V (tyOk prog 22) true:=⟨kR⟩
instance:V (elemP prog 22) 5:=⟨NM⟩
instance:V (slT prog 22) true:=⟨ME⟩
instance:V (prog.cellsOf 23) 1:=⟨kR⟩
instance:V (aggP prog 23) false:=⟨kR⟩
instance:V (tyOk prog 23) true:=⟨kR⟩
instance:V (elemP prog 23) 9:=⟨kR⟩
instance:V (slT prog 23) true:=⟨kR⟩
instance:V (prog.cellsOf 24) 1:=⟨kR⟩
instance:V (aggP prog 24) false:=⟨kR⟩
instance:V (tyOk prog 24) true:=⟨kR⟩
instance:V (elemP prog 24) 72:=⟨kR⟩
instance:V (slT prog 24) true:=⟨kR⟩
instance:V (prog.cellsOf 26) 8:=⟨kR⟩
instance:V (aggP prog 26) true:=⟨kR⟩
instance:V (tyOk prog 26) true:=⟨kR⟩
instance:V (zeroP prog 26) [.s (.string "".toUTF8),.s (.bool false),.s (.int .i64 0),.s (.int .u8 0),.z,.z,.z,.z]:=⟨kR⟩
instance:V (fieldP prog 26 0) (some (0,9)):=⟨kR⟩
instance:V (fieldP prog 26 1) (some (1,4)):=⟨kR⟩
instance:V (fieldP prog 26 2) (some (2,3)):=⟨kR⟩
instance:V (fieldP prog 26 3) (some (3,5)):=⟨kR⟩
instance:V (fieldP prog 26 4) (some (4,22)):=⟨kR⟩
instance:V (fieldP prog 26 5) (some (5,22)):=⟨kR⟩
instance:V (fieldP prog 26 6) (some (6,23)):=⟨kR⟩
instance:V (fieldP prog 26 7) (some (7,24)):=⟨kR⟩
instance:V (prog.cellsOf 27) 1:=⟨wu⟩
instance:V (prog.bytesOf 27) 24:=⟨Ny⟩
instance:V (aggP prog 27) false:=⟨kR⟩
instance:V (tyOk prog 27) true:=⟨kR⟩
instance:V (zeroP prog 27) [.z]:=⟨kR⟩
instance:V (elemP prog 27) 3:=⟨zi⟩
instance:V (slT prog 27) true:=⟨yA⟩
instance:V (prog.cellsOf 28) 1:=⟨kR⟩
instance:V (aggP prog 28) false:=⟨kR⟩
instance:V (tyOk prog 28) true:=⟨kR⟩
instance:V (elemP prog 28) 27:=⟨kR⟩
instance:V (slT prog 28) true:=⟨kR⟩
instance:V (prog.cellsOf 52) 1:=⟨kR⟩
instance:V (aggP prog 52) false:=⟨kR⟩
instance:V (tyOk prog 52) true:=⟨kR⟩
instance:V (zeroP prog 52) [.z]:=⟨kR⟩
instance:V (elemP prog 52) 4:=⟨kR⟩
instance:V (slT prog 52) true:=⟨kR⟩
instance:V (prog.cellsOf 66) 6:=⟨kR⟩
instance:V (aggP prog 66) true:=⟨kR⟩
instance:V (tyOk prog 66) true:=⟨kR⟩
instance:V (zeroP prog 66) [.s (.int .u8 0),.s (.int .i64 0),.s (.int .i64 0),.s (.int .i64 0),.s (.int .i64 0),.z]:=⟨kR⟩
instance:V (fieldP prog 66 0) (some (0,5)):=⟨kR⟩
instance:V (fieldP prog 66 1) (some (1,3)):=⟨kR⟩
instance:V (fieldP prog 66 2) (some (2,3)):=⟨kR⟩
instance:V (fieldP prog 66 3) (some (3,3)):=⟨kR⟩
instance:V (fieldP prog 66 4) (some (4,3)):=⟨kR⟩
instance:V (fieldP prog 66 5) (some (5,27)):=⟨kR⟩
instance:V (prog.cellsOf 67) 1:=⟨kR⟩
instance:V (aggP prog 67) false:=⟨kR⟩
instance:V (tyOk prog 67) true:=⟨kR⟩
instance:V (elemP prog 67) 199:=⟨kR⟩
instance:V (slT prog 67) true:=⟨kR⟩
instance:V (prog.cellsOf 69) 15:=⟨kR⟩
instance:V (aggP prog 69) true:=⟨kR⟩
instance:V (tyOk prog 69) true:=⟨kR⟩
instance:V (zeroP prog 69) [.s (.int .u8 0),.s (.int .i64 0),.s (.int .i64 0),.s (.int .i64 0),.s (.int .i64 0),.s (.string "".toUTF8),.s (.int .u8 0),.s (.int .i64 0),.s (.int .i64 0),.s (.int .i64 0),.s (.int .i64 0),.z,.z,.z,.s (.int .i64 0)]:=⟨kR⟩
instance:V (fieldP prog 69 0) (some (0,5)):=⟨kR⟩
instance:V (fieldP prog 69 1) (some (1,3)):=⟨kR⟩
instance:V (fieldP prog 69 2) (some (2,3)):=⟨kR⟩
instance:V (fieldP prog 69 3) (some (3,3)):=⟨kR⟩
instance:V (fieldP prog 69 4) (some (4,3)):=⟨kR⟩
instance:V (fieldP prog 69 5) (some (5,9)):=⟨kR⟩
instance:V (fieldP prog 69 6) (some (6,66)):=⟨kR⟩
instance:V (fieldP prog 69 7) (some (12,27)):=⟨kR⟩
instance:V (fieldP prog 69 8) (some (13,67)):=⟨kR⟩
instance:V (fieldP prog 69 9) (some (14,3)):=⟨kR⟩
instance:V (prog.cellsOf 70) 1:=⟨kR⟩
instance:V (aggP prog 70) false:=⟨kR⟩
instance:V (tyOk prog 70) true:=⟨kR⟩
instance:V (elemP prog 70) 66:=⟨kR⟩
instance:V (slT prog 70) true:=⟨kR⟩
instance:V (prog.cellsOf 72) 16:=⟨kR⟩
instance:V (aggP prog 72) true:=⟨kR⟩
instance:V (tyOk prog 72) true:=⟨kR⟩
instance:V (zeroP prog 72) [.z,.s (.int .u8 0),.s (.int .i64 0),.s (.int .i64 0),.s (.int .i64 0),.s (.int .i64 0),.s (.string "".toUTF8),.s (.int .u8 0),.s (.int .i64 0),.s (.int .i64 0),.s (.int .i64 0),.s (.int .i64 0),.z,.z,.z,.s (.int .i64 0)]:=⟨kR⟩
instance:V (fieldP prog 72 0) (some (0,70)):=⟨kR⟩
instance:V (fieldP prog 72 1) (some (1,69)):=⟨kR⟩
instance:V (prog.cellsOf 79) 1:=⟨kR⟩
instance:V (aggP prog 79) false:=⟨kR⟩
instance:V (tyOk prog 79) true:=⟨kR⟩
instance:V (tyOk prog 89) true:=⟨kR⟩
instance:V (zeroP prog 89) [.s (.string "".toUTF8),.s (.bool false),.s (.int .i64 0),.s (.int .u8 0),.z,.z,.z,.z,.z,.z,.z]:=⟨kR⟩
instance:V (fieldP prog 89 0) (some (0,26)):=⟨kR⟩
instance:V (fieldP prog 89 1) (some (8,28)):=⟨kR⟩
instance:V (fieldP prog 89 2) (some (9,28)):=⟨kR⟩
instance:V (fieldP prog 89 3) (some (10,52)):=⟨kR⟩
instance:V (prog.cellsOf 98) 1:=⟨kR⟩
instance:V (aggP prog 98) false:=⟨kR⟩
instance:V (tyOk prog 98) true:=⟨kR⟩
instance:V (prog.cellsOf 128) 1:=⟨kR⟩
instance:V (aggP prog 128) false:=⟨kR⟩
instance:V (tyOk prog 128) true:=⟨kR⟩
instance:V (zeroP prog 128) [.s .nilFunc]:=⟨kR⟩
instance:V (prog.cellsOf 131) 1:=⟨kR⟩
instance:V (aggP prog 131) false:=⟨kR⟩
instance:V (tyOk prog 131) true:=⟨kR⟩
instance:V (prog.cellsOf 133) 10:=⟨MV⟩
instance:V (aggP prog 133) true:=⟨MU⟩
instance:V (tyOk prog 133) true:=⟨t133⟩
instance:V (zeroP prog 133) [.s (.string "".toUTF8),.s (.bool false),.s (.int .i64 0),.s (.int .u8 0),.z,.z,.z,.z,.s (.map none),.s (.map none)]:=⟨kR⟩
instance:V (fieldP prog 133 0) (some (0,26)):=⟨kR⟩
instance:V (fieldP prog 133 1) (some (8,131)):=⟨kR⟩
instance:V (fieldP prog 133 2) (some (9,131)):=⟨kR⟩
instance:V (elemP prog 155) 158:=⟨kR⟩
instance:V (slT prog 155) true:=⟨kR⟩
instance:V (prog.cellsOf 158) 2:=⟨jx⟩
instance:V (prog.bytesOf 158) 32:=⟨MZ⟩
instance:V (aggP prog 158) true:=⟨oD⟩
instance:V (tyOk prog 158) true:=⟨t158⟩
instance:V (zeroP prog 158) [.s (.bool false),.z]:=⟨kR⟩
instance:V (fieldP prog 158 0) (some (0,4)):=⟨kR⟩
instance:V (fieldP prog 158 1) (some (1,52)):=⟨kR⟩
instance:V (prog.cellsOf 199) 2:=⟨kR⟩
instance:V (aggP prog 199) true:=⟨kR⟩
instance:V (tyOk prog 199) true:=⟨kR⟩
instance:V (zeroP prog 199) [.s (.string "".toUTF8),.s (.int .i64 0)]:=⟨kR⟩
instance:V (fieldP prog 199 0) (some (0,9)):=⟨kR⟩
instance:V (fieldP prog 199 1) (some (1,3)):=⟨kR⟩
instance:V (prog.cellsOf 205) 6:=⟨kR⟩
instance:V (aggP prog 205) true:=⟨ET⟩
instance:V (tyOk prog 205) true:=⟨kR⟩
instance:V (zeroP prog 205) [.s (.int .i64 0),.s (.int .i64 0),.s (.int .i64 0),.s (.int .i64 0),.s (.int .i64 0),.s (.int .i64 0)]:=⟨EU⟩
instance:V (fieldP prog 205 0) (some (0,3)):=⟨kR⟩
instance:V (fieldP prog 205 1) (some (1,3)):=⟨kR⟩
instance:V (fieldP prog 205 2) (some (2,3)):=⟨kR⟩
instance:V (fieldP prog 205 3) (some (3,3)):=⟨kR⟩
instance:V (fieldP prog 205 4) (some (4,3)):=⟨kR⟩
instance:V (fieldP prog 205 5) (some (5,3)):=⟨kR⟩
instance:V (prog.cellsOf 208) 9:=⟨kR⟩
instance:V (aggP prog 208) true:=⟨kR⟩
instance:V (tyOk prog 208) true:=⟨kR⟩
instance:V (zeroP prog 208) [.s (.string "".toUTF8),.s (.bool false),.s (.int .i64 0),.s (.int .u8 0),.z,.z,.z,.z,.z]:=⟨kR⟩
instance:V (fieldP prog 208 0) (some (0,26)):=⟨kR⟩
instance:V (fieldP prog 208 1) (some (8,28)):=⟨kR⟩
instance:V (elemP prog 227) 231:=⟨kR⟩
instance:V (slT prog 227) true:=⟨kR⟩
instance:V (prog.cellsOf 231) 20:=⟨oz⟩
instance:V (prog.bytesOf 231) 160:=⟨Mw⟩
instance:V (aggP prog 231) true:=⟨qO⟩
instance:V (tyOk prog 231) true:=⟨t231⟩
instance:V (zeroP prog 231) [.s (.int .u64 0),.s (.int .u64 0),.s (.int .u64 0),.s (.int .u64 0),.s (.int .u64 0),.s (.int .u64 0),.s (.int .u64 0),.s (.int .u64 0),.s (.int .u64 0),.s (.int .u64 0),.s (.int .u64 0),.s (.int .u64 0),.s (.int .u64 0),.s (.int .u64 0),.s (.int .u64 0),.s (.int .u64 0),.s (.int .u64 0),.s (.int .u64 0),.s (.int .u64 0),.s (.int .u64 0)]:=⟨Mv⟩
instance:V (elemP prog 231) 98:=⟨kR⟩
instance:V (arT prog 231) true:=⟨kR⟩
instance:V (lenP prog 231) 20:=⟨kR⟩
instance:V (prog.underlying 8) (some (.struct (g' prog 8))):=⟨u8⟩
instance:V (prog.underlying 22) (some (.slice 5)):=⟨kR⟩
instance:V (prog.underlying 66) (some (.struct (g' prog 66))):=⟨kR⟩
instance:V (((g' prog 66).toList.map fun f=>(f.offset,prog.cellsOf f.type))) [(0,1),(1,1),(2,1),(3,1),(4,1),(5,1)]:=⟨kR⟩
instance:V (((g' prog 66).toList.all fun f=>(prog.info? f.type).isSome)) true:=⟨kR⟩
instance:V (prog.underlying 89) (some (.struct (g' prog 89))):=⟨kR⟩
instance:V (((g' prog 89).toList.map fun f=>(f.offset,prog.cellsOf f.type))) [(0,8),(8,1),(9,1),(10,1)]:=⟨kR⟩
instance:V (((g' prog 89).toList.all fun f=>(prog.info? f.type).isSome)) true:=⟨kR⟩
instance:V (mkeyP prog 127) 3:=⟨D7⟩
instance:V (mapT prog 127) true:=⟨D8⟩
instance:V (mkeyP prog 131) 5:=⟨kR⟩
instance:V (mapT prog 131) true:=⟨kR⟩
instance:V (melP prog 131) 205:=⟨Eg⟩
instance:V (prog.underlying 133) (some (.struct (g' prog 133))):=⟨kR⟩
instance:V (((g' prog 133).toList.map fun f=>(f.offset,prog.cellsOf f.type))) [(0,8),(8,1),(9,1)]:=⟨kR⟩
instance:V (((g' prog 133).toList.all fun f=>(prog.info? f.type).isSome)) true:=⟨kR⟩
instance:V (prog.underlying 158) (some (.struct (g' prog 158))):=⟨kR⟩
instance:V (((g' prog 158).toList.map fun f=>(f.offset,prog.cellsOf f.type))) [(0,1),(1,1)]:=⟨kR⟩
instance:V (((g' prog 158).toList.all fun f=>(prog.info? f.type).isSome)) true:=⟨kR⟩
instance:V (prog.underlying 205) (some (.struct (g' prog 205))):=⟨kR⟩
instance:V (((g' prog 205).toList.map fun f=>(f.offset,prog.cellsOf f.type))) [(0,1),(1,1),(2,1),(3,1),(4,1),(5,1)]:=⟨kR⟩
instance:V (((g' prog 205).toList.all fun f=>(prog.info? f.type).isSome)) true:=⟨kR⟩
instance:V (prog.underlying 208) (some (.struct (g' prog 208))):=⟨kR⟩
instance:V (((g' prog 208).toList.map fun f=>(f.offset,prog.cellsOf f.type))) [(0,8),(8,1)]:=⟨kR⟩
instance:V (((g' prog 208).toList.all fun f=>(prog.info? f.type).isSome)) true:=⟨kR⟩
instance:V (prog.underlying 2) (some (.int .i64)):=⟨u2⟩
instance:V (prog.underlying 3) (some (.int .i64)):=⟨kR⟩
instance:V (prog.underlying 5) (some (.int .u8)):=⟨u5⟩
instance:V (prog.underlying 189) (some (.int .u64)):=⟨kR⟩
end Go.Proofs.Tryz.K
namespace Go.Abs
open Go.Argus
section
variable{P:Program}{Y:YSpec}{ops:Array Oper}{dr:Bool}{cf:List (Nat×Nat)}{Q:Exit->St->Prop}{r:List Oper}{v:Env}{m:Mem}{n:Nat}{q:Tra}{x:Oper}{s:St}{e:List Nat×List Nat}
theorem jf{p:Prop}(h:p:=by first|rfl|exact bn rfl|(simp;done)|(simp;omega)|omega):p:=h
theorem yV{p:Prop}(h:p:=by first|omega|exact bn rfl|(simp;done)|(simp;omega)):p:=h
theorem mH{p:Prop}(h:p:=by first|(simp;done)|exact⟨rfl,bn rfl⟩|(simp;omega)):p:=h
theorem Fx{p:Prop}(h:p:=by first|rfl|exact iZ _|(simp[iZ];done)|exact CD):p:=h
theorem yW{p:Prop}(h:p:=by first|(simp;done)|omega|exact bn rfl):p:=h
theorem yX{p:Prop}(h:p:=by unfold maxLen;first|omega|(simp;omega)):p:=h
theorem Bv{p:Prop}(h:p:=by first|rfl|(simp;done)|(simp;omega)):p:=h
theorem Bw{p:Prop}(h:p:=by first|(simp;done)|(simp;omega)):p:=h
theorem nI{p:Prop}(h:p:=by first|(simp;done)|fail):p:=h
theorem yY{p:Prop}(h:p:=by first|decide|simp):p:=h
def oT(x:Oper):Nat:=2*(match x.op with
 | .move ..=>1
 | .assign ..=>2
 | .pick ..=>3
 | .alloc ..=>4
 | .box ..=>5
 | .build ..=>6
 | .buildSlice ..=>7
 | .insert ..=>8
 | .load ..=>9
 | .store ..=>10
 | .nilCheck ..=>11
 | .unOp ..=>12
 | .convert ..=>13
 | .makeFunc ..=>14
 | .makeMap ..=>15
 | .makeSlice ..=>16
 | .slice ..=>17
 | .fieldAddr ..=>18
 | .field ..=>19
 | .indexAddr ..=>20
 | .index ..=>21
 | .lookup ..=>22
 | .mapUpdate ..=>23
 | .extract ..=>24
 | .call ..=>25
 | .binOp .add ..=>26
 | .binOp .sub ..=>27
 | .binOp .mul ..=>28
 | .binOp .quo ..=>29
 | .binOp .rem ..=>30
 | .binOp .and ..=>31
 | .binOp .or ..=>32
 | .binOp .xor ..=>33
 | .binOp .shl ..=>34
 | .binOp .shr ..=>35
 | .binOp .andNot ..=>36
 | .binOp .eql ..=>37
 | .binOp .neq ..=>38
 | .binOp .lss ..=>39
 | .binOp .leq ..=>40
 | .binOp .gtr ..=>41
 | .binOp .geq ..=>42
 |_=>0)+(match x.guard with
 |none=>0
 |_=>1)
theorem SS2(ht:oT x=2:=by exact rfl)(h:SO P Y ops dr x v m n s e:=by intro _ _ _ _ k;first|exact aD (gZ (v:=.s (.int _ _)) rfl) ak trivial k|exact aD (gZ (v:=.s (.bool _)) rfl) ak trivial k|exact aD (gZ (v:=.sl _ _) rfl) ak trivial k|exact aD (gZ (v:=.rs _ _ _) rfl) ak trivial k|exact aD (gZ (v:=.pt _) rfl) ak trivial k|exact aD (gZ (v:=.fn _ _ _) rfl) ak trivial k|exact aD (gZ (v:=.s (.string _)) rfl) ak trivial k|exact aD (gZ (v:=.mp _) rfl) ak trivial k|exact aD (gZ (v:=.rp _ _) rfl) ak trivial k|exact aD (gZ (v:=_) rfl) ak trivial k|fail):SO P Y ops dr x v m n s e:=h
theorem SS4(ht:oT x=4:=by exact rfl)(h:SO P Y ops dr x v m n s e:=by intro _ _ _ _ k;first|exact aD (kn (v:=.s (.bool _)) rfl) ak trivial k|exact aD (kn (v:=.s (.int _ _)) rfl) ak trivial k|exact aD (kn (v:=.sl _ _) rfl) ak trivial k|exact aD (kn (v:=.rs _ _ _) rfl) ak trivial k|exact aD (kn (v:=.z) rfl) ak trivial k|exact aD (kn (v:=.pt _) rfl) ak trivial k|exact aD (kn (v:=.s (.pointer none)) rfl) ak trivial k|exact aD (kn (v:=.mp _) rfl) ak trivial k|fail):SO P Y ops dr x v m n s e:=h
theorem XD(ht:oT x=18:=by exact rfl)(h:SO P Y ops dr x v m n s e:=by intro _ _ _ _ k;first|exact aD (jI (vs:=ay _) rfl V.h V.h rfl) ak (jJ V.h V.h nI) k|exact aD (jI (vs:=a8 _) rfl V.h V.h rfl) ak (jJ V.h V.h nI) k|exact aD (jI (vs:=aW _) rfl V.h V.h rfl) ak (jJ V.h V.h nI) k|exact aD (jI (vs:=aZ _ _ _) rfl V.h V.h rfl) ak (jJ V.h V.h nI) k|exact aD (jI (vs:=dS _) rfl V.h V.h rfl) ak (jJ V.h V.h nI) k|exact aD (dQ rfl rfl V.h V.h (jT jf)) ak (dR V.h V.h jf) k|exact aD (jI (vs:=bq _ _) rfl V.h V.h rfl) ak (jJ V.h V.h nI) k|exact aD (dQ (vs:=aW _) rfl rfl V.h V.h rfl) ak (dR V.h V.h yW) k|exact aD (dQ (vs:=a8 _) rfl (up_same _ _ _) V.h V.h rfl) ak (dR V.h V.h yW) k|exact aD (jI rfl V.h V.h rfl) ak (jJ V.h V.h nI) k|exact aD (jI (vs:=jh _) rfl V.h V.h rfl) ak (jJ V.h V.h nI) k|exact aD (dQ rfl rfl V.h V.h rfl) ak (dR V.h V.h yW) k|exact aD (dQ rfl (aw oG rfl) V.h V.h (jT jf)) ak (dR V.h V.h jf) k|exact aD (dQ rfl (up_same _ _ _) V.h V.h rfl) ak (dR V.h V.h yW) k|exact aD (Ju rfl V.h) ak (JC V.h V.h) k|exact aD (gd rfl rfl kd V.h) ak (gf V.h V.h kd) k|exact aD (gd rfl av kd V.h) ak (gf V.h V.h kd) k|exact aD (gd rfl eO kd V.h) ak (gf V.h V.h kd) k|exact aD (gd rfl (up_same _ _ _) kd V.h) ak (gf V.h V.h kd) k|exact aD (gd rfl rfl rfl V.h) ak (gf V.h V.h rfl) k|exact aD (gd rfl av rfl V.h) ak (gf V.h V.h rfl) k|exact aD (gd rfl eO rfl V.h) ak (gf V.h V.h rfl) k|fail):SO P Y ops dr x v m n s e:=h
theorem XE(ht:oT x=19:=by exact rfl)(h:SO P Y ops dr x v m n s e:=by intro _ _ _ _ k;first|exact bl rfl rfl (Ju rfl V.h) (fun hc=>⟨ak,(JC V.h V.h)⟩) k|exact bl rfl rfl (jI (vs:=bq _ _) rfl V.h V.h rfl) (fun hc=>⟨ak,(jJ V.h V.h nI)⟩) k|exact bl rfl rfl (jI (vs:=aZ _ _ _) rfl V.h V.h rfl) (fun hc=>⟨ak,(jJ V.h V.h nI)⟩) k|exact bl rfl rfl (gd rfl rfl rfl V.h) (fun hc=>⟨ak,(gf V.h V.h rfl)⟩) k|exact bl rfl rfl (jI (vs:=aW _) rfl V.h V.h rfl) (fun hc=>⟨ak,(jJ V.h V.h nI)⟩) k|exact bl rfl rfl (jI (vs:=a8 _) rfl V.h V.h rfl) (fun hc=>⟨ak,(jJ V.h V.h nI)⟩) k|exact bl rfl rfl (gd rfl (up_same _ _ _) rfl V.h) (fun hc=>⟨ak,(gf V.h V.h rfl)⟩) k|exact bl rfl rfl (dQ rfl rfl V.h V.h rfl) (fun hc=>⟨ak,(dR V.h V.h yW)⟩) k|exact bl rfl rfl (dQ rfl (aw oG rfl) V.h V.h (jT jf)) (fun hc=>⟨ak,(dR V.h V.h jf)⟩) k|fail):SO P Y ops dr x v m n s e:=h
theorem XF(ht:oT x=36:=by exact rfl)(h:SO P Y ops dr x v m n s e:=by intro _ _ _ _ k;first|exact aD (Ic rfl V.h) ak (pO V.h) k|exact aD (rO rfl rfl V.h) ak (pO V.h) k|exact aD (rO rfl av V.h) ak (pO V.h) k|exact aD (rO rfl eO V.h) ak (pO V.h) k|exact aD (rO rfl (up_same _ _ _) V.h) ak (pO V.h) k|fail):SO P Y ops dr x v m n s e:=h
theorem SS6(ht:oT x=6:=by exact rfl)(h:SO P Y ops dr x v m n s e:=by intro _ _ _ _ k;first|exact Rm rfl rfl (by first|exact trivial|exact rfl) k|exact Rn rfl rfl (by first|exact trivial|exact rfl) k|exact Sy rfl rfl rfl (fun h=>by first|exact trivial|exact rfl|exact h|(show Eq _ _;rw[h];rfl)|(show Eq _ _;simp[h];done)|(show Eq _ _;simp_all;done)|fail) (fun h=>by first|exact trivial|exact rfl|exact h|(show Eq _ _;rw[h];rfl)|(show Eq _ _;simp[h];done)|(show Eq _ _;simp_all;done)|fail) k|fail):SO P Y ops dr x v m n s e:=h
theorem XG(ht:oT x=37:=by exact rfl)(h:SO P Y ops dr x v m n s e:=by intro _ _ _ _ k;first|exact bl rfl rfl (Ic rfl V.h) (fun hc=>⟨ak,(pO V.h)⟩) k|exact bl rfl rfl (rO rfl rfl V.h) (fun hc=>⟨ak,(pO V.h)⟩) k|exact bl rfl rfl (rO rfl (up_same _ _ _) V.h) (fun hc=>⟨ak,(pO V.h)⟩) k|fail):SO P Y ops dr x v m n s e:=h
theorem XH(ht:oT x=74:=by exact rfl)(h:SO P Y ops dr x v m n s e:=by intro _ _ _ _ k;first|exact aD (Dy rfl rfl fE) ak rfl k|exact aD (DQ rfl rfl) ak rfl k|fail):SO P Y ops dr x v m n s e:=h
theorem XI(ht:oT x=40:=by exact rfl)(h:SO P Y ops dr x v m n s e:=by intro _ _ _ _ k;first|exact aD (JA rfl rfl V.h V.h (by assumption)) ak (JB V.h (by assumption)) k|exact aD (rU rfl rfl V.h V.h (uM) (by assumption)) ak (rV V.h (uM) (by assumption)) k|exact aD (rU rfl rfl V.h V.h (zD) (by assumption)) ak (rV V.h (zD) (by assumption)) k|exact aD (SA rfl rfl rfl V.h V.h V.h) ak ⟨V.h,by omega⟩ k|exact aD (rU rfl rfl V.h V.h (wD) (by assumption)) ak (rV V.h (wD) (by assumption)) k|exact aD (rU rfl rfl V.h V.h (GJ) (by assumption)) ak (rV V.h (GJ) (by assumption)) k|exact aD (kY rfl rfl rfl V.h V.h) ak ⟨V.h,by omega⟩ k|exact aD (kY rfl rfl av V.h V.h) ak ⟨V.h,by omega⟩ k|exact aD (kY rfl rfl (aw oG (aw oG av)) V.h V.h) ak ⟨V.h,by omega⟩ k|exact aD (kY rfl rfl (aw oG (aw oG (aw oG av))) V.h V.h) ak ⟨V.h,by omega⟩ k|exact aD (kY rfl rfl eO V.h V.h) ak ⟨V.h,by omega⟩ k|exact aD (kY rfl rfl (up_same _ _ _) V.h V.h) ak ⟨V.h,by omega⟩ k|exact aD (wU rfl rfl rfl V.h V.h) ak ⟨V.h,by omega⟩ k|exact aD (SB rfl rfl (up_same _ _ _) V.h V.h) ak ⟨V.h,by omega⟩ k|fail):SO P Y ops dr x v m n s e:=h
theorem SS3(ht:oT x=3:=by exact rfl)(h:SO P Y ops dr x v m n s e:=by intro _ _ _ _ k;first|exact bl rfl rfl (gZ (v:=.s (.int _ _)) rfl) (fun hc=>⟨ak,trivial⟩) k|exact bl rfl rfl (gZ (v:=.s (.bool _)) rfl) (fun hc=>⟨ak,trivial⟩) k|exact bl rfl rfl (gZ (v:=.sl _ _) rfl) (fun hc=>⟨ak,trivial⟩) k|exact bl rfl rfl (gZ (v:=.s (.string _)) rfl) (fun hc=>⟨ak,trivial⟩) k|exact bl rfl rfl (gZ (v:=.rs _ _ _) rfl) (fun hc=>⟨ak,trivial⟩) k|exact bl rfl rfl (gZ (v:=.z) rfl) (fun hc=>⟨ak,trivial⟩) k|exact bl rfl rfl (gZ (v:=.fn _ _ _) rfl) (fun hc=>⟨ak,trivial⟩) k|fail):SO P Y ops dr x v m n s e:=h
theorem XJ(ht:oT x=20:=by exact rfl)(h:SO P Y ops dr x v m n s e:=by intro _ _ _ _ k;first|exact cE (gl (d:=.s (.bool _)) (cs':=_) rfl rfl rfl rfl rfl) ak (dx V.h V.h mH rfl) k|exact cE (gl (d:=.s (.string _)) (cs':=_) rfl rfl rfl rfl rfl) ak (dx V.h V.h mH rfl) k|exact cE (fR rfl rfl rfl (Db jf jf)) ak (wN jf jf Fx) k|exact cE (fR (cs':=dS _) rfl rfl (up_same _ _ _) rfl) ak (dx V.h V.h mH (by rfl)) k|exact cE (fR (cs':=a8 _) rfl rfl (up_same _ _ _) rfl) ak (dx V.h V.h mH (by rfl)) k|exact cE (fR rfl rfl (up_same _ _ _) (Db jf jf)) ak (wN jf jf Fx) k|exact cE (fR (cs':=jh _) rfl rfl (up_same _ _ _) rfl) ak (dx V.h V.h mH (by rfl)) k|exact cE (fR rfl rfl rfl rfl) ak (dx V.h V.h mH (by rfl)) k|exact cE (fR rfl rfl (up_same _ _ _) rfl) ak (dx V.h V.h mH (by rfl)) k|exact cE (gl (d:=.s (.int _ _)) (cs':=_) rfl rfl rfl rfl rfl) ak (dx V.h V.h mH rfl) k|exact cE (gl (d:=.s (.int _ _)) (cs':=_) rfl rfl (up_same _ _ _) rfl rfl) ak (dx V.h V.h mH rfl) k|exact cE (fR rfl rfl (aw oG rfl) (Db jf jf)) ak (wN jf jf Fx) k|exact cE (fR rfl rfl rfl (KL (by decide) (by assumption) (by assumption) (by first|assumption|(simp;omega)|(simp;done)|fail))) ak (wN (by first|(simp;omega)|(simp;done)|fail) (tE (by assumption) (by assumption)) (iZ _)) k|exact cE (gl (d:=.rs _ _ _) (cs':=_) rfl rfl rfl rfl rfl) ak (dx V.h V.h mH rfl) k|exact cE (gl (d:=.rs _ _ _) (cs':=_) rfl rfl (aw oG (aw oG av)) rfl rfl) ak (dx V.h V.h mH rfl) k|exact cE (gl (d:=.rs _ _ _) (cs':=_) rfl rfl (aw oG (aw oG (aw oG av))) rfl rfl) ak (dx V.h V.h mH rfl) k|exact cE (gl (d:=.z) (cs':=_) rfl rfl rfl rfl rfl) ak (dx V.h V.h mH rfl) k|fail):SO P Y ops dr x v m n s e:=h
theorem XK(ht:oT x=50:=by exact rfl)(h:SO P Y ops dr x v m n s e:=by intro _ _ _ _ k;first|exact aD (KA rfl) ak V.h k|exact aD (Dt rfl) ak V.h k|exact tN (tt rfl rfl rfl V.h V.h (Hy ou) rfl) ak ⟨V.h,rfl,yV,(by decide),Bv,yX,(by rw[b3];first|omega|(simp;omega)),Bw⟩ k|exact aD (Ds rfl rfl) ak V.h k|exact aD (Ds rfl av) ak V.h k|exact tN (tt rfl rfl rfl V.h V.h (uO rfl rfl) rfl) ak ⟨V.h,rfl,yV,(by decide),Bv,yX,(by rw[b3];first|omega|(simp;omega)),Bw⟩ k|exact tN (tt rfl (aw oG av) rfl V.h V.h (uO (up_same _ _ _) rfl) rfl) ak ⟨V.h,rfl,yV,(by decide),Bv,yX,(by rw[b3];first|omega|(simp;omega)),Bw⟩ k|exact tN (tt rfl (aw oG eO) rfl V.h V.h (uO (up_same _ _ _) rfl) rfl) ak ⟨V.h,rfl,yV,(by decide),Bv,yX,(by rw[b3];first|omega|(simp;omega)),Bw⟩ k|exact fW (Tk rfl rfl V.h V.h (uO (up_same _ _ _) rfl)) ak ⟨V.h,yV,(by decide),yX,(by rw[b3];first|omega|(simp;omega))⟩ k|fail):SO P Y ops dr x v m n s e:=h
theorem XL(ht:oT x=52:=by exact rfl)(h:SO P Y ops dr x v m n s e:=by intro _ _ _ _ k;first|exact aD (Kx rfl rfl oG) ak rfl k|fail):SO P Y ops dr x v m n s e:=h
theorem XM(ht:oT x=75:=by exact rfl)(h:SO P Y ops dr x v m n s e:=by intro _ _ _ _ k;first|exact bl rfl rfl (Dy rfl rfl fE) (fun hc=>⟨ak,rfl⟩) k|exact bl rfl rfl (Dy rfl rfl AB) (fun hc=>⟨ak,rfl⟩) k|exact bl rfl rfl (DQ rfl rfl) (fun hc=>⟨ak,rfl⟩) k|exact bl rfl rfl (Dq rfl rfl) (fun hc=>⟨ak,trivial⟩) k|fail):SO P Y ops dr x v m n s e:=h
theorem XN(ht:oT x=10:=by exact rfl)(h:SO P Y ops dr x v m n s e:=by intro _ _ _ _ k;first|exact fW (pF (cs:=ay _) rfl) ak (by first|rfl|exact qo eK eL|exact iZ _|exact qD cS) k|exact fW (pF rfl) ak (by first|rfl|exact qo eK eL|exact iZ _|exact qD cS) k|exact fW (pF (cs:=aW _) rfl) ak (by first|rfl|exact qo eK eL|exact iZ _|exact qD cS) k|exact fW (pF (cs:=a8 _) rfl) ak (by first|rfl|exact qo eK eL|exact iZ _|exact qD cS) k|exact fW (pF (cs:=aZ _ _ _) rfl) ak (by first|rfl|exact qo eK eL|exact iZ _|exact qD cS) k|exact fW (pF (cs:=bq _ _) rfl) ak (by first|rfl|exact qo eK eL|exact iZ _|exact qD cS) k|exact fW (Ah (d:=.s (.int _ _)) rfl rfl) ak rfl k|fail):SO P Y ops dr x v m n s e:=h
theorem XO(ht:oT x=78:=by exact rfl)(h:SO P Y ops dr x v m n s e:=by intro _ _ _ _ k;first|exact aD (JI rfl rfl sm) ak rfl k|exact aD (DM rfl rfl) ak rfl k|fail):SO P Y ops dr x v m n s e:=h
theorem SS8(ht:oT x=8:=by exact rfl)(h:SO P Y ops dr x v m n s e:=by intro _ _ _ _ k;first|exact fW (Sm V.h) ak V.h k|fail):SO P Y ops dr x v m n s e:=h
theorem XP(ht:oT x=51:=by exact rfl)(h:SO P Y ops dr x v m n s e:=by intro _ _ _ _ k;first|exact bl rfl rfl (KA rfl) (fun hc=>⟨ak,V.h⟩) k|fail):SO P Y ops dr x v m n s e:=h
theorem XQ(ht:oT x=24:=by exact rfl)(h:SO P Y ops dr x v m n s e:=by intro _ _ _ _ k;first|exact aD (Ky rfl) ak trivial k|fail):SO P Y ops dr x v m n s e:=h
theorem XR(ht:oT x=14:=by exact rfl)(h:SO P Y ops dr x v m n s e:=by intro _ _ _ _ k;first|exact fW (zA (cs:=[_]) V.h V.h V.h rfl rfl) ak ⟨rfl,by decide,V.h,by decide⟩ k|exact fW (zA (cs:=[_,_]) V.h V.h V.h rfl rfl) ak ⟨rfl,by decide,V.h,by decide⟩ k|exact fW (zA (cs:=[]) V.h V.h V.h rfl rfl) ak ⟨rfl,by decide,V.h,by decide⟩ k|fail):SO P Y ops dr x v m n s e:=h
theorem XS(ht:oT x=83:=by exact rfl)(h:SO P Y ops dr x v m n s e:=by intro _ _ _ _ k;first|exact bl rfl rfl (JJ rfl rfl qM) (fun hc=>⟨ak,rfl⟩) k|exact bl rfl rfl (DO rfl rfl) (fun hc=>⟨ak,rfl⟩) k|fail):SO P Y ops dr x v m n s e:=h
theorem XT(ht:oT x=41:=by exact rfl)(h:SO P Y ops dr x v m n s e:=by intro _ _ _ _ k;first|exact bl rfl rfl (JA rfl rfl V.h V.h (by assumption)) (fun hc=>⟨ak,(JB V.h (by assumption))⟩) k|exact bl rfl rfl (rU rfl rfl V.h V.h (zD) (by assumption)) (fun hc=>⟨ak,(rV V.h (zD) (by assumption))⟩) k|fail):SO P Y ops dr x v m n s e:=h
theorem XU(ht:oT x=25:=by exact rfl)(h:SO P Y ops dr x v m n s e:=by intro _ _ _ _ k;first|exact bl rfl rfl (Ky rfl) (fun hc=>⟨ak,trivial⟩) k|fail):SO P Y ops dr x v m n s e:=h
theorem XV(ht:oT x=76:=by exact rfl)(h:SO P Y ops dr x v m n s e:=by intro _ _ _ _ k;first|exact aD (JK rfl rfl ja) ak rfl k|exact aD (DR rfl rfl) ak rfl k|fail):SO P Y ops dr x v m n s e:=h
theorem XW(ht:oT x=12:=by exact rfl)(h:SO P Y ops dr x v m n s e:=by intro _ _ _ _ k;first|exact aD (Cv V.h V.h V.h rfl rfl) ak ⟨V.h,V.h⟩ k|fail):SO P Y ops dr x v m n s e:=h
theorem XX(ht:oT x=48:=by exact rfl)(h:SO P Y ops dr x v m n s e:=by intro _ _ _ _ k;first|exact aD (nP (v:=.s (.int _ _)) rfl rfl) ak yY k|exact aD (nP (v:=.s (.bool _)) rfl rfl) ak yY k|exact aD (nP (v:=.sl _ _) rfl rfl) ak yY k|exact aD (nP (v:=.z) rfl rfl) ak yY k|exact aD (nP (v:=.agg _) rfl rfl) ak yY k|fail):SO P Y ops dr x v m n s e:=h
theorem SS7(ht:oT x=7:=by exact rfl)(h:SO P Y ops dr x v m n s e:=by intro _ _ _ _ k;first|exact PY rfl rfl rfl rfl (by first|exact fun _=>trivial|exact fun _=>rfl|exact fun hc=>hc) (by first|exact fun _=>trivial|exact fun _=>rfl|exact fun hc=>hc) k|exact PZ rfl rfl rfl rfl (by first|exact fun _=>trivial|exact fun _=>rfl|exact fun hc=>hc) (by first|exact fun _=>trivial|exact fun _=>rfl|exact fun hc=>hc) k|exact Rp rfl rfl rfl rfl rfl (by first|exact fun _=>trivial|exact fun _=>rfl|exact fun hc=>hc) (fun hc h=>by first|exact trivial|exact rfl|exact hc|(show Eq _ _;rw[hc,h];rfl)|(show Eq _ _;rw[h,hc];rfl)|(show Eq _ _;simp[hc,h];done)|(show Eq _ _;simp_all;done)|fail) (fun hc h=>by first|exact trivial|exact rfl|exact hc|(show Eq _ _;rw[hc,h];rfl)|(show Eq _ _;rw[h,hc];rfl)|(show Eq _ _;simp[hc,h];done)|(show Eq _ _;simp_all;done)|fail) k|fail):SO P Y ops dr x v m n s e:=h
theorem XY(ht:oT x=16:=by exact rfl)(h:SO P Y ops dr x v m n s e:=by intro _ _ _ _ k;first|exact cE (Rr rfl rfl rfl rfl V.h) ak ⟨V.h,by kernel_rfl,by kernel_rfl⟩ k|fail):SO P Y ops dr x v m n s e:=h
theorem XZ(ht:oT x=54:=by exact rfl)(h:SO P Y ops dr x v m n s e:=by intro _ _ _ _ k;first|exact aD (JL rfl rfl ow) ak rfl k|exact aD (DT rfl rfl oG) ak rfl k|fail):SO P Y ops dr x v m n s e:=h
theorem X0(ht:oT x=84:=by exact rfl)(h:SO P Y ops dr x v m n s e:=by intro _ _ _ _ k;first|exact aD (Tu rfl rfl AT) ak rfl k|exact aD (DP rfl rfl) ak rfl k|fail):SO P Y ops dr x v m n s e:=h
theorem X2(ht:oT x=22:=by exact rfl)(h:SO P Y ops dr x v m n s e:=by intro _ _ _ _ k;first|exact aD (Jv rfl) ak trivial k|exact aD (Jw rfl av) ak trivial k|exact aD (Jw rfl eO) ak trivial k|fail):SO P Y ops dr x v m n s e:=h
theorem X3(ht:oT x=32:=by exact rfl)(h:SO P Y ops dr x v m n s e:=by intro _ _ _ _ k;first|exact fW (zP rfl rfl V.h V.h) ak ⟨by omega,rfl,by omega,by rw[b4];omega,V.h⟩ k|exact fW (zP rfl rfl V.h V.h) ak ⟨by omega,rfl,by omega,by rw[Ny];omega,V.h⟩ k|fail):SO P Y ops dr x v m n s e:=h
theorem X4(ht:oT x=81:=by exact rfl)(h:SO P Y ops dr x v m n s e:=by intro _ _ _ _ k;first|exact bl rfl rfl (Tv rfl rfl Mf) (fun hc=>⟨ak,rfl⟩) k|exact bl rfl rfl (DN rfl rfl) (fun hc=>⟨ak,rfl⟩) k|fail):SO P Y ops dr x v m n s e:=h
theorem X5(ht:oT x=77:=by exact rfl)(h:SO P Y ops dr x v m n s e:=by intro _ _ _ _ k;first|exact bl rfl rfl (DR rfl rfl) (fun hc=>⟨ak,rfl⟩) k|fail):SO P Y ops dr x v m n s e:=h
theorem X6(ht:oT x=55:=by exact rfl)(h:SO P Y ops dr x v m n s e:=by intro _ _ _ _ k;first|exact bl rfl rfl (JL rfl rfl ow) (fun hc=>⟨ak,rfl⟩) k|exact bl rfl rfl (DT rfl rfl oG) (fun hc=>⟨ak,rfl⟩) k|fail):SO P Y ops dr x v m n s e:=h
theorem X7(ht:oT x=28:=by exact rfl)(h:SO P Y ops dr x v m n s e:=by intro _ _ _ _ k;first|exact aD (Jz rfl rfl) ak trivial k|fail):SO P Y ops dr x v m n s e:=h
theorem X8(ht:oT x=82:=by exact rfl)(h:SO P Y ops dr x v m n s e:=by intro _ _ _ _ k;first|exact aD (DO rfl rfl) ak rfl k|fail):SO P Y ops dr x v m n s e:=h
theorem X9(ht:oT x=79:=by exact rfl)(h:SO P Y ops dr x v m n s e:=by intro _ _ _ _ k;first|exact bl rfl rfl (DM rfl rfl) (fun hc=>⟨ak,rfl⟩) k|fail):SO P Y ops dr x v m n s e:=h
theorem X'(ht:oT x=42:=by exact rfl)(h:SO P Y ops dr x v m n s e:=by intro _ _ _ _ k;first|exact aD (Jy rfl rfl) ak ⟨V.h,by omega,by omega⟩ k|fail):SO P Y ops dr x v m n s e:=h
theorem Ya(ht:oT x=43:=by exact rfl)(h:SO P Y ops dr x v m n s e:=by intro _ _ _ _ k;first|exact bl rfl rfl (Jy rfl rfl) (fun hc=>⟨ak,⟨V.h,by omega,by omega⟩⟩) k|fail):SO P Y ops dr x v m n s e:=h
theorem Yb(ht:oT x=30:=by exact rfl)(h:SO P Y ops dr x v m n s e:=by intro _ _ _ _ k;first|exact fW Ua ak trivial k|fail):SO P Y ops dr x v m n s e:=h
theorem Yc(ht:oT x=15:=by exact rfl)(h:SO P Y ops dr x v m n s e:=by intro _ _ _ _ k;first|exact Tt rfl rfl (zA (cs:=[_]) V.h V.h V.h rfl rfl) ak ⟨rfl,by decide,V.h,by decide⟩ k|fail):SO P Y ops dr x v m n s e:=h
theorem SS(K:AOps P Y ops dr cf Q r s (q++[e]))(h:SO P Y ops dr x v m n s e:=by first|exact SS2|exact SS4|exact XD|exact XE|exact XF|exact SS6|exact XG|exact XH|exact XI|exact SS3|exact XJ|exact XK|exact XL|exact XM|exact XN|exact XO|exact SS8|exact XP|exact XQ|exact XR|exact XS|exact XT|exact XU|exact XV|exact XW|exact XX|exact SS7|exact XY|exact XZ|exact X0|exact X2|exact X3|exact X4|exact X5|exact X6|exact X7|exact X8|exact X9|exact X'|exact Ya|exact Yb|exact Yc):AOps P Y ops dr cf Q (x::r) ⟨v,m,n⟩ q:=h _ _ _ _ K
variable{x2 x3 x4 x5 x6 x7 x8 x9:Oper}{e2 e3 e4 e5 e6 e7 e8 e9:List Nat×List Nat}
theorem af(K:AOps P Y ops dr cf Q r s (q++[e]++[e2]))(h:∀ cf Q r q,AOps P Y ops dr cf Q r s (q++[e]++[e2])->AOps P Y ops dr cf Q (x::x2::r) ⟨v,m,n⟩ q:=by intro _ _ _ _ k;(iterate 2 refine SS ?_);exact k):AOps P Y ops dr cf Q (x::x2::r) ⟨v,m,n⟩ q:=h _ _ _ _ K
theorem ap(K:AOps P Y ops dr cf Q r s (q++[e]++[e2]++[e3]))(h:∀ cf Q r q,AOps P Y ops dr cf Q r s (q++[e]++[e2]++[e3])->AOps P Y ops dr cf Q (x::x2::x3::r) ⟨v,m,n⟩ q:=by intro _ _ _ _ k;(iterate 3 refine SS ?_);exact k):AOps P Y ops dr cf Q (x::x2::x3::r) ⟨v,m,n⟩ q:=h _ _ _ _ K
theorem aN(K:AOps P Y ops dr cf Q r s (q++[e]++[e2]++[e3]++[e4]))(h:∀ cf Q r q,AOps P Y ops dr cf Q r s (q++[e]++[e2]++[e3]++[e4])->AOps P Y ops dr cf Q (x::x2::x3::x4::r) ⟨v,m,n⟩ q:=by intro _ _ _ _ k;(iterate 4 refine SS ?_);exact k):AOps P Y ops dr cf Q (x::x2::x3::x4::r) ⟨v,m,n⟩ q:=h _ _ _ _ K
theorem aR(K:AOps P Y ops dr cf Q r s (q++[e]++[e2]++[e3]++[e4]++[e5]))(h:∀ cf Q r q,AOps P Y ops dr cf Q r s (q++[e]++[e2]++[e3]++[e4]++[e5])->AOps P Y ops dr cf Q (x::x2::x3::x4::x5::r) ⟨v,m,n⟩ q:=by intro _ _ _ _ k;(iterate 5 refine SS ?_);exact k):AOps P Y ops dr cf Q (x::x2::x3::x4::x5::r) ⟨v,m,n⟩ q:=h _ _ _ _ K
theorem bF(K:AOps P Y ops dr cf Q r s (q++[e]++[e2]++[e3]++[e4]++[e5]++[e6]))(h:∀ cf Q r q,AOps P Y ops dr cf Q r s (q++[e]++[e2]++[e3]++[e4]++[e5]++[e6])->AOps P Y ops dr cf Q (x::x2::x3::x4::x5::x6::r) ⟨v,m,n⟩ q:=by intro _ _ _ _ k;(iterate 6 refine SS ?_);exact k):AOps P Y ops dr cf Q (x::x2::x3::x4::x5::x6::r) ⟨v,m,n⟩ q:=h _ _ _ _ K
theorem dF(K:AOps P Y ops dr cf Q r s (q++[e]++[e2]++[e3]++[e4]++[e5]++[e6]++[e7]))(h:∀ cf Q r q,AOps P Y ops dr cf Q r s (q++[e]++[e2]++[e3]++[e4]++[e5]++[e6]++[e7])->AOps P Y ops dr cf Q (x::x2::x3::x4::x5::x6::x7::r) ⟨v,m,n⟩ q:=by intro _ _ _ _ k;(iterate 7 refine SS ?_);exact k):AOps P Y ops dr cf Q (x::x2::x3::x4::x5::x6::x7::r) ⟨v,m,n⟩ q:=h _ _ _ _ K
theorem bH(K:AOps P Y ops dr cf Q r s (q++[e]++[e2]++[e3]++[e4]++[e5]++[e6]++[e7]++[e8]))(h:∀ cf Q r q,AOps P Y ops dr cf Q r s (q++[e]++[e2]++[e3]++[e4]++[e5]++[e6]++[e7]++[e8])->AOps P Y ops dr cf Q (x::x2::x3::x4::x5::x6::x7::x8::r) ⟨v,m,n⟩ q:=by intro _ _ _ _ k;(iterate 8 refine SS ?_);exact k):AOps P Y ops dr cf Q (x::x2::x3::x4::x5::x6::x7::x8::r) ⟨v,m,n⟩ q:=h _ _ _ _ K
theorem aQ(K:AOps P Y ops dr cf Q r s (q++[e]++[e2]++[e3]++[e4]++[e5]++[e6]++[e7]++[e8]++[e9]))(h:∀ cf Q r q,AOps P Y ops dr cf Q r s (q++[e]++[e2]++[e3]++[e4]++[e5]++[e6]++[e7]++[e8]++[e9])->AOps P Y ops dr cf Q (x::x2::x3::x4::x5::x6::x7::x8::x9::r) ⟨v,m,n⟩ q:=by intro _ _ _ _ k;(iterate 9 refine SS ?_);exact k):AOps P Y ops dr cf Q (x::x2::x3::x4::x5::x6::x7::x8::x9::r) ⟨v,m,n⟩ q:=h _ _ _ _ K
end
end Go.Abs
namespace Go.Abs
open Go.ChangeShapes Go.WideShapes
inductive ve:List Sh->List D->Prop
 |nil:ve [] []
 |cons {s:Sh} {l:List Sh} {ds:List D} (x:s.val) (hx:s.ok x) (h:ve l ds):ve (s::l) (s.arg x::ds)
def sx(P:Program)(n:Nat):List TypeId->Option (List Sh)
 |[]=>some []
 |t::ts=>match shT P n t,sx P n ts with
  |some s,some l=>some (s::l)
  |_,_=>none
theorem Q2{P:Program}{n:Nat}{t:TypeId}{ts:List TypeId}{l:List Sh}(h:sx P n (t::ts)=some l):∃ s C,shT P n t=some s/\sx P n ts=some C/\l=s::C:=by
 simp only[sx] at h;split at h
 .rename_i s C h1 h2;simp only[aF] at h;exact⟨s,C,h1,h2,h.symm⟩
 .cases h
section
variable{P:Program}{H:Type}{ec:TypeId×Value->H}{w w':World}{base b0:Nat}{r:Reach}
theorem Ku{n:Nat}:∀ {ts:List TypeId} {C:List Sh} {vs:List Value} {ds:List (DataW H)} {ps:List MemPlace},sx P n ts=some C->
 (∀ (j:Nat) t v,ts[j]? =some t->vs[j]? =some v->Value.okWide P w r b0 t v)->DataW.TrodAll ec P w base (fun _=>true) true ts vs ds ps->
 ∃ aS,ve C aS/\aS.length=vs.length/\∀ (k:Nat) (d:D) (v:Value),aS[k]? =some d->vs[k]? =some v->R (fun _=>False) noRows w d v
 |[],C,[],[],_,hs,_,_=>by
  simp only[sx,aF] at hs;subst hs;exact⟨[],.nil,rfl,oS⟩
 |t::ts,C,v::vs,d::ds,ps,hs,bS,h=>by
  obtain⟨p,q,h1,h2,_⟩:=h;obtain⟨s,X,J,M,rfl⟩:=Q2 hs;obtain⟨x,U,hx⟩:=arg_R J (bS 0 t v rfl rfl) h1;obtain⟨aS,a1,a2,a3⟩:=Ku M (fun j t v hj hv=>bS (j+1) t v (by simpa using hj) (by simpa using hv)) h2;refine⟨s.arg x::aS,.cons x U a1,by simp[a2],fun k d v hd hv=>?_⟩;cases k with
  |zero=>
   simp only[List.getElem?_cons_zero,aF] at hd hv;subst hd hv;exact hx
  |succ k=>exact a3 k d v (by simpa using hd) (by simpa using hv)
 |[],_,_::_,_,_,_,_,h=>by simp[DataW.TrodAll] at h
 |[],_,[],_::_,_,_,_,h=>by simp[DataW.TrodAll] at h
 |_::_,_,[],_,_,_,_,h=>by simp[DataW.TrodAll] at h
 |_::_,_,_::_,[],_,_,_,h=>by simp[DataW.TrodAll] at h
theorem Kept.same(h:Kept w w'){p:MemPlace}(hp:p.block<w.heap.size):w.sameAt w' p:=by
 cases p with
 |cell b o=>exact Go.World.cell?_of_block (w:=w) (h.2.1 b hp)
 |map b=>exact h.2.1 b hp
theorem Kept.frame(h:Kept w w')(C:MemPlace->Prop):w.keptBut w' C:=by
 refine⟨h.2.2.1,h.2.2.2,fun i hi=>?_⟩;rw[h.2.1 i hi];split<;>simp_all
theorem Gh(hl:laidOutB P=true)(h:Kept w w'):∀ {ts:List TypeId} {vs:List Value} {ds:List (DataW H)} {ps:List MemPlace},(ts.all fun t=>P.readableRec t&&decide (t<P.types.size))=true->
 DataW.TrodAll ec P w 0 (fun _=>true) true ts vs ds ps->DataW.TrodAll ec P w' 0 (fun b=>decide (b<w.heap.size)) true ts vs ds ps
 |[],[],[],_,_,h0=>h0
 |t::ts,v::vs,d::ds,ps,ht,h0=>by
  obtain⟨p,q,h1,h2,rfl⟩:=h0;simp only[List.all_cons,aM,decide_eq_true_eq] at ht;have al:∀ x∈p,x.block<w.heap.size:=by obtain⟨m,hm⟩:=h1;exact DataW.trod_lt m _ _ _ hm
  exact⟨p,q,WideElems.Trod_stays hl ht.1.1 ht.1.2 h1 (fun x hx=>h.same (al x hx)) (fun x hx=>by simpa using al x hx),Gh hl h (by simpa using ht.2) h2,rfl⟩
 |[],_::_,_,_,_,h0=>by simp[DataW.TrodAll] at h0
 |[],[],_::_,_,_,h0=>by simp[DataW.TrodAll] at h0
 |_::_,[],_,_,_,h0=>by simp[DataW.TrodAll] at h0
 |_::_,_::_,[],_,_,h0=>by simp[DataW.TrodAll] at h0
theorem Gw:∀ {ts:List TypeId} {vs:List Value} {ds:List (DataW H)} {ps:List MemPlace},DataW.TrodAll ec P w 0 (fun _=>true) true ts vs ds ps->ds.length=ts.length
 |[],[],[],_,_=>rfl
 |t::ts,v::vs,d::ds,ps,h0=>by
  obtain⟨p,q,h1,h2,rfl⟩:=h0;simp[Gw h2]
 |[],_::_,_,_,h0=>by simp[DataW.TrodAll] at h0
 |[],[],_::_,_,h0=>by simp[DataW.TrodAll] at h0
 |_::_,[],_,_,h0=>by simp[DataW.TrodAll] at h0
 |_::_,_::_,[],_,h0=>by simp[DataW.TrodAll] at h0
end
theorem ON{C:Checked}{f:FuncId}{fn:Func}{s:ChangeSpec}{H:Type}{ec:TypeId×Value->H}{n:Nat}{uH:List Sh}{tb:TypeId}
 (L4:s.vars=[]) (X:∀ ds:List (DataW H),ds.length=fn.params.size->s.fn H ds={ results:=[.lit (.bool true)],args:=ds })
 (Xh:laidOutB C.prog=true) (Xi:(fn.params.toList.all fun t=>C.prog.readableRec t&&decide (t<C.prog.types.size))=true) (jX:fn.resultTypes= #[tb]) (hb:C.prog.underlying tb=some .bool)
 (hsh:sx C.prog n fn.params.toList=some uH) (h:∀ aS,ve uH aS->PCall C.prog f aS (.s (.bool true)))
 (W:World) (base:Nat) (args:Array Value) (ds gs:List (DataW H)) (before:List MemPlace)
 (yE:∀ (j:Nat) t v,fn.params[j]? =some t->args[j]? =some v->Value.okWide C.prog W .any base t v)
 (hW:DataW.Whole ec C.prog fn.params.toList s.vars false W args.toList ds gs before):
 Calls C.prog f args W fun e W'=>∃ v,e=.returned v/\s.post ec C.prog fn false true false false W args v W':=by
 have U:=hW;obtain⟨p,q,J,M,rfl,hfz,de⟩:=hW;rw[L4] at M
 have hg:gs=[]/\q=[]:=by
  cases gs with
  |nil=>exact⟨rfl,M⟩
  |cons g gs=>exact M.elim
 obtain⟨rfl,rfl⟩:=hg;obtain⟨aS,a1,a2,a3⟩:=Ku hsh (fun j t v hj hv=>yE j t v (by simpa using hj) (by simpa using hv)) J;refine((h aS a1).2.2 (fun _=>False) W args (fun _ hf=>hf.elim) ⟨by simpa using a2.symm,fun k d v hd hv=>a3 k d v hd (by simpa using hv)⟩).mono ?_;rintro e W' ⟨v,rfl,hv,hk⟩;obtain⟨rfl,_⟩:=hv.s_inv;have hlen:ds.length=fn.params.size:=by simpa using Gw J
 refine⟨_,rfl,ds,[],_,[],p,[],U,?_,?_,?_,hk.frame _,fun h=>by cases h⟩
 .rw[List.append_nil,X ds hlen,jX];exact⟨[],[],⟨1,by simp[DataW.trod,Value.cells,hb]⟩,rfl,rfl⟩
 .rw[List.append_nil,X ds hlen];exact Gh Xh hk Xi J
 .rw[List.append_nil,X ds hlen,L4];rfl
end Go.Abs
section
open Go Go.Abs Go.Proofs Go.Argus
namespace Go.Proofs.Tryz.K
set_option maxRecDepth 10000
theorem Ex{l:List Int}{g:FuncId}{fs cs:List D}{p:Int->Bool}(ht:Tr (.fn (.func g) fs cs))(hg:∀ x∈l,PCall prog g (fs++[U8 x]++cs) (B (p x))):PCall prog 252 [io l,.fn (.func g) fs cs] (I (nu p l)):=by
 refine lK D2.he (.cons (mV _) (.cons ht .nil)) fun C=>?_;have hlen:=(C (io l) oS).sl.1;unfold maxLen at hlen;refine a7 D2 (.cons (mV _) (.cons ht .nil)) (Tr.s _) ?_;rw[Up];refine ws ?_;refine SS ?_;refine ab (aB (au ?_));refine ap ?_
 refine ab (bZ (fun s=>Ghost prog s ⟨ax [],fun _=>none,0⟩/\∀ (j:Nat) y,l[j]? =some y->p y=false) (eN (α:=Nat) (fun k=>⟨ax [(0,io l),(1,.fn (.func g) fs cs),(7,I l.length),(8,I k)],fun _=>none,0⟩)
  (fun k=>k<=l.length/\∀ j y,j<k->l[j]? =some y->p y=false) (fun k=>l.length - k) 0 (ao eH) ⟨oG,fun j y hj=>by omega⟩ ?_) ?_)
 .rintro k ⟨hk,hinv⟩;refine SS ?_;refine ab ⟨_,rfl,fun h=>?_,fun h=>?_⟩
  .have al:k<l.length:=by simpa using h
   have hx:l[k]? =some l[k]:=by simp[al]
   generalize l[k]=x at hx;have M:=hg x (cg hx);refine ws ?_;refine af ?_;refine er ?_;refine aR ?_;refine cl M ?_;refine ab (an rfl (fun hp=>?_) fun hp=>?_)
   .refine ws ?_;refine af ?_;refine ab (aU (cq (aO (aq rfl ?_))));rw[zE hx hp hinv];rfl
   .refine cD ?_;refine af ?_;refine ab (aP (k+1) (ao eH) ⟨oG,fun j y hj hy=>?_⟩ oG);by_cases e:j=k
    .subst e;rw[hx] at hy;cases hy;exact hp
    .exact hinv j y oG hy
  .have U:¬ k<l.length:=by simpa using h
   exact⟨.forget _ _ _ _ fun _=>.inr rfl,fun j y hy=>hinv j y (by have:=(bA.1 hy).1;omega) hy⟩
 .rintro s ⟨hg,J⟩;refine⟨_,hg,aj ?_⟩;refine SS ?_;refine ab (aq rfl ?_);rw[zF J];rfl
theorem qN{l:List Int}{g:FuncId}{fs cs:List D}{p:Int->Bool}(ht:Tr (.fn (.func g) fs cs))(hg:∀ x∈l,PCall prog g (fs++[U8 x]++cs) (B (p x))):PCall prog 228 [io l,.fn (.func g) fs cs] (B (l.any p)):=by
 have Ex:=Ex ht hg;refine a7 KM (.cons (mV _) (.cons ht .nil)) (Tr.s _) ?_;rw[Uq];refine ws ?_;refine SS ?_;refine er ?_;refine af ?_;refine cl Ex ?_;refine af ?_;refine ab (aq rfl ?_);rw[<- zT];rfl
theorem Ey{l:List ByteArray}{g:FuncId}{fs cs:List D}{p:ByteArray->Bool}(ht:Tr (.fn (.func g) fs cs))(hg:∀ x∈l,PCall prog g (fs++[S x]++cs) (B (p x))):PCall prog 231 [mY l,.fn (.func g) fs cs] (I (nu p l)):=by
 refine lK D3.he (.cons (td _) (.cons ht .nil)) fun C=>?_;have hlen:=(C (mY l) oS).sl.1;unfold maxLen at hlen;refine a7 D3 (.cons (td _) (.cons ht .nil)) (Tr.s _) ?_;rw[Ur];refine ws ?_;refine SS ?_;refine ab (aB (au ?_));refine ap ?_
 refine ab (bZ (fun s=>Ghost prog s ⟨ax [],fun _=>none,0⟩/\∀ (j:Nat) y,l[j]? =some y->p y=false) (eN (α:=Nat) (fun k=>⟨ax [(0,mY l),(1,.fn (.func g) fs cs),(7,I l.length),(8,I k)],fun _=>none,0⟩)
  (fun k=>k<=l.length/\∀ j y,j<k->l[j]? =some y->p y=false) (fun k=>l.length - k) 0 (ao eH) ⟨oG,fun j y hj=>by omega⟩ ?_) ?_)
 .rintro k ⟨hk,hinv⟩;refine SS ?_;refine ab ⟨_,rfl,fun h=>?_,fun h=>?_⟩
  .have al:k<l.length:=by simpa using h
   have hx:l[k]? =some l[k]:=by simp[al]
   generalize l[k]=x at hx;have M:=hg x (cg hx);refine ws ?_;refine af ?_;refine er ?_;refine aR ?_;refine cl M ?_;refine ab (an rfl (fun hp=>?_) fun hp=>?_)
   .refine ws ?_;refine af ?_;refine ab (aU (cq (aO (aq rfl ?_))));rw[zE hx hp hinv];rfl
   .refine cD ?_;refine af ?_;refine ab (aP (k+1) (ao eH) ⟨oG,fun j y hj hy=>?_⟩ oG);by_cases e:j=k
    .subst e;rw[hx] at hy;cases hy;exact hp
    .exact hinv j y oG hy
  .have U:¬ k<l.length:=by simpa using h
   exact⟨.forget _ _ _ _ fun _=>.inr rfl,fun j y hy=>hinv j y (by have:=(bA.1 hy).1;omega) hy⟩
 .rintro s ⟨hg,J⟩;refine⟨_,hg,aj ?_⟩;refine SS ?_;refine ab (aq rfl ?_);rw[zF J];rfl
theorem AU{l:List ByteArray}{g:FuncId}{fs cs:List D}{p:ByteArray->Bool}(ht:Tr (.fn (.func g) fs cs))(hg:∀ x∈l,PCall prog g (fs++[S x]++cs) (B (p x))):PCall prog 192 [mY l,.fn (.func g) fs cs] (B (l.any p)):=by
 have Ey:=Ey ht hg;refine a7 KN (.cons (td _) (.cons ht .nil)) (Tr.s _) ?_;rw[Us];refine ws ?_;refine SS ?_;refine er ?_;refine af ?_;refine cl Ey ?_;refine af ?_;refine ab (aq rfl ?_);rw[<- zT];rfl
theorem Ez{l:List hP}{g:FuncId}{fs cs:List D}{p:hP->Bool}(ht:Tr (.fn (.func g) fs cs))(hg:∀ x∈l,PCall prog g (fs++[.agg (jh x)]++cs) (B (p x))):PCall prog 260 [lN l,.fn (.func g) fs cs] (I (nu p l)):=by
 refine lK D4.he (.cons (gW _) (.cons ht .nil)) fun C=>?_;have hlen:=(C (lN l) oS).sl.1;unfold maxLen at hlen;refine a7 D4 (.cons (gW _) (.cons ht .nil)) (Tr.s _) ?_;rw[Ut];refine ws ?_;refine SS ?_;refine ab (aB (au ?_));refine ap ?_
 refine ab (bZ (fun s=>Ghost prog s ⟨ax [],fun _=>none,0⟩/\∀ (j:Nat) y,l[j]? =some y->p y=false) (eN (α:=Nat) (fun k=>⟨ax [(0,lN l),(1,.fn (.func g) fs cs),(7,I l.length),(8,I k)],fun _=>none,0⟩)
  (fun k=>k<=l.length/\∀ j y,j<k->l[j]? =some y->p y=false) (fun k=>l.length - k) 0 (ao eH) ⟨oG,fun j y hj=>by omega⟩ ?_) ?_)
 .rintro k ⟨hk,hinv⟩;refine SS ?_;refine ab ⟨_,rfl,fun h=>?_,fun h=>?_⟩
  .have al:k<l.length:=by simpa using h
   have hx:l[k]? =some l[k]:=by simp[al]
   generalize l[k]=x at hx;have M:=hg x (cg hx);refine ws ?_;refine af ?_;refine er ?_;refine aR ?_;refine cl M ?_;refine ab (an rfl (fun hp=>?_) fun hp=>?_)
   .refine ws ?_;refine af ?_;refine ab (aU (cq (aO (aq rfl ?_))));rw[zE hx hp hinv];rfl
   .refine cD ?_;refine af ?_;refine ab (aP (k+1) (ao eH) ⟨oG,fun j y hj hy=>?_⟩ oG);by_cases e:j=k
    .subst e;rw[hx] at hy;cases hy;exact hp
    .exact hinv j y oG hy
  .have U:¬ k<l.length:=by simpa using h
   exact⟨.forget _ _ _ _ fun _=>.inr rfl,fun j y hy=>hinv j y (by have:=(bA.1 hy).1;omega) hy⟩
 .rintro s ⟨hg,J⟩;refine⟨_,hg,aj ?_⟩;refine SS ?_;refine ab (aq rfl ?_);rw[zF J];rfl
theorem yi{l:List hP}{g:FuncId}{fs cs:List D}{p:hP->Bool}(ht:Tr (.fn (.func g) fs cs))(hg:∀ x∈l,PCall prog g (fs++[.agg (jh x)]++cs) (B (p x))):PCall prog 254 [lN l,.fn (.func g) fs cs] (B (l.any p)):=by
 have Ez:=Ez ht hg;refine a7 KO (.cons (gW _) (.cons ht .nil)) (Tr.s _) ?_;rw[Uu];refine ws ?_;refine SS ?_;refine er ?_;refine af ?_;refine cl Ez ?_;refine af ?_;refine ab (aq rfl ?_);rw[<- zT];rfl
theorem EA{l:List Int}{g:FuncId}{fs cs:List D}{p:Int->Bool}(ht:Tr (.fn (.func g) fs cs))(hg:∀ x∈l,PCall prog g (fs++[I x]++cs) (B (p x))):PCall prog 130 [aC l,.fn (.func g) fs cs] (I (nu p l)):=by
 refine lK D5.he (.cons (cW _) (.cons ht .nil)) fun C=>?_;have hlen:=(C (aC l) oS).sl.1;unfold maxLen at hlen;refine a7 D5 (.cons (cW _) (.cons ht .nil)) (Tr.s _) ?_;rw[Uv];refine ws ?_;refine SS ?_;refine ab (aB (au ?_));refine ap ?_
 refine ab (bZ (fun s=>Ghost prog s ⟨ax [],fun _=>none,0⟩/\∀ (j:Nat) y,l[j]? =some y->p y=false) (eN (α:=Nat) (fun k=>⟨ax [(0,aC l),(1,.fn (.func g) fs cs),(7,I l.length),(8,I k)],fun _=>none,0⟩)
  (fun k=>k<=l.length/\∀ j y,j<k->l[j]? =some y->p y=false) (fun k=>l.length - k) 0 (ao eH) ⟨oG,fun j y hj=>by omega⟩ ?_) ?_)
 .rintro k ⟨hk,hinv⟩;refine SS ?_;refine ab ⟨_,rfl,fun h=>?_,fun h=>?_⟩
  .have al:k<l.length:=by simpa using h
   have hx:l[k]? =some l[k]:=by simp[al]
   generalize l[k]=x at hx;have M:=hg x (cg hx);refine ws ?_;refine af ?_;refine er ?_;refine aR ?_;refine cl M ?_;refine ab (an rfl (fun hp=>?_) fun hp=>?_)
   .refine ws ?_;refine af ?_;refine ab (aU (cq (aO (aq rfl ?_))));rw[zE hx hp hinv];rfl
   .refine cD ?_;refine af ?_;refine ab (aP (k+1) (ao eH) ⟨oG,fun j y hj hy=>?_⟩ oG);by_cases e:j=k
    .subst e;rw[hx] at hy;cases hy;exact hp
    .exact hinv j y oG hy
  .have U:¬ k<l.length:=by simpa using h
   exact⟨.forget _ _ _ _ fun _=>.inr rfl,fun j y hy=>hinv j y (by have:=(bA.1 hy).1;omega) hy⟩
 .rintro s ⟨hg,J⟩;refine⟨_,hg,aj ?_⟩;refine SS ?_;refine ab (aq rfl ?_);rw[zF J];rfl
theorem vA{l:List Int}{g:FuncId}{fs cs:List D}{p:Int->Bool}(ht:Tr (.fn (.func g) fs cs))(hg:∀ x∈l,PCall prog g (fs++[I x]++cs) (B (p x))):PCall prog 119 [aC l,.fn (.func g) fs cs] (B (l.any p)):=by
 have EA:=EA ht hg;refine a7 KP (.cons (cW _) (.cons ht .nil)) (Tr.s _) ?_;rw[Uw];refine ws ?_;refine SS ?_;refine er ?_;refine af ?_;refine cl EA ?_;refine af ?_;refine ab (aq rfl ?_);rw[<- zT];rfl
theorem jB{n a b:Int}:PCall prog 96 [I n,I a,I b] (B (ct n a b)):=by
 refine a7 Mz (by simp[Tr.s]) (Tr.s _) ?_;rw[YB];refine ws ?_;refine SS ?_;refine er ?_;refine aQ ?_;refine ab (aq (d:=.s (.bool _)) rfl ?_);simp[ct]
theorem YC{b:Int}:PCall prog 229 [U8 b] (B (pv b)):=by
 refine a7 Ld (by simp[Tr.s]) (Tr.s _) ?_;rw[UZ];refine ws ?_;refine SS ?_;refine er ?_;refine dF ?_;refine ab (aq (d:=.s (.bool _)) rfl ?_);simp[pv]
theorem YD{b:Int}:PCall prog 232 [U8 b] (B (pw b)):=by
 refine a7 Le (by simp[Tr.s]) (Tr.s _) ?_;rw[U0];refine ws ?_;refine SS ?_;refine er ?_;refine aQ ?_;refine bF ?_;refine ab (aq (d:=.s (.bool _)) rfl ?_);simp[pw]
theorem oA{s:ByteArray}:PCall prog 190 [S s] (B (iX s)):=by
 refine a7 Lf (by simp[Tr.s]) (Tr.s _) ?_;have qN:=qN (l:=cn s) (g:=229) (fs:=[]) (cs:=[]) (p:=pv) (.fn oS oS) (fun x _=>YC);rw[U1];refine ws ?_;refine SS ?_;refine er ?_;refine af ?_;refine cl jB ?_;refine af ?_;refine bl rfl rfl (Hz rfl V.h V.h) (fun hc=>⟨ak,⟨V.h,by have:=ir.1 (by simpa using hc);unfold maxLen;omega⟩⟩) ?_;refine gc qN ?_;refine ap ?_;refine ab (aq (d:=.s (.bool _)) rfl ?_);simp[iX]
theorem yq{s:ByteArray}:PCall prog 194 [S s] (B (isName s)):=by
 refine a7 Lg (by simp[Tr.s]) (Tr.s _) ?_;have qN:=qN (l:=cn s) (g:=232) (fs:=[]) (cs:=[]) (p:=pw) (.fn oS oS) (fun x _=>YD);rw[U2];refine ws ?_;refine SS ?_;refine er ?_;refine af ?_;refine cl jB ?_;refine af ?_;refine bl rfl rfl (Hz rfl V.h V.h) (fun hc=>⟨ak,⟨V.h,by have:=ir.1 (by simpa using hc);unfold maxLen;omega⟩⟩) ?_;refine gc qN ?_;refine ap ?_;refine ab (aq (d:=.s (.bool _)) rfl ?_);simp[isName]
theorem YE{s:ByteArray}:PCall prog 193 [S s] (B !(isName s)):=by
 refine a7 Lh (by simp[Tr.s]) (Tr.s _) ?_;rw[U3];refine ws ?_;refine SS ?_;refine er ?_;refine SS ?_;refine cl yq ?_;refine af ?_;refine ab (aq rfl rfl)
theorem YF{b m:Int}:PCall prog 230 [U8 b,.pt [U8 m]] (B (jF m b)):=by
 refine a7 Li (.cons (.s _) (.cons (.pt (by simp[Tr.s])) .nil)) (Tr.s _) ?_;rw[U4];refine ws ?_;refine SS ?_;refine er ?_;refine bH ?_;refine ab (aq (d:=.s (.bool _)) rfl ?_);simp[jF]
theorem EK{l:List Int}{m:Int}:PCall prog 191 [io l,U8 m] (B (dK l m)):=by
 refine a7 Lj (.cons (mV _) (.cons (.s _) .nil)) (Tr.s _) ?_;have qN:=qN (l:=l) (g:=230) (fs:=[]) (cs:=[.pt [U8 m]]) (p:=jF m) (.fn oS (.cons (.pt (by simp[Tr.s])) .nil)) (fun x _=>YF);rw[U5];refine au ?_;refine af ?_;refine ab (aJ (bj [(0,[U8 m],5)] eH (l:=[(0,io l),(3,.pt [U8 m])]) eH) (aj ?_));refine af ?_;refine cl qN ?_;refine af ?_;refine ab (aq rfl rfl)
theorem Co{p q:D}{f:aA}(h:Real (.agg (aZ p q f))):f.ag.length<=maxLen/\f.aK.length<=maxLen/\f.signals.length<=maxLen/\f.blocks.length<=maxLen:=
 ⟨(h.agg (io f.ag) (by simp[aZ])).sl.1,(h.agg (io f.aK) (by simp[aZ])).sl.1,(h.agg (mY f.signals) (by simp[aZ])).sl.1,(h.agg (ew f.blocks) (by simp[aZ])).sl.1⟩
section
variable{p q:D}{f:aA}(hp:Tr p)(hq:Tr q)(eK:p.one=true)(eL:q.one=true)
include hp hq eK eL
theorem gO{n:Int}:PCall prog 233 [.agg (aZ p q f),I n] (B (ct n 0 (f.blocks.length - 1))):=by
 have C:∀ a∈[D.agg (aZ p q f),I n],Tr a:=.cons (jK hp hq f) (.cons (.s _) .nil);refine lK Ea.he C fun J=>?_;obtain⟨M,U,X,l4⟩:=Co (J _ (List.mem_cons_self ..));unfold maxLen at*
 refine a7 Ea C (Tr.s _) ?_;rw[Vd];refine ws ?_;refine af ?_;refine er ?_;refine bF ?_;refine cl jB ?_;refine SS ?_;refine ab (aq rfl rfl)
theorem eb{r:Int}:PCall prog 234 [.agg (aZ p q f),I r] (U8 (bP f.ag r)):=by
 have C:∀ a∈[D.agg (aZ p q f),I r],Tr a:=.cons (jK hp hq f) (.cons (.s _) .nil);refine lK Eb.he C fun M=>?_;obtain⟨U,X,l3,l4⟩:=Co (M _ (List.mem_cons_self ..));unfold maxLen at*
 refine a7 Eb C (Tr.s _) ?_;rw[Ve];refine ws ?_;refine af ?_;refine ab (aB (aj ?_));refine bF ?_;refine cl jB ?_;refine SS ?_;refine ab (cy rfl (fun h=>?_) fun h=>?_)
 .refine aB (aj ?_);refine SS ?_;refine ab (di (aq rfl ?_));rw[Cl (fun J=>by simp[ct] at h;omega)];rfl
 .have J:0<=r/\r<f.ag.length:=by simp[ct] at h;omega
  obtain⟨i,rfl⟩:=eC J.1;have al:i<f.ag.length:=by omega
  have hx:f.ag[i]? =some f.ag[i]:=by simp[al]
  generalize f.ag[i]=x at hx;refine cu (aj ?_);refine dF ?_;refine ab (aq rfl ?_);rw[py hx];rfl
theorem YN{r:Int}:PCall prog 256 [I r,.pt (aZ p q f)] (B !(dB f.ag r)):=by
 have C:∀ a∈[I r,D.pt (aZ p q f)],Tr a:=.cons (.s _) (.cons (.pt (wO hp hq f)) .nil);have eb:=eb (f:=f) (r:=r) hp hq eK eL;refine a7 Lq C (Tr.s _) ?_;rw[Vf];refine ws ?_;refine SS ?_;refine er ?_;refine af ?_;refine cl eb ?_;refine aN ?_;refine gc eb ?_;refine ap ?_;refine ab (aq (d:=.s (.bool _)) rfl ?_);unfold dB;generalize bP f.ag r=k;show D.s (.bool _)=D.s (.bool _);simp only[bne];cases (k==1)<;>cases (k==2)<;>rfl
theorem fM{l:List Int}:PCall prog 237 [.agg (aZ p q f),aC l] (B (eT f.ag l)):=by
 have C:∀ a∈[D.agg (aZ p q f),aC l],Tr a:=.cons (jK hp hq f) (.cons (cW _) .nil);have vA:=vA (l:=l) (g:=256) (fs:=[]) (cs:=[.pt (aZ p q f)]) (p:=fun r=> !(dB f.ag r)) (.fn oS (.cons (.pt (wO hp hq f)) .nil)) (fun x _=>YN hp hq eK eL);refine a7 Lr C (Tr.s _) ?_;rw[Vg];refine au ?_;refine af ?_;refine ab (aJ (bj [(0,aZ p q f,133)] eH (l:=[(1,aC l),(2,.pt (aZ p q f))]) eH) (aj ?_));refine af ?_;refine cl vA ?_;refine af ?_;refine ab (aq (d:=.s (.bool _)) rfl ?_);simp[eT,List.all_eq_not_any_not]
theorem A3{r n:Int}:PCall prog 239 [.agg (aZ p q f),I r,I n] (B (jn f.ag f.aK r n)):=by
 have J:∀ a∈[D.agg (aZ p q f),I r,I n],Tr a:=.cons (jK hp hq f) (.cons (.s _) (.cons (.s _) .nil));refine lK Ec.he J fun M=>?_;obtain⟨X,l2,l3,l4⟩:=Co (M _ (List.mem_cons_self ..));unfold maxLen at*
 have eb:=eb (f:=f) (r:=r) hp hq eK eL;refine a7 Ec J (Tr.s _) ?_;rw[Vh];have jB:=jB (n:=n) (a:=0) (b:=f.aK.length - 1);by_cases U:0<=n/\n<f.aK.length
 .obtain⟨i,rfl⟩:=eC U.1;have al:i<f.aK.length:=by omega
  have hx:f.aK[i]? =some f.aK[i]:=by simp[al]
  generalize f.aK[i]=x at hx;have C:ct (i:Int) 0 (f.aK.length - 1)=true:=ir.2 oG;rw[C] at jB;refine ws ?_;refine af ?_;refine ab (dz G' ?_);refine bF ?_;refine cl jB ?_;refine SS ?_;refine bl rfl rfl (dQ (vs:=aZ _ _ _) rfl rfl V.h V.h rfl) (fun hc=>⟨ak,(dR V.h V.h (by first|(simp;done)|omega|exact bn rfl))⟩) ?_;refine SS ?_;refine gc eb ?_;refine aQ ?_;refine bf bg ?_;refine aq (d:=.s (.bool _)) rfl ?_;simp[jn,C,py hx]
 .have C:ct n 0 (f.aK.length - 1)=false:=Qu.2 oG;rw[C] at jB;refine ws ?_;refine af ?_;refine ab (dz G' ?_);refine bF ?_;refine cl jB ?_;refine SS ?_;(iterate 10 refine z fun _ _=>?_);refine af ?_;refine bf bg ?_;refine aq (d:=.s (.bool _)) rfl ?_;simp[jn,C]
end
section
variable{p q:D}{f:aA}(hp:Tr p)(hq:Tr q)(eK:p.one=true)(eL:q.one=true)
include hp hq eK eL
theorem yx{r want kd:Int}:PCall prog 253 [.agg (aZ p q f),I r,I want,U8 kd] (B (jk f.ag r want kd)):=by
 have C:∀ a∈[D.agg (aZ p q f),I r,I want,U8 kd],Tr a:=.cons (jK hp hq f) (.cons (.s _) (.cons (.s _) (.cons (.s _) .nil)));have eb:=eb (f:=f) (r:=r) hp hq eK eL;refine a7 Lu C (Tr.s _) ?_;rw[Vk];refine ws ?_;refine af ?_;refine er ?_;refine aD (dQ (vs:=aZ _ _ _) rfl rfl V.h V.h rfl) ak (dR V.h V.h (by first|(simp;done)|omega|exact bn rfl)) ?_;refine SS ?_;refine cl eb ?_;refine SS ?_;refine ab (aB (aj ?_));refine SS ?_;refine ab (kf (aj ?_));refine af ?_;refine ab (an rfl (fun h0=>?_) fun h0=>?_)
 .have h0:want=0:=by simpa using h0
  refine ws ?_;refine ap ?_;refine ab (aU (bk (aO (aq (d:=.s (.bool _)) rfl ?_))));simp[jk,h0]
 have h0:¬ want=0:=by simpa using h0
 refine ws ?_;refine af ?_;refine ab (an rfl (fun h1=>?_) fun h1=>?_)
 .have h1:want=1:=by simpa using h1
  refine ws ?_;refine ap ?_;refine ab (aU (bk (aO (aq (d:=.s (.bool _)) rfl ?_))));simp[jk,h1]
 have h1:¬ want=1:=by simpa using h1
 refine ws ?_;refine af ?_;refine ab (an rfl (fun h2=>?_) fun h2=>?_)
 .have h2:want=2:=by simpa using h2
  refine ws ?_;refine ap ?_;refine ab (aU (bk (aO (aq (d:=.s (.bool _)) rfl ?_))));simp[jk,h2]
 have h2:¬ want=2:=by simpa using h2
 refine ws ?_;refine af ?_;refine ab (an rfl (fun h3=>?_) fun h3=>?_)
 .have h3:want=3:=by simpa using h3
  refine ws ?_;refine dF ?_;refine ab (aU (bk (aO (aq (d:=.s (.bool _)) rfl ?_))));simp[jk,h3,dB,ib]
 have h3:¬ want=3:=by simpa using h3
 refine jN (aj ?_);refine bH ?_;refine ab (aq (d:=.s (.bool _)) rfl ?_);simp[jk,h0,h1,h2,h3,ib,bne]
theorem vH{x:bd}{s:Shape}:PCall prog 235 [.agg (aZ p q f),.agg (a8 x),.agg (gG s)] (B (lP f.ag x s)):=by
 have J:∀ a∈[D.agg (aZ p q f),.agg (a8 x),.agg (gG s)],Tr a:=.cons (jK hp hq f) (.cons (.agg (mZ x)) (.cons (.agg (Hb s)) .nil));have eb:=fun r=>eb (f:=f) (r:=r) hp hq eK eL;have yx:= @yx p q f hp hq eK eL;have fM:=fM (f:=f) hp hq eK eL (l:=x.args);have M:=jB (n:=x.n) (a:=s.low) (b:=s.high);refine a7 Lv J (Tr.s _) ?_;rw[Vl];refine au ?_;refine af ?_;refine fW (pF (cs:=gG _) rfl) ak (by first|rfl|exact qo eK eL|exact iZ _|exact qD cS) ?_;refine SS ?_;refine ab (aJ (bj [(0,aZ p q f,133),(1,a8 x,66),(2,gG s,205)] eH (l:=[(3,.pt (aZ p q f)),(4,.pt (a8 x)),(5,.pt (gG s))]) eH) (aj ?_));have C:=eb;have eb:=eb x.to;refine ap ?_;refine cl eb ?_;refine SS ?_;refine ab ?_;refine dA (fun s'=>Ghost prog s' ⟨ax [(3,.pt (aZ p q f)),(4,.pt (a8 x)),(5,.pt (gG s)),(7,U8 (mX f.ag x s))],fun _=>none,3⟩) (aj ?_) fun s' hg=>⟨_,hg,?_⟩
 .refine bH ?_;refine ab (an rfl (fun h=>iW ?_) fun h=>aV ?_)
  .have h:s.to=0\/s.to=1:=by simpa[ib] using h
   have eb:=C x.a;refine ap ?_;refine cl eb ?_;refine SS ?_;refine ab ?_;show Ghost _ _ _;refine ao (l:=[(3,_),(4,_),(5,_),(7,_)]) ⟨rfl,rfl,rfl,?_,trivial⟩;simp only[mX,if_pos h];rfl
  .have h:¬ (s.to=0\/s.to=1):=by simpa[ib] using h
   show Ghost _ _ _;refine ao (l:=[(3,_),(4,_),(5,_),(7,_)]) ⟨rfl,rfl,rfl,?_,trivial⟩;simp only[mX,if_neg h];rfl
 refine ws ?_;refine aR ?_;refine ab ?_;refine dA (fun s'=>Ghost prog s' ⟨ax [(3,.pt (aZ p q f)),(4,.pt (a8 x)),(5,.pt (gG s)),(7,U8 (mX f.ag x s)),(8,B (mS f.ag x s))],fun _=>none,3⟩) (aj ?_) fun s' hg=>⟨_,hg,?_⟩
 .refine af ?_;refine ab (nT (aj ?_));refine af ?_;refine ab (an rfl (fun h=>kW ?_) fun h=>aj ?_)
  .have h:s.args=5:=by simpa using h
   have jB:=jB (n:=x.args.length) (a:=1) (b:=6);refine ap ?_;refine cl jB ?_;refine aN ?_;refine gc fM ?_;refine af ?_;refine ab ?_;refine ao ⟨rfl,rfl,rfl,rfl,?_,trivial⟩;show D.s (.bool _)=_;simp[mS,h]
  .have h5:¬ s.args=5:=by simpa using h
   refine af ?_;refine ab (an rfl (fun h=>kW ?_) fun h=>CB ?_)
   .have h:s.args=6:=by simpa using h
    refine bH ?_;refine gc fM ?_;refine af ?_;refine ab ?_;refine ao ⟨rfl,rfl,rfl,rfl,?_,trivial⟩;show D.s (.bool _)=_;simp[mS,h,ib]
   .have U:¬ s.args=6:=by simpa using h
    refine ao ⟨rfl,rfl,rfl,rfl,?_,trivial⟩;show D.s (.bool _)=_;simp[mS,h5,U,ib]
 refine ws ?_;refine aR ?_;refine cl yx ?_;refine dF ?_;refine gc yx ?_;refine bH ?_;refine gc yx ?_;refine aQ ?_;refine af ?_;refine gc jB ?_;refine af ?_;refine ab (aq (d:=.s (.bool _)) rfl ?_);simp[lP,Bool.and_assoc]
end
theorem EQ{x:bd}:PCall prog 257 [.agg (a8 x)] (B (xO x)):=by
 have C:∀ a∈[D.agg (a8 x)],Tr a:=.cons (.agg (mZ x)) .nil;refine a7 LA C (Tr.s _) ?_;rw[Vp];refine ws ?_;refine af ?_;refine er ?_;refine aQ ?_;refine aQ ?_;refine aQ ?_;refine ap ?_;refine ab (aq (d:=.s (.bool _)) rfl ?_);simp only[xO,ib];cases decide (x.op=0)<;>cases decide (x.to=0)<;>cases decide (x.a=0)<;>cases decide (x.b=0)<;>cases decide (x.n=0)<;>rfl
theorem ER{x:Argus.End}:PCall prog 238 [.agg (aW x)] (B (tG x)):=by
 have C:∀ a∈[D.agg (aW x)],Tr a:=.cons (.agg (iQ x)) .nil;have EQ:=EQ (x:=x.ins);refine a7 LB C (Tr.s _) ?_;rw[Vq];refine ws ?_;refine af ?_;refine er ?_;refine aQ ?_;refine aQ ?_;refine aQ ?_;refine aQ ?_;refine aQ ?_;refine af ?_;refine bl rfl rfl (dQ (vs:=a8 _) rfl rfl V.h V.h rfl) (fun hc=>⟨ak,(dR V.h V.h (by first|(simp;done)|omega|exact bn rfl))⟩) ?_;refine gc EQ ?_;refine af ?_;refine ab (aq (d:=.s (.bool _)) rfl ?_);have:decide (x.name.toList=[])=x.name.toList.isEmpty:=by cases x.name.toList<;>rfl
 simp[tG,ib,Bool.and_assoc,this]
theorem YZ{w v:hP}:PCall prog 255 [.agg (jh v),.pt (jh w)] (B (v.name.toList==w.name.toList)):=by
 have C:∀ a∈[D.agg (jh v),.pt (jh w)],Tr a:=.cons (.agg (zZ v)) (.cons (.pt (zZ w)) .nil);refine a7 LC C (Tr.s _) ?_;rw[Vr];refine ws ?_;refine fW (pF (cs:=jh _) rfl) ak (by first|rfl|exact qo eK eL|exact iZ _|exact qD cS) ?_;refine SS ?_;refine er ?_;refine aN ?_;refine aD (Dq rfl rfl) ak trivial ?_;refine SS ?_;exact ab (aq rfl rfl)
section
variable{p q:D}{f:aA}(hp:Tr p)(hq:Tr q)(eK:p.one=true)(eL:q.one=true)
include hp hq eK eL
theorem p7{x:Argus.End}:PCall prog 236 [.agg (aZ p q f),.agg (aW x)] (B (jH f x)):=by
 have J:∀ a∈[D.agg (aZ p q f),.agg (aW x)],Tr a:=.cons (jK hp hq f) (.cons (.agg (iQ x)) .nil);refine lK Ed.he J fun U=>?_;have hlen:x.az.length<=maxLen:=((U _ (List.mem_cons_of_mem _ (List.mem_cons_self ..))).agg (lN x.az) (by simp[aW])).sl.1;unfold maxLen at hlen;have gO:= @gO p q f hp hq eK eL;refine a7 Ed J (Tr.s _) ?_;rw[Vs];refine au ?_;refine ap ?_;refine ab (aJ (bj [(0,aZ p q f,133),(1,aW x,69)] eH (l:=[(2,.pt (aZ p q f)),(3,.pt (aW x))]) eH) (aB (au ?_)));refine aN ?_
 refine ab (bZ (fun s=>∃ n,Ghost prog s ⟨ax [(2,.pt (aZ p q f)),(3,.pt (aW x))],fun _=>none,n⟩/\∀ (j:Nat) y,x.az[j]? =some y->ll f x.az j y=true) (eN (α:=Nat) (fun k=>⟨ax [(2,.pt (aZ p q f)),(3,.pt (aW x)),(8,lN x.az),(9,I x.az.length),(10,I k)],fun _=>none,2+k⟩)
  (fun k=>k<=x.az.length/\∀ j y,j<k->x.az[j]? =some y->ll f x.az j y=true) (fun k=>x.az.length - k) 0 (ao eH) ⟨oG,fun j y hj=>by omega⟩ ?_) ?_)
 .rintro k ⟨hk,hinv⟩;refine SS ?_;refine ab ⟨_,rfl,fun h=>?_,fun h=>?_⟩
  .have al:k<x.az.length:=by simpa using h
   have hx:x.az[k]? =some x.az[k]:=by simp[al]
   generalize x.az[k]=w at hx;refine au ?_;refine bF ?_;refine ab (aJ (bj [(2+k,jh w,199)] ⟨up_same _ _ _,trivial⟩ (l:=[(2,.pt (aZ p q f)),(3,.pt (aW x)),(5,I k),(6,.pt (jh w)),(8,lN x.az),(9,I x.az.length),(10,I k)]) ⟨rfl,rfl,rfl,jl (sz:=prog.cellsOf 199),rfl,rfl,rfl,trivial⟩) (aj ?_));have yq:=yq (s:=w.name);have yi:=yi (l:=x.az.take k) (g:=255) (fs:=[]) (cs:=[.pt (jh w)]) (p:=fun v=>v.name.toList==w.name.toList) (.fn oS (.cons (.pt (zZ w)) .nil)) (fun v _=>YZ);unfold lN at yi;rw[<- SK wD hk] at yi;refine af ?_;refine cl yq ?_;refine aR ?_;refine gc gO ?_;refine bF ?_;refine bl rfl rfl (uS rfl V.h V.h rfl rfl rfl) (fun hc=>⟨ak,⟨V.h,oG,oG,oG⟩⟩) ?_;refine bl rfl rfl (Jz rfl rfl) (fun hc=>⟨ak,trivial⟩) ?_;refine gc yi ?_;refine SS ?_;have hb:((isName w.name&&(bI f w.to&& !(x.az.take k).any fun v=>v.name.toList==w.name.toList)))=ll f x.az k w:=rfl;refine ab (an rfl (fun hp=>?_) fun hp=>?_)
   .refine ws ?_;refine SS ?_;refine ab (aU (cq (aO (aq (d:=.s (.bool _)) rfl ?_))))
    have C:ll f x.az k w=false:=by
     rw[<- hb];simp only[bI];revert hp;generalize isName w.name=a;generalize ct w.to 0 (f.blocks.length - 1)=b;generalize (List.any _ _)=c;cases a<;>cases b<;>cases c<;>simp
    simp[jH,BX hx C]
   .refine cD ?_
    have C:ll f x.az k w=true:=by
     rw[<- hb];simp only[bI];revert hp;generalize isName w.name=a;generalize ct w.to 0 (f.blocks.length - 1)=b;generalize (List.any _ _)=c;cases a<;>cases b<;>cases c<;>simp
    refine af ?_;refine ab (aP (k+1) (ao eH) ⟨oG,fun j y hj hy=>?_⟩ oG);by_cases e:j=k
    .subst e;rw[hx] at hy;cases hy;exact C
    .exact hinv j y oG hy
  .have a9:¬ k<x.az.length:=by simpa using h
   exact⟨2+k,.forget _ _ _ _ fun t=>lO (l:=[(2,.pt (aZ p q f)),(3,.pt (aW x))]) ⟨rfl,rfl,trivial⟩ t,fun j y hy=>hinv j y (by have:=(bA.1 hy).1;omega) hy⟩
 .rintro s ⟨n,hg,M⟩;refine⟨_,hg,aj ?_⟩;refine ap ?_;refine Ms ?_;refine bH ?_;refine gc gO ?_;refine ap ?_;refine ab (aq (d:=.s (.bool _)) rfl ?_);have X:=Gv M;simp[jH,bI,X,ib]
end
abbrev P0:D:=.im (nA lc)
abbrev Q0:D:=.im (nA gJ)
theorem Y0:PCall prog 166 [] (.tup [P0,Q0]):=by
 refine a7 LD Tr.nil (.tup (.cons (vr _) (.cons (vr _) .nil))) ?_;rw[Vt];refine ws ?_;refine aD (kn (v:=.s (.map none)) rfl) ak trivial ?_;refine aD (kn (v:=.s (.map none)) rfl) ak trivial ?_;refine er ?_;refine aQ ?_;refine aQ ?_;refine aQ ?_;refine bF ?_;refine er ?_;refine aQ ?_;refine aQ ?_;refine ap ?_;refine ab (au ?_);refine aN ?_;refine ab (aJ (RO [(0,nA lc),(1,nA gJ)] eH (l:=[(0,P0),(1,Q0)]) eH) ?_);exact lT rfl rfl rfl
abbrev og(f:aA):D:=.agg (aZ P0 Q0 f)
theorem EN{f:aA}:PCall prog 189 [.agg (ay f)] (og f):=by
 have C:∀ a∈[D.agg (ay f)],Tr a:=.cons (.agg (fq f)) .nil;refine a7 LF C (jK (vr _) (vr _) f) ?_;rw[Vu];refine ws ?_;refine af ?_;refine er ?_;refine cl Y0 ?_;refine SS ?_;refine aD (nP (v:=.im _) rfl rfl) ak (by first|decide|simp) ?_;refine aD (nP (v:=.im _) rfl rfl) ak (by first|decide|simp) ?_;refine aD (kn (v:=.im _) rfl) ak trivial ?_;refine aD (kn (v:=.im _) rfl) ak trivial ?_;refine er ?_;refine MT ?_;refine aD (gZ (v:=.im _) rfl) ak trivial ?_;refine aD (gZ (v:=.im _) rfl) ak trivial ?_;refine MG ?_;refine cE (fR (cs':=aZ _ _ _) rfl rfl rfl rfl) ak (dx V.h V.h (by first|(simp;done)|exact⟨rfl,bn rfl⟩|(simp;omega)) (by rfl)) ?_;refine ab (jL (ke rfl rfl MU MV rfl t133 oS) ?_);rfl
theorem jo:Tr P0:=vr _
theorem jq:Tr Q0:=vr _
section
variable{p q:D}{f:aA}(hp:Tr p)(hq:Tr q)(eK:p.one=true)(eL:q.one=true)
include hp hq eK eL
theorem Y2{r kd:Int}:PCall prog 240 [I r,.pt (aZ p q f),.pt [U8 kd]] (B !(aG (bP f.ag r) kd)):=by
 have C:∀ a∈[I r,.pt (aZ p q f),.pt [U8 kd]],Tr a:=.cons (.s _) (.cons (.pt (wO hp hq f)) (.cons (.pt (.cons (.s _) .nil)) .nil));have eb:=eb (f:=f) (r:=r) hp hq eK eL;refine a7 LI C (Tr.s _) ?_;rw[VL];refine ws ?_;refine SS ?_;refine ab (dz QE ?_);refine af ?_;refine cl eb ?_;refine ap ?_;refine bf bg ?_;refine aq (d:=.s (.bool _)) rfl ?_;rfl
end
theorem A0{f:aA}{b ahead:Int}{x:bd}{phis:Bool}:PCall prog 196 [og f,I b,.agg (a8 x),B phis,I ahead] (B (gq f b x phis ahead)):=by
 have M:∀ a∈[og f,I b,.agg (a8 x),B phis,I ahead],Tr a:=.cons (jK jo jq f) (.cons (.s _) (.cons (.agg (mZ x)) (.cons (.s _) (.cons (.s _) .nil))));have eb:= @eb P0 Q0 f jo jq rfl rfl;have A3:= @A3 P0 Q0 f jo jq rfl rfl;have fM:= @fM P0 Q0 f jo jq rfl rfl;have vH:= @vH P0 Q0 f jo jq rfl rfl;refine a7 LJ M (Tr.s _) ?_;rw[VM];refine au ?_;refine ap ?_;refine ab (aJ (bj [(0,aZ P0 Q0 f,133),(1,a8 x,66)] eH (l:=[(1,I b),(3,B phis),(4,I ahead),(5,.pt (aZ P0 Q0 f)),(7,.pt (a8 x))]) eH) (aB (aj ?_)));refine af ?_;refine ab (kf (aj ?_));refine af ?_;refine ab (an rfl (fun h0=>?_) fun h0=>?_)
 .have h0:x.op=16:=by simpa using h0
  refine ws ?_;refine dF ?_;refine gc eb ?_;refine aQ ?_;refine bH ?_;refine af ?_;refine ab (aU (bk (aO (aq (d:=.s (.bool _)) rfl ?_))));simp[gq,h0,aG,gK,ib,Bool.and_assoc]
 have h0:¬ x.op=16:=by simpa using h0
 refine ws ?_;refine af ?_;refine ab (an rfl (fun h1=>?_) fun h1=>?_)
 .have h1:x.op=17:=by simpa using h1
  refine ws ?_;refine aQ ?_;refine aQ ?_;refine af ?_;refine gc A3 ?_;refine af ?_;refine ab (aU (bk (aO (aq (d:=.s (.bool _)) rfl ?_))));simp[gq,h1,aG,gK,ib,Bool.and_assoc]
 have h1:¬ x.op=17:=by simpa using h1
 refine ws ?_;refine af ?_;refine ab (an rfl (fun h2=>?_) fun h2=>?_)
 .have h2:x.op=18:=by simpa using h2
  refine ws ?_;refine aQ ?_;refine aQ ?_;refine af ?_;refine gc A3 ?_;refine af ?_;refine ab (aU (bk (aO (aq (d:=.s (.bool _)) rfl ?_))));simp[gq,h2,aG,gK,ib,Bool.and_assoc]
 have h2:¬ x.op=18:=by simpa using h2
 refine ws ?_;refine af ?_;refine ab (an rfl (fun h3=>?_) fun h3=>?_)
 .have h3:x.op=19:=by simpa using h3
  refine au ?_;refine ap ?_;refine cl eb ?_;refine SS ?_;refine Mo ?_;refine ab (aJ (bj [(2,[U8 (bP f.ag x.to)],5)] eH (l:=[(1,I b),(3,B phis),(4,I ahead),(5,.pt (aZ P0 Q0 f)),(7,.pt (a8 x)),(11,.pt [U8 (bP f.ag x.to)])]) eH) (aj ?_));have vA:=vA (l:=x.args) (g:=240) (fs:=[]) (cs:=[.pt (aZ P0 Q0 f),.pt [U8 (bP f.ag x.to)]]) (p:=fun r=> !(aG (bP f.ag r) (bP f.ag x.to))) (.fn oS (.cons (.pt (wO jo jq f)) (.cons (.pt (.cons (.s _) .nil)) .nil))) (fun r _=>Y2 jo jq rfl rfl);refine ap ?_;refine cl vA ?_;refine SS ?_;refine er ?_;by_cases hb:phis=true/\0<b
  .obtain⟨rfl,hb⟩:=hb;have qM:decide (0<b)=true:=by simpa using hb
   have fM:=fM (l:=[x.to]);have C:∀ {m:Mem},m 3=some (.cells [I x.to] 3)->Sns prog [3] m [og f,.rs 3 0 1] [og f,aC [x.to]]:=fun hm=>⟨cw (jK jo jq f),D1 hm oS (by rw[c3];rfl) (.cons (.s _) .nil),trivial⟩
   refine bH ?_;refine af ?_;refine Aj fM rfl rfl rfl rfl (C rfl) ak ?_;refine aQ ?_;refine aQ ?_;refine bH ?_;refine af ?_;refine ab (aU (bk (aO (aq (d:=.s (.bool _)) rfl ?_))));simp[gq,h3,hb,aG,gK,ib,Bool.and_assoc,eT]
  .have hf:gq f b x phis ahead=false:=by
    cases phis with
    |false=>simp[gq,h3]
    |true=>simp[gq,h3,show ¬ 0<b by simpa using hb]
   have hf:D.s (.bool false)=B (gq f b x phis ahead):=by rw[hf]
   cases phis with
   |false=>
    refine af ?_;(iterate 2 refine z fun _ _=>?_);refine af ?_;(iterate 5 refine z fun _ _=>?_);refine af ?_;(iterate 3 refine z fun _ _=>?_);refine af ?_;(iterate 3 refine z fun _ _=>?_);refine af ?_;(iterate 3 refine z fun _ _=>?_);refine af ?_;(iterate 5 refine z fun _ _=>?_);refine af ?_;(iterate 2 refine z fun _ _=>?_);refine af ?_;exact ab (aU (bk (aO (aq (d:=.s (.bool _)) rfl hf))))
   |true=>
    have qM:decide (0<b)=false:=by simpa using hb
    refine bF ?_;(iterate 5 refine z fun _ _=>?_);refine af ?_;(iterate 3 refine z fun _ _=>?_);refine af ?_;(iterate 3 refine z fun _ _=>?_);refine af ?_;(iterate 3 refine z fun _ _=>?_);refine af ?_;(iterate 5 refine z fun _ _=>?_);refine af ?_;(iterate 2 refine z fun _ _=>?_);refine af ?_;exact ab (aU (bk (aO (aq (d:=.s (.bool _)) rfl hf))))
 have h3:¬ x.op=19:=by simpa using h3
 refine jN (aj ?_);have U:gotD prog 131 true (lookD (.int .u8 x.op) (nA lc))=.tup [.agg (gG ((ez lc x.op).getD te)),.s (.bool (ez lc x.op).isSome)]:=JX rfl _ _ (by rw[Eg];unfold zeroD;rw[ET,EU];rfl);have J:=Iv (P:=prog) (kt:=5) u5 lc;refine aN ?_;refine aD (GR rfl rfl V.h U) ak ⟨V.h,by kernel_rfl,J⟩ ?_;refine SS ?_;refine aD (nP (v:=.agg (gG _)) rfl rfl) ak (by first|decide|simp) ?_;refine af ?_;refine cE (fR (cs':=gG _) rfl rfl rfl rfl) ak (dx V.h V.h (by first|(simp;done)|exact⟨rfl,bn rfl⟩|(simp;omega)) (by rfl)) ?_;refine SS ?_;refine er ?_;refine aN ?_;refine bl rfl rfl (dQ (vs:=gG _) rfl rfl V.h V.h rfl) (fun hc=>⟨ak,(dR V.h V.h (by first|(simp;done)|omega|exact bn rfl))⟩) ?_;refine gc vH ?_;refine af ?_;refine ab (aq (d:=.s (.bool _)) rfl ?_);simp[gq,h0,h1,h2,h3]
def LS(f:aA)(x:Argus.End)(s:St):Prop:=∃ cells n,Ghost prog s ⟨ax [(2,.pt (aZ P0 Q0 f)),(3,.pt (aW x)),(5,.rp 2 0),(6,B (eI f x).1)],up (fun _=>none) 2 (some (.cells cells 69)),n⟩/\cells.length=15/\∀ m,Sns prog [2] m cells (aW (eI f x).2)
theorem vR{l:List Int}{r:Int}:eT l [r]=dB l r:=by simp[eT]
theorem jZ{f:aA}{x r:Argus.End}{env:Env}{m:Mem}{nx:Nat}{cells:List D}{ok:Bool}(hr:eI f x=(ok,r))(he:jM [(2,.pt (aZ P0 Q0 f)),(3,.pt (aW x)),(5,.rp 2 0),(6,B ok)] env)(hm:m 2=some (.cells cells 69))(hl:cells.length=15)
 (C:∀ m,Sns prog [2] m cells (aW r)):LS f x ⟨env,m,nx⟩:=by
 refine⟨cells,nx,?_,hl,?_⟩
 .rw[hr];exact HQ he (Rk hm)
 .rw[hr];exact C
set_option maxHeartbeats 4000000 in
theorem AZ{f:aA}{x:Argus.End}:PCall prog 195 [og f,.agg (aW x)] (B (gI f x)):=by
 have aT:∀ a∈[og f,.agg (aW x)],Tr a:=.cons (jK jo jq f) (.cons (.agg (iQ x)) .nil);have gO:= @gO P0 Q0 f jo jq rfl rfl;have eb:= @eb P0 Q0 f jo jq rfl rfl;have fM:= @fM P0 Q0 f jo jq rfl rfl;have vH:= @vH P0 Q0 f jo jq rfl rfl;have p7:= @p7 P0 Q0 f jo jq rfl rfl;refine a7 LU aT (Tr.s _) ?_;rw[Wi];refine au ?_;refine ap ?_;refine ab (aJ (bj [(0,aZ P0 Q0 f,133),(1,aW x,69)] eH (l:=[(2,.pt (aZ P0 Q0 f)),(3,.pt (aW x))]) eH) (aj ?_));refine af ?_;refine cE (fR (cs':=aW _) rfl rfl rfl rfl) ak (dx V.h V.h (by first|(simp;done)|exact⟨rfl,bn rfl⟩|(simp;omega)) (by rfl)) ?_;refine SS ?_;refine er ?_;refine af ?_;refine ab ?_;refine dA (LS f x) (aj ?_) fun s X=>?_
 .refine af ?_;refine ab (nT (aj ?_));refine af ?_;refine ab (an rfl (fun h=>?_) fun h=>?_)
  .have h:x.kind=1:=by simpa using h
   refine kW ?_;refine ap ?_;refine cl gO ?_;refine ap ?_;refine ab ?_;exact jZ (r:={ x with kind:=0,to:=0 }) (by simp[eI,h,aG,ib,Bool.and_assoc,bI]) ⟨rfl,rfl,rfl,rfl,trivial⟩ rfl rfl (fun m=>by repeat' (first|exact trivial|exact cw (Tr.s _)|exact cw (cW _)|exact cw (gW _)|exact j0|refine And.intro ?_ ?_))
  have h1:¬ x.kind=1:=by simpa using h
  clear h;refine ws ?_;refine af ?_;refine ab (an rfl (fun h=>?_) fun h=>?_)
  .have h:x.kind=2:=by simpa using h
   refine kW ?_;refine ap ?_;refine cl eb ?_;refine aR ?_;refine gc gO ?_;refine aR ?_;refine gc gO ?_;refine bH ?_;refine ab ?_;exact jZ (r:={ x with kind:=0,a:=0,to:=0,eD:=0 }) (by simp[eI,h,aG,ib,Bool.and_assoc,bI]) ⟨rfl,rfl,rfl,rfl,trivial⟩ rfl rfl (fun m=>by repeat' (first|exact trivial|exact cw (Tr.s _)|exact cw (cW _)|exact cw (gW _)|exact j0|refine And.intro ?_ ?_))
  have h2:¬ x.kind=2:=by simpa using h
  clear h;refine ws ?_;refine af ?_;refine ab (an rfl (fun h=>?_) fun h=>?_)
  .have h:x.kind=3:=by simpa using h
   refine ws ?_;refine bF ?_;refine er ?_;refine bH ?_;refine af ?_;refine ab (an rfl (fun hr=>?_) fun hr=>?_)
   .have hr:f.result≠0/\f.iter=false:=by simpa[bne,ib] using hr
    refine HL PA ?_;refine ap ?_;refine cl eb ?_;refine aR ?_;refine bf bg ?_;exact jZ (r:={ x with kind:=0,a:=0 }) (by simp[eI,h,aG,ib,Bool.and_assoc,hr.1,hr.2]) ⟨rfl,rfl,rfl,rfl,trivial⟩ rfl rfl (fun m=>by repeat' (first|exact trivial|exact cw (Tr.s _)|exact cw (cW _)|exact cw (gW _)|exact j0|refine And.intro ?_ ?_))
   .have hr:¬ (f.result≠0/\f.iter=false):=by simpa[bne,ib] using hr
    refine CB ?_;exact jZ (r:={ x with kind:=0,a:=0 }) (by simp only[eI,h];simp only[if_neg hr];simp[aG,ib]) ⟨rfl,rfl,rfl,rfl,trivial⟩ rfl rfl (fun m=>by repeat' (first|exact trivial|exact cw (Tr.s _)|exact cw (cW _)|exact cw (gW _)|exact j0|refine And.intro ?_ ?_))
  have h3:¬ x.kind=3:=by simpa using h
  clear h;refine ws ?_;refine af ?_;refine ab (an rfl (fun h=>?_) fun h=>?_)
  .have h:x.kind=4:=by simpa using h
   refine kW ?_;refine af ?_;refine cl yq ?_;refine ap ?_;refine ab ?_;exact jZ (r:={ x with kind:=0,name:=.empty }) (by simp[eI,h,aG,ib,Bool.and_assoc]) ⟨rfl,rfl,rfl,rfl,trivial⟩ rfl rfl (fun m=>by repeat' (first|exact trivial|exact cw (Tr.s _)|exact cw (cW _)|exact cw (gW _)|exact j0|refine And.intro ?_ ?_))
  have h4:¬ x.kind=4:=by simpa using h
  clear h;refine ws ?_;refine af ?_;refine ab (an rfl (fun h=>?_) fun h=>?_)
  .have h:x.kind=5:=by simpa using h
   refine ws ?_;have kg:gotD prog 131 true (lookD (.int .u8 x.ins.op) (nA gJ))=.tup [.agg (gG ((ez gJ x.ins.op).getD te)),.s (.bool (ez gJ x.ins.op).isSome)]:=JX rfl _ _ (by rw[Eg];unfold zeroD;rw[ET,EU];rfl);have FT:=Iv (P:=prog) (kt:=5) u5 gJ;refine aR ?_;refine aD (GR rfl rfl V.h kg) ak ⟨V.h,by kernel_rfl,FT⟩ ?_;refine SS ?_;refine aD (nP (v:=.agg (gG _)) rfl rfl) ak (by first|decide|simp) ?_;refine af ?_;refine cE (fR (cs':=gG _) rfl rfl rfl rfl) ak (dx V.h V.h (by first|(simp;done)|exact⟨rfl,bn rfl⟩|(simp;omega)) (by rfl)) ?_;refine SS ?_;refine er ?_;refine aR ?_;refine bl rfl rfl (dQ (vs:=gG _) rfl rfl V.h V.h rfl) (fun hc=>⟨ak,(dR V.h V.h (by first|(simp;done)|omega|exact bn rfl))⟩) ?_;refine gc vH ?_;refine aR ?_;refine gc gO ?_;refine aN ?_;refine gc p7 ?_;refine af ?_;refine ab (kW ?_);refine aQ ?_;refine ab ?_;exact jZ (r:={ x with kind:=0,ins:=dc,to:=0,az:=[],b7:= -1 }) (by simp[eI,h,aG,ib,Bool.and_assoc,bI]) ⟨rfl,rfl,rfl,rfl,trivial⟩ rfl rfl (fun m=>by repeat' (first|exact trivial|exact cw (Tr.s _)|exact cw (cW _)|exact cw (gW _)|exact j0|refine And.intro ?_ ?_))
  have h5:¬ x.kind=5:=by simpa using h
  clear h;refine ws ?_;refine af ?_;refine ab (an rfl (fun h=>?_) fun h=>?_)
  .have h:x.kind=6:=by simpa using h
   refine ws ?_;have oA:=oA (s:=x.name);have Wj:=fM (l:=[x.a]);have fM:=fM (l:=x.args);have TO:∀ {m:Mem},m 3=some (.cells [I x.a] 3)->Sns prog [3] m [og f,.rs 3 0 1] [og f,aC [x.a]]:=fun hm=>⟨cw (jK jo jq f),D1 hm oS (by rw[c3];rfl) (.cons (.s _) .nil),trivial⟩
   cases C:iX x.name with
   |false=>
    rw[C] at oA;refine af ?_;refine cl oA ?_;refine bH ?_;refine af ?_;refine gc fM ?_;refine aQ ?_;(iterate 3 refine z fun _ _=>?_);refine aR ?_;refine gc gO ?_;refine aN ?_;refine gc p7 ?_;refine af ?_;refine ab (kW ?_);refine aQ ?_;refine ap ?_;refine ab ?_;exact jZ (r:={ x with kind:=0,name:=.empty,args:=[],a:=0,to:=0,az:=[],b7:= -1 }) (by simp[eI,h,aG,ib,Bool.and_assoc,bI,C]) ⟨rfl,rfl,rfl,rfl,trivial⟩ rfl rfl (fun m=>by repeat' (first|exact trivial|exact cw (Tr.s _)|exact cw (cW _)|exact cw (gW _)|exact j0|refine And.intro ?_ ?_))
   |true=>
    rw[C] at oA;by_cases J:(x.args.length:Int)<=6
    rotate_left
    .have Mf:decide ((x.args.length:Int)<=6)=false:=by simpa using J
     refine af ?_;refine cl oA ?_;refine bH ?_;refine af ?_;refine gc fM ?_;refine aQ ?_;(iterate 3 refine z fun _ _=>?_);refine aR ?_;refine gc gO ?_;refine aN ?_;refine gc p7 ?_;refine af ?_;refine ab (kW ?_);refine aQ ?_;refine ap ?_;refine ab ?_;exact jZ (r:={ x with kind:=0,name:=.empty,args:=[],a:=0,to:=0,az:=[],b7:= -1 }) (by simp[eI,h,aG,ib,Bool.and_assoc,bI,C,J]) ⟨rfl,rfl,rfl,rfl,trivial⟩ rfl rfl (fun m=>by repeat' (first|exact trivial|exact cw (Tr.s _)|exact cw (cW _)|exact cw (gW _)|exact j0|refine And.intro ?_ ?_))
    have Mf:decide ((x.args.length:Int)<=6)=true:=by simpa using J
    cases M:eT f.ag x.args with
    |false=>
     rw[M] at fM;refine af ?_;refine cl oA ?_;refine bH ?_;refine af ?_;refine gc fM ?_;refine aQ ?_;(iterate 3 refine z fun _ _=>?_);refine aR ?_;refine gc gO ?_;refine aN ?_;refine gc p7 ?_;refine af ?_;refine ab (kW ?_);refine aQ ?_;refine ap ?_;refine ab ?_;exact jZ (r:={ x with kind:=0,name:=.empty,args:=[],a:=0,to:=0,az:=[],b7:= -1 }) (by simp[eI,h,aG,ib,Bool.and_assoc,bI,C,J,M]) ⟨rfl,rfl,rfl,rfl,trivial⟩ rfl rfl (fun m=>by repeat' (first|exact trivial|exact cw (Tr.s _)|exact cw (cW _)|exact cw (gW _)|exact j0|refine And.intro ?_ ?_))
    |true=>
     rw[M] at fM;by_cases U:x.a= -1
     .have fE:(x.a== -1)=true:=by simpa using U
      refine af ?_;refine cl oA ?_;refine bH ?_;refine af ?_;refine gc fM ?_;refine aQ ?_;(iterate 2 refine z fun _ _=>?_);refine bF ?_;refine gc gO ?_;refine aN ?_;refine gc p7 ?_;refine af ?_;refine ab (kW ?_);refine aQ ?_;refine ap ?_;refine ab ?_;exact jZ (r:={ x with kind:=0,name:=.empty,args:=[],a:=0,to:=0,az:=[],b7:= -1 }) (by simp[eI,h,aG,ib,Bool.and_assoc,bI,C,J,M,U]) ⟨rfl,rfl,rfl,rfl,trivial⟩ rfl rfl (fun m=>by repeat' (first|exact trivial|exact cw (Tr.s _)|exact cw (cW _)|exact cw (gW _)|exact j0|refine And.intro ?_ ?_))
     .have fE:(x.a== -1)=false:=by simpa using U
      refine af ?_;refine cl oA ?_;refine bH ?_;refine af ?_;refine gc fM ?_;refine bH ?_;refine af ?_;refine Aj Wj rfl rfl rfl rfl (TO rfl) ak ?_;refine bF ?_;refine gc gO ?_;refine aN ?_;refine gc p7 ?_;refine af ?_;refine ab (kW ?_);refine aQ ?_;refine ap ?_;refine ab ?_;exact jZ (r:={ x with kind:=0,name:=.empty,args:=[],a:=0,to:=0,az:=[],b7:= -1 }) (by simp[eI,h,aG,ib,Bool.and_assoc,bI,C,J,M,U,vR]) ⟨rfl,rfl,rfl,rfl,trivial⟩ rfl rfl (fun m=>by repeat' (first|exact trivial|exact cw (Tr.s _)|exact cw (cW _)|exact cw (gW _)|exact j0|refine And.intro ?_ ?_))
  have h6:¬ x.kind=6:=by simpa using h
  clear h;refine ws ?_;refine af ?_;refine ab (an rfl (fun h=>?_) fun h=>?_)
  .have h:x.kind=7:=by simpa using h
   refine ws ?_;refine af ?_;refine cl oA ?_;refine bH ?_;refine af ?_;refine gc fM ?_;refine aR ?_;refine gc eb ?_;refine bF ?_;refine gc gO ?_;refine af ?_;refine ab (kW ?_);refine bH ?_;refine ab ?_;exact jZ (r:={ x with kind:=0,name:=.empty,args:=[],a:=0,to:=0 }) (by simp[eI,h,aG,ib,Bool.and_assoc,bI]) ⟨rfl,rfl,rfl,rfl,trivial⟩ rfl rfl (fun m=>by repeat' (first|exact trivial|exact cw (Tr.s _)|exact cw (cW _)|exact cw (gW _)|exact j0|refine And.intro ?_ ?_))
  have h7:¬ x.kind=7:=by simpa using h
  clear h;refine ws ?_;refine af ?_;refine ab (an rfl (fun h=>?_) fun h=>?_)
  .have h:x.kind=8:=by simpa using h
   refine ws ?_;have fM:=fM (l:=[x.b]);have Ee:∀ {m:Mem},m 3=some (.cells [I x.b] 3)->Sns prog [3] m [og f,.rs 3 0 1] [og f,aC [x.b]]:=fun hm=>⟨cw (jK jo jq f),D1 hm oS (by rw[c3];rfl) (.cons (.s _) .nil),trivial⟩
   by_cases C:bP f.ag x.a=3
   .have fE:(bP f.ag x.a==3)=true:=by simpa using C
    refine ap ?_;refine cl eb ?_;refine bF ?_;refine Aj fM rfl rfl rfl rfl (Ee rfl) ak ?_;refine aR ?_;refine gc gO ?_;refine aR ?_;refine gc gO ?_;refine aN ?_;refine gc p7 ?_;refine af ?_;refine ab (kW ?_);refine aQ ?_;refine ap ?_;refine ab ?_;exact jZ (r:={ x with kind:=0,a:=0,b:=0,to:=0,eD:=0,az:=[],b7:= -1 }) (by simp[eI,h,aG,ib,Bool.and_assoc,bI,C,vR]) ⟨rfl,rfl,rfl,rfl,trivial⟩ rfl rfl (fun m=>by repeat' (first|exact trivial|exact cw (Tr.s _)|exact cw (cW _)|exact cw (gW _)|exact j0|refine And.intro ?_ ?_))
   .have fE:(bP f.ag x.a==3)=false:=by simpa using C
    refine ap ?_;refine cl eb ?_;refine aR ?_;(iterate 2 refine z fun _ _=>?_);refine aR ?_;refine gc gO ?_;refine aR ?_;refine gc gO ?_;refine aN ?_;refine gc p7 ?_;refine af ?_;refine ab (kW ?_);refine aQ ?_;refine ap ?_;refine ab ?_;exact jZ (r:={ x with kind:=0,a:=0,b:=0,to:=0,eD:=0,az:=[],b7:= -1 }) (by simp[eI,h,aG,ib,Bool.and_assoc,bI,C]) ⟨rfl,rfl,rfl,rfl,trivial⟩ rfl rfl (fun m=>by repeat' (first|exact trivial|exact cw (Tr.s _)|exact cw (cW _)|exact cw (gW _)|exact j0|refine And.intro ?_ ?_))
  have h8:¬ x.kind=8:=by simpa using h
  clear h;refine ws ?_;refine af ?_;refine ab (an rfl (fun h=>?_) fun h=>?_)
  .have h:x.kind=9:=by simpa using h
   refine HL PB ?_;refine dF ?_;refine gc eb ?_;refine aQ ?_;refine gc gO ?_;refine bF ?_;refine bf bg ?_;exact jZ (r:={ x with kind:=0,a:=0,to:=0 }) (by simp[eI,h,aG,ib,Bool.and_assoc,bI]) ⟨rfl,rfl,rfl,rfl,trivial⟩ rfl rfl (fun m=>by repeat' (first|exact trivial|exact cw (Tr.s _)|exact cw (cW _)|exact cw (gW _)|exact j0|refine And.intro ?_ ?_))
  .have h9:¬ x.kind=9:=by simpa using h
   refine CB ?_;exact jZ (r:={ x with kind:=0 }) (by simp[eI,h1,h2,h3,h4,h5,h6,h7,h8,h9]) ⟨rfl,rfl,rfl,rfl,trivial⟩ rfl rfl (fun m=>by repeat' (first|exact trivial|exact cw (Tr.s _)|exact cw (cW _)|exact cw (gW _)|exact j0|refine And.intro ?_ ?_))
 .obtain⟨cells,n,hg,hl,X⟩:=X;refine⟨_,hg,aj ?_⟩;have oV:(cells.drop 0).take 15=cells:=by rw[List.drop_zero,cL oG]
  have ER:=ER (x:=(eI f x).2);have Wl:∀ {m:Mem},m 2=m 2->Sns prog [2] m [.agg ((cells.drop 0).take 15)] [.agg (aW (eI f x).2)]:=fun {m} _=>⟨TP (by rw[oV];exact X m),trivial⟩
  have he:gI f x=((eI f x).1&&tG (eI f x).2):=rfl;generalize (eI f x).1=ok at he;cases ok with
  |true=>
   refine ap ?_;refine Aj ER rfl rfl rfl rfl (Wl rfl) ak ?_;refine af ?_;refine ab (aq (d:=.s (.bool _)) rfl ?_);rw[he];simp
  |false=>
   refine af ?_;(iterate 2 refine z fun _ _=>?_);refine af ?_;refine ab (aq (d:=.s (.bool _)) rfl ?_);rw[he];simp
theorem qP{n:Int}(hn: -1000000<=n/\n<=1000000):PCall prog 244 [I n] (I (ik n)):=by
 refine a7 LV (by simp[Tr.s]) (Tr.s _) ?_;rw[Wv];refine ws ?_;refine SS ?_;refine er ?_;refine ap ?_;exact ab (aq rfl rfl)
theorem vB{x:bd}:PCall prog 139 [.agg (a8 x)] (I (cN x)):=by
 have M:∀ a∈[D.agg (a8 x)],Tr a:=.cons (.agg (mZ x)) .nil;refine a7 LW M (Tr.s _) ?_;rw[Ww];refine au ?_;refine af ?_;refine ab (aJ (bj [(0,a8 x,66)] eH (l:=[(1,.pt (a8 x))]) eH) (aB (aj ?_)));refine af ?_;refine ab (kf ?_);refine dA (fun s=>Ghost prog s ⟨ax [(1,.pt (a8 x)),(4,U8 x.op),(5,B (aE jG x.op))],fun _=>none,1⟩) (aj ?_) fun s hg=>⟨_,hg,?_⟩
 .refine af ?_;refine ab (an rfl (fun h=>aV ?_) fun e1=>aj ?_)
  .have h:x.op=1:=by simpa using h
   refine ao ⟨rfl,rfl,?_,trivial⟩;show D.s (.bool (x.op==1))=_;rw[h];rfl
  refine af ?_;refine ab (an rfl (fun h=>aV ?_) fun e2=>aj ?_)
  .have h:x.op=2:=by simpa using h
   refine ao ⟨rfl,rfl,?_,trivial⟩;show D.s (.bool (x.op==2))=_;rw[h];rfl
  refine af ?_;refine ab (an rfl (fun h=>aV ?_) fun e3=>aj ?_)
  .have h:x.op=3:=by simpa using h
   refine ao ⟨rfl,rfl,?_,trivial⟩;show D.s (.bool (x.op==3))=_;rw[h];rfl
  refine af ?_;refine ab (an rfl (fun h=>aV ?_) fun e4=>aj ?_)
  .have h:x.op=4:=by simpa using h
   refine ao ⟨rfl,rfl,?_,trivial⟩;show D.s (.bool (x.op==4))=_;rw[h];rfl
  refine af ?_;refine ab (an rfl (fun h=>aV ?_) fun e5=>aj ?_)
  .have h:x.op=5:=by simpa using h
   refine ao ⟨rfl,rfl,?_,trivial⟩;show D.s (.bool (x.op==5))=_;rw[h];rfl
  refine af ?_;refine ab (an rfl (fun h=>aV ?_) fun e6=>aj ?_)
  .have h:x.op=6:=by simpa using h
   refine ao ⟨rfl,rfl,?_,trivial⟩;show D.s (.bool (x.op==6))=_;rw[h];rfl
  refine af ?_;refine ab (an rfl (fun h=>aV ?_) fun e7=>aj ?_)
  .have h:x.op=7:=by simpa using h
   refine ao ⟨rfl,rfl,?_,trivial⟩;show D.s (.bool (x.op==7))=_;rw[h];rfl
  refine af ?_;refine ab (an rfl (fun h=>aV ?_) fun e8=>aj ?_)
  .have h:x.op=8:=by simpa using h
   refine ao ⟨rfl,rfl,?_,trivial⟩;show D.s (.bool (x.op==8))=_;rw[h];rfl
  refine af ?_;refine ab (an rfl (fun h=>aV ?_) fun e9=>aj ?_)
  .have h:x.op=9:=by simpa using h
   refine ao ⟨rfl,rfl,?_,trivial⟩;show D.s (.bool (x.op==9))=_;rw[h];rfl
  refine af ?_;refine ab (an rfl (fun h=>aV ?_) fun C=>aj ?_)
  .have h:x.op=10:=by simpa using h
   refine ao ⟨rfl,rfl,?_,trivial⟩;show D.s (.bool (x.op==10))=_;rw[h];rfl
  refine af ?_;refine ab (an rfl (fun h=>aV ?_) fun U=>aj ?_)
  .have h:x.op=11:=by simpa using h
   refine ao ⟨rfl,rfl,?_,trivial⟩;show D.s (.bool (x.op==11))=_;rw[h];rfl
  refine af ?_;refine ab (an rfl (fun h=>aV ?_) fun X=>aj ?_)
  .have h:x.op=13:=by simpa using h
   refine ao ⟨rfl,rfl,?_,trivial⟩;show D.s (.bool (x.op==13))=_;rw[h];rfl
  refine af ?_;refine ab (an rfl (fun h=>aV ?_) fun uC=>aj ?_)
  .have h:x.op=14:=by simpa using h
   refine ao ⟨rfl,rfl,?_,trivial⟩;show D.s (.bool (x.op==14))=_;rw[h];rfl
  refine af ?_;refine ab (an rfl (fun h=>aV ?_) fun zj=>iW ?_)
  .have h:x.op=17:=by simpa using h
   refine ao ⟨rfl,rfl,?_,trivial⟩;show D.s (.bool (x.op==17))=_;rw[h];rfl
  refine af ?_;refine ab ?_;refine ao ⟨rfl,rfl,?_,trivial⟩;show D.s (.bool (x.op==19))=_;simp[aE,jG,e1,e2,e3,e4,e5,e6,e7,e8,e9,C,U,X,uC,zj]
 refine an rfl (fun h1=>?_) fun h1=>?_
 .refine ws ?_;refine ap ?_;refine ab (aU (bk (aO (aq (d:=I x.to) rfl ?_))));simp[cN,h1]
 refine dA (fun s=>Ghost prog s ⟨ax [(1,.pt (a8 x)),(4,U8 x.op),(23,B (aE kV x.op))],fun _=>none,1⟩) (aj ?_) fun s hg=>⟨_,hg,?_⟩
 .refine af ?_;refine ab (an rfl (fun h=>aV ?_) fun rF=>aj ?_)
  .have h:x.op=30:=by simpa using h
   refine ao ⟨rfl,rfl,?_,trivial⟩;show D.s (.bool (x.op==30))=_;rw[h];rfl
  refine af ?_;refine ab (an rfl (fun h=>aV ?_) fun rG=>aj ?_)
  .have h:x.op=31:=by simpa using h
   refine ao ⟨rfl,rfl,?_,trivial⟩;show D.s (.bool (x.op==31))=_;rw[h];rfl
  refine af ?_;refine ab (an rfl (fun h=>aV ?_) fun rH=>aj ?_)
  .have h:x.op=32:=by simpa using h
   refine ao ⟨rfl,rfl,?_,trivial⟩;show D.s (.bool (x.op==32))=_;rw[h];rfl
  refine af ?_;refine ab (an rfl (fun h=>aV ?_) fun rI=>aj ?_)
  .have h:x.op=33:=by simpa using h
   refine ao ⟨rfl,rfl,?_,trivial⟩;show D.s (.bool (x.op==33))=_;rw[h];rfl
  refine af ?_;refine ab (an rfl (fun h=>aV ?_) fun uD=>aj ?_)
  .have h:x.op=34:=by simpa using h
   refine ao ⟨rfl,rfl,?_,trivial⟩;show D.s (.bool (x.op==34))=_;rw[h];rfl
  refine af ?_;refine ab (an rfl (fun h=>aV ?_) fun J=>iW ?_)
  .have h:x.op=36:=by simpa using h
   refine ao ⟨rfl,rfl,?_,trivial⟩;show D.s (.bool (x.op==36))=_;rw[h];rfl
  refine af ?_;refine ab ?_;refine ao ⟨rfl,rfl,?_,trivial⟩;show D.s (.bool (x.op==37))=_;simp[aE,kV,rF,rG,rH,rI,uD,J]
 refine an rfl (fun h2=>?_) fun h2=>?_
 .refine ws ?_;refine ap ?_;refine ab (aU (bk (aO (aq (d:=I x.to) rfl ?_))));simp[cN,h2]
 refine jN (aj ?_);refine SS ?_;refine ab (aq (d:=I (-1)) rfl ?_);simp[cN,h1,h2]
theorem EH{x:Argus.End}:PCall prog 175 [.agg (aW x)] (I (dw x)):=by
 have C:∀ a∈[D.agg (aW x)],Tr a:=.cons (.agg (iQ x)) .nil;have vB:=vB (x:=x.ins);refine a7 LX C (Tr.s _) ?_;rw[Wx];refine au ?_;refine af ?_;refine ab (aJ (bj [(0,aW x,69)] eH (l:=[(1,.pt (aW x))]) eH) (aB (aj ?_)));refine af ?_;refine ab (kf (aj ?_));refine af ?_;refine ab (an rfl (fun h1=>?_) fun h1=>?_)
 .have h1:x.kind=5:=by simpa using h1
  refine ws ?_;refine af ?_;refine cl vB ?_;refine SS ?_;refine ab (aU (bk (aO (aq (d:=I (cN x.ins)) rfl ?_))));simp[dw,h1]
 have h1:¬ x.kind=5:=by simpa using h1
 refine dA (fun s=>Ghost prog s ⟨ax [(1,.pt (aW x)),(4,U8 x.kind),(10,B (aE [6,7] x.kind))],fun _=>none,1⟩) (aj ?_) fun s hg=>⟨_,hg,?_⟩
 .refine af ?_;refine ab (an rfl (fun h=>aV ?_) fun e6=>iW ?_)
  .have h:x.kind=6:=by simpa using h
   refine ao ⟨rfl,rfl,?_,trivial⟩;show D.s (.bool (x.kind==6))=_;rw[h];rfl
  refine af ?_;refine ab ?_;refine ao ⟨rfl,rfl,?_,trivial⟩;show D.s (.bool (x.kind==7))=_;simp[aE,e6]
 refine an rfl (fun h2=>?_) fun h2=>?_
 .refine ws ?_;refine ap ?_;refine ab (aU (bk (aO (aq (d:=I x.a) rfl ?_))));simp[dw,h1,h2]
 refine ws ?_;refine af ?_;refine ab (an rfl (fun h3=>?_) fun h3=>?_)
 .have h3:x.kind=8:=by simpa using h3
  refine ws ?_;refine ap ?_;refine ab (aU (bk (aO (aq (d:=I x.b) rfl ?_))));simp[dw,h2,h3];simp[aE]
 have h3:¬ x.kind=8:=by simpa using h3
 refine jN (aj ?_);refine SS ?_;refine ab (aq (d:=I (-1)) rfl ?_);simp[dw,h1,h2,h3]
theorem vP{l:List Int}(hl:l.length<=100000):PCall prog 105 [aC l] (aC l):=by
 have J:∀ a∈[aC l],Tr a:=.cons (cW _) .nil;refine a7 LY J (cW _) ?_;rw[Wy];have ou:(l.map I).take (l.length*1)=l.map I:=cL oS
 have last:AW prog noY true (.seq (.region 3 (Z rQ 3) false) .ret) (retQ prog [.tmp 2] fun d x=>d=aC l) ⟨ax [(0,aC l)],fun _=>none,0⟩:=by
  refine au ?_;refine aN ?_;refine ab (aJ (bj [(1,l.map I,3)] eH (l:=[(2,aC l)]) ⟨?_,trivial⟩) (aq rfl rfl));show oO _ [(1,l.map I,3)] (.rs 1 0 (0+l.length))=.sl (l.map I) l.length;rw[Nat.zero_add];exact iA c3 (cL oS)
 refine ws ?_;refine SS ?_;refine ab ?_;refine dA (fun s=>Ghost prog s ⟨ax [(0,aC l)],fun _=>none,0⟩) (aj ?_) fun s hg=>⟨_,hg,last⟩
 cases l with
 |nil=>
  refine SS ?_;refine aD (TR rfl) ak V.h ?_;refine ab (Sz rfl (au ?_) (aV (ao eH)));refine SS ?_;exact ab (aJ (s7 (n0:=2) rfl) (aU (aO (aq rfl rfl))))
 |cons a l=>
  have C:(a::l).length≠0:=by simp
  refine SS ?_;refine aD (TS rfl C) ak V.h ?_;exact ab (an rfl (fun h=>oH) fun h=>aV (ao eH))
theorem vE{x:bd}(hx:x.op=10\/x.op=38->x.args.length<=1000):PCall prog 140 [.agg (a8 x)] (aC (bW x)):=by
 have U:∀ a∈[D.agg (a8 x)],Tr a:=.cons (.agg (mZ x)) .nil;refine a7 LZ U (cW _) ?_;rw[Wz];refine au ?_;refine af ?_;refine ab (aJ (bj [(0,a8 x,66)] eH (l:=[(1,.pt (a8 x))]) eH) (aB (aj ?_)));refine af ?_;refine ab (kf ?_);refine dA (fun s=>Ghost prog s ⟨ax [(1,.pt (a8 x)),(4,U8 x.op),(5,B (aE kZ x.op))],fun _=>none,1⟩) (aj ?_) fun s hg=>⟨_,hg,?_⟩
 .refine af ?_;refine ab (an rfl (fun h=>aV ?_) fun e2=>aj ?_)
  .have h:x.op=2:=by simpa using h
   refine ao ⟨rfl,rfl,?_,trivial⟩;show D.s (.bool (x.op==2))=_;rw[h];rfl
  refine af ?_;refine ab (an rfl (fun h=>aV ?_) fun e8=>aj ?_)
  .have h:x.op=8:=by simpa using h
   refine ao ⟨rfl,rfl,?_,trivial⟩;show D.s (.bool (x.op==8))=_;rw[h];rfl
  refine af ?_;refine ab (an rfl (fun h=>aV ?_) fun X=>aj ?_)
  .have h:x.op=11:=by simpa using h
   refine ao ⟨rfl,rfl,?_,trivial⟩;show D.s (.bool (x.op==11))=_;rw[h];rfl
  refine af ?_;refine ab (an rfl (fun h=>aV ?_) fun rE=>aj ?_)
  .have h:x.op=13:=by simpa using h
   refine ao ⟨rfl,rfl,?_,trivial⟩;show D.s (.bool (x.op==13))=_;rw[h];rfl
  refine af ?_;refine ab (an rfl (fun h=>aV ?_) fun uC=>aj ?_)
  .have h:x.op=14:=by simpa using h
   refine ao ⟨rfl,rfl,?_,trivial⟩;show D.s (.bool (x.op==14))=_;rw[h];rfl
  refine af ?_;refine ab (an rfl (fun h=>aV ?_) fun zk=>aj ?_)
  .have h:x.op=15:=by simpa using h
   refine ao ⟨rfl,rfl,?_,trivial⟩;show D.s (.bool (x.op==15))=_;rw[h];rfl
  refine af ?_;refine ab (an rfl (fun h=>aV ?_) fun zl=>aj ?_)
  .have h:x.op=16:=by simpa using h
   refine ao ⟨rfl,rfl,?_,trivial⟩;show D.s (.bool (x.op==16))=_;rw[h];rfl
  refine af ?_;refine ab (an rfl (fun h=>aV ?_) fun C=>iW ?_)
  .have h:x.op=18:=by simpa using h
   refine ao ⟨rfl,rfl,?_,trivial⟩;show D.s (.bool (x.op==18))=_;rw[h];rfl
  refine af ?_;refine ab ?_;refine ao ⟨rfl,rfl,?_,trivial⟩;show D.s (.bool (x.op==36))=_;simp[aE,kZ,e2,e8,X,rE,uC,zk,zl,C]
 refine an rfl (fun h1=>?_) fun h1=>?_
 .refine au ?_;refine aN ?_;refine ab (aJ (bj [(1,([x.a]).map I,3)] eH (l:=[(2,aC ([x.a]))]) ⟨iA c3 rfl,trivial⟩) (aU (bk (aO (aq (d:=aC ([x.a])) rfl ?_)))));exact congrArg aC (by unfold bW;rw[if_pos h1])
 refine dA (fun s=>Ghost prog s ⟨ax [(1,.pt (a8 x)),(4,U8 x.op),(18,B (aE nU x.op))],fun _=>none,1⟩) (aj ?_) fun s hg=>⟨_,hg,?_⟩
 .refine af ?_;refine ab (an rfl (fun h=>aV ?_) fun e3=>aj ?_)
  .have h:x.op=3:=by simpa using h
   refine ao ⟨rfl,rfl,?_,trivial⟩;show D.s (.bool (x.op==3))=_;rw[h];rfl
  refine af ?_;refine ab (an rfl (fun h=>aV ?_) fun e4=>aj ?_)
  .have h:x.op=4:=by simpa using h
   refine ao ⟨rfl,rfl,?_,trivial⟩;show D.s (.bool (x.op==4))=_;rw[h];rfl
  refine af ?_;refine ab (an rfl (fun h=>aV ?_) fun e5=>aj ?_)
  .have h:x.op=5:=by simpa using h
   refine ao ⟨rfl,rfl,?_,trivial⟩;show D.s (.bool (x.op==5))=_;rw[h];rfl
  refine af ?_;refine ab (an rfl (fun h=>aV ?_) fun e6=>aj ?_)
  .have h:x.op=6:=by simpa using h
   refine ao ⟨rfl,rfl,?_,trivial⟩;show D.s (.bool (x.op==6))=_;rw[h];rfl
  refine af ?_;refine ab (an rfl (fun h=>aV ?_) fun e7=>aj ?_)
  .have h:x.op=7:=by simpa using h
   refine ao ⟨rfl,rfl,?_,trivial⟩;show D.s (.bool (x.op==7))=_;rw[h];rfl
  refine af ?_;refine ab (an rfl (fun h=>aV ?_) fun J=>aj ?_)
  .have h:x.op=12:=by simpa using h
   refine ao ⟨rfl,rfl,?_,trivial⟩;show D.s (.bool (x.op==12))=_;rw[h];rfl
  refine af ?_;refine ab (an rfl (fun h=>aV ?_) fun rF=>aj ?_)
  .have h:x.op=30:=by simpa using h
   refine ao ⟨rfl,rfl,?_,trivial⟩;show D.s (.bool (x.op==30))=_;rw[h];rfl
  refine af ?_;refine ab (an rfl (fun h=>aV ?_) fun rG=>aj ?_)
  .have h:x.op=31:=by simpa using h
   refine ao ⟨rfl,rfl,?_,trivial⟩;show D.s (.bool (x.op==31))=_;rw[h];rfl
  refine af ?_;refine ab (an rfl (fun h=>aV ?_) fun rH=>aj ?_)
  .have h:x.op=32:=by simpa using h
   refine ao ⟨rfl,rfl,?_,trivial⟩;show D.s (.bool (x.op==32))=_;rw[h];rfl
  refine af ?_;refine ab (an rfl (fun h=>aV ?_) fun rI=>aj ?_)
  .have h:x.op=33:=by simpa using h
   refine ao ⟨rfl,rfl,?_,trivial⟩;show D.s (.bool (x.op==33))=_;rw[h];rfl
  refine af ?_;refine ab (an rfl (fun h=>aV ?_) fun uD=>aj ?_)
  .have h:x.op=34:=by simpa using h
   refine ao ⟨rfl,rfl,?_,trivial⟩;show D.s (.bool (x.op==34))=_;rw[h];rfl
  refine af ?_;refine ab (an rfl (fun h=>aV ?_) fun M=>iW ?_)
  .have h:x.op=35:=by simpa using h
   refine ao ⟨rfl,rfl,?_,trivial⟩;show D.s (.bool (x.op==35))=_;rw[h];rfl
  refine af ?_;refine ab ?_;refine ao ⟨rfl,rfl,?_,trivial⟩;show D.s (.bool (x.op==37))=_;simp[aE,nU,e3,e4,e5,e6,e7,J,rF,rG,rH,rI,uD,M]
 refine an rfl (fun h2=>?_) fun h2=>?_
 .refine au ?_;refine bF ?_;refine ab (aJ (bj [(1,([x.a,x.b]).map I,3)] eH (l:=[(2,aC ([x.a,x.b]))]) ⟨iA c3 rfl,trivial⟩) (aU (bk (aO (aq (d:=aC ([x.a,x.b])) rfl ?_)))));exact congrArg aC (by unfold bW;rw[if_neg (by simp[h1]),if_pos h2])
 refine ws ?_;refine af ?_;refine ab (an rfl (fun h3=>?_) fun h3=>?_)
 .have h3:x.op=10:=by simpa using h3
  have vP:=vP (l:=x.args) (by have:=hx (.inl h3);omega);refine ws ?_;refine af ?_;refine cl vP ?_;refine SS ?_;refine ab (aU (bk (aO (aq (d:=aC x.args) rfl ?_))));exact congrArg aC (by unfold bW;rw[if_neg (by simp[h1]),if_neg (by simp[h2]),if_pos h3])
 have h3:¬ x.op=10:=by simpa using h3
 refine ws ?_;refine af ?_;refine ab (an rfl (fun h4=>?_) fun h4=>?_)
 .have h4:x.op=38:=by simpa using h4
  have hl:=hx (.inr h4);have ou:(x.args.map I).take (x.args.length*1)=x.args.map I:=cL oS;refine au ?_;refine aQ ?_;refine ab (aJ (bj [(2,(x.a::x.b::x.args).map I,3)] eH (l:=[(2,aC (x.a::x.b::x.args))]) ⟨?_,trivial⟩) (aU (bk (aO (aq (d:=aC (x.a::x.b::x.args)) rfl ?_)))))
  .show oO _ [(2,_,3)] (.rs 2 0 (2+x.args.length))=_;refine(iA c3 (es:=(x.a::x.b::x.args).map I) (cL oP)).trans ?_;rw[Nat.add_comm];rfl
  .exact congrArg aC (by unfold bW;rw[if_neg (by simp[h1]),if_neg (by simp[h2]),if_neg h3,if_pos h4])
 have h4:¬ x.op=38:=by simpa using h4
 refine jN (au ?_);refine SS ?_;refine ab (aJ (s7 (n0:=2) rfl) (aq (d:=aC []) rfl ?_));exact congrArg aC (by unfold bW;rw[if_neg (by simp[h1]),if_neg (by simp[h2]),if_neg h3,if_neg h4])
theorem EI{x:Argus.End}(hx:x.kind=5->x.ins.op=10\/x.ins.op=38->x.ins.args.length<=1000)(hy:x.kind=6\/x.kind=7->x.args.length<=1000):PCall prog 137 [.agg (aW x)] (aC (bU x)):=by
 have C:∀ a∈[D.agg (aW x)],Tr a:=.cons (.agg (iQ x)) .nil;refine a7 L1 C (cW _) ?_;rw[WA];refine au ?_;refine af ?_;refine ab (aJ (bj [(0,aW x,69)] eH (l:=[(1,.pt (aW x))]) eH) (aB (aj ?_)));refine af ?_;refine ab (kf ?_);refine dA (fun s=>Ghost prog s ⟨ax [(1,.pt (aW x)),(4,U8 x.kind),(5,B (aE [2,8,9] x.kind))],fun _=>none,1⟩) (aj ?_) fun s hg=>⟨_,hg,?_⟩
 .refine af ?_;refine ab (an rfl (fun h=>aV ?_) fun e2=>aj ?_)
  .have h:x.kind=2:=by simpa using h
   refine ao ⟨rfl,rfl,?_,trivial⟩;show D.s (.bool (x.kind==2))=_;rw[h];rfl
  refine af ?_;refine ab (an rfl (fun h=>aV ?_) fun e8=>iW ?_)
  .have h:x.kind=8:=by simpa using h
   refine ao ⟨rfl,rfl,?_,trivial⟩;show D.s (.bool (x.kind==8))=_;rw[h];rfl
  refine af ?_;refine ab ?_;refine ao ⟨rfl,rfl,?_,trivial⟩;show D.s (.bool (x.kind==9))=_;simp[aE,e2,e8]
 refine an rfl (fun h1=>?_) fun h1=>?_
 .refine au ?_;refine aN ?_;refine ab (aJ (bj [(1,([x.a]).map I,3)] eH (l:=[(2,aC ([x.a]))]) ⟨iA c3 rfl,trivial⟩) (aU (bk (aO (aq (d:=aC ([x.a])) rfl ?_)))));exact congrArg aC (by unfold bU;rw[if_pos h1])
 refine ws ?_;refine af ?_;refine ab (an rfl (fun h2=>?_) fun h2=>?_)
 .have h2:x.kind=3:=by simpa using h2
  refine ws ?_;refine ap ?_;refine ab (an rfl (fun h3=>?_) fun h3=>?_)
  .have h3:¬ x.a= -1:=by simpa[bne,ib] using h3
   refine au ?_;refine aN ?_;refine ab (aJ (bj [(1,([x.a]).map I,3)] eH (l:=[(2,aC ([x.a]))]) ⟨iA c3 rfl,trivial⟩) (aU (bk (aO (aq (d:=aC ([x.a])) rfl ?_)))));exact congrArg aC (by unfold bU;rw[if_neg (by simp[h1]),if_pos h2,if_pos h3])
  .have h3:x.a= -1:=by simpa[bne,ib] using h3
   refine jN (au ?_);refine SS ?_;refine ab (aJ (s7 (n0:=2) rfl) (aq (d:=aC []) rfl ?_));exact congrArg aC (by unfold bU;rw[if_neg (by simp[h1]),if_pos h2,if_neg (by simp[h3])])
 have h2:¬ x.kind=3:=by simpa using h2
 refine ws ?_;refine af ?_;refine ab (an rfl (fun h3=>?_) fun h3=>?_)
 .have h3:x.kind=5:=by simpa using h3
  have vE:=vE (x:=x.ins) (hx h3);refine ws ?_;refine af ?_;refine cl vE ?_;refine SS ?_;refine ab (aU (bk (aO (aq (d:=aC (bW x.ins)) rfl ?_))));exact congrArg aC (by unfold bU;rw[if_neg (by simp[h1]),if_neg h2,if_pos h3])
 have h3:¬ x.kind=5:=by simpa using h3
 refine dA (fun s=>Ghost prog s ⟨ax [(1,.pt (aW x)),(4,U8 x.kind),(25,B (aE [6,7] x.kind))],fun _=>none,1⟩) (aj ?_) fun s hg=>⟨_,hg,?_⟩
 .refine af ?_;refine ab (an rfl (fun h=>aV ?_) fun e6=>iW ?_)
  .have h:x.kind=6:=by simpa using h
   refine ao ⟨rfl,rfl,?_,trivial⟩;show D.s (.bool (x.kind==6))=_;rw[h];rfl
  refine af ?_;refine ab ?_;refine ao ⟨rfl,rfl,?_,trivial⟩;show D.s (.bool (x.kind==7))=_;simp[aE,e6]
 refine an rfl (fun h4=>?_) fun h4=>?_
 .have h5:x.kind=6\/x.kind=7:=by simpa[aE] using h4
  have vP:=vP (l:=x.args) (by have:=hy h5;omega);refine ws ?_;refine af ?_;refine cl vP ?_;refine SS ?_;refine ab (aU (bk (aO (aq (d:=aC x.args) rfl ?_))));exact congrArg aC (by unfold bU;rw[if_neg (by simp[h1]),if_neg h2,if_neg h3,if_pos h4])
 refine jN (au ?_);refine SS ?_;refine ab (aJ (s7 (n0:=2) rfl) (aq (d:=aC []) rfl ?_));exact congrArg aC (by unfold bU;rw[if_neg (by simp[h1]),if_neg h2,if_neg h3,if_neg (by simp[h4])])
noncomputable def cx0:Ctx:=⟨fun f=>yj.get f,fun _ _ _=>none,fun _ _=>none⟩
theorem jO:cx0.Ok prog:=⟨mixed,Dz,fun _ _ _ _ h=>oH,fun _ _ _ h=>oH⟩
theorem wN{off:Nat}{vs cs:List D}(hv:vs.length=20)(hl:off+20<=cs.length)(C:vs.all D.one=true):tyOk prog 231=true/\vs.length=prog.cellsOf 231/\off+prog.cellsOf 231<=cs.length/\vs.all D.one=true:=by
 rw[oz];exact⟨t231,hv,hl,C⟩
theorem jb{w:List Int}{m:Nat}(J:w.length=20)(hm:m<1280):PCall prog 200 [fm w,I m] (B (jw w m)):=by
 have C:∀ a∈[fm w,I m],Tr a:=.cons (nv _) (.cons (.s _) .nil);have hi:w[m / 64]? =some w[m / 64]:=aL oG;have hg:w.getD (m / 64) 0=w[m / 64]:=by simp[bD,hi]
 have Mg:=KQ (m:=m) oG;have Mh:=KR m;have kd:=fZ (f:=cm) hi;refine a7 KS C (Tr.s _) ?_;rw[Ux];refine ws ?_;refine af ?_;refine er ?_;refine SS ?_;refine Mi ?_;refine ap ?_;refine Mj ?_;refine aD (T' rfl rfl) ak oG ?_;refine Mk ?_;refine af ?_;refine ab (aq (d:=.s (.bool _)) rfl ?_);unfold jw;rw[hg];rfl
theorem nw{w:List Int}{n:Int}(J:w.length=20)(hn: -1000000<=n/\n<1280):PCall prog 242 [fm w,I n] (fm (fA w n)):=by
 have C:∀ a∈[fm w,I n],Tr a:=.cons (nv _) (.cons (.s _) .nil);refine a7 KT C (nv _) ?_;rw[Uy];refine ws ?_;refine af ?_;refine ab (aB (aj ?_));by_cases h0:0<=n
 .obtain⟨m,rfl⟩:=eC h0;have hm:m<1280:=by omega
  have hi:w[m / 64]? =some w[m / 64]:=aL oG;have hg:w.getD (m / 64) 0=w[m / 64]:=by simp[bD,hi]
  have Mg:=KQ (m:=m) oG;have Mh:=KR m;have kd:=fZ (f:=cm) hi;have AT:decide (0<=(m:Int))=true:=by simp
  refine af ?_;refine ab (np (dz Qa ?_));refine SS ?_;refine Mi ?_;refine ap ?_;refine Mj ?_;refine Yd ?_;refine Ye ?_;refine af ?_;refine bf bg (aj ?_);refine af ?_;refine ab (jL (ke rfl rfl qO oz (jT (by first|rfl|simp;omega)) t231 oP) ?_);simp only[fA,h0,if_true,dg,tF,hg,fm,List.map_set];rfl
 .have AT:decide (0<=n)=false:=by simpa using h0
  refine af ?_;refine ab (oc (cu (aj ?_)));refine af ?_;refine ab (jL (ke rfl rfl qO oz (jT oP) t231 oP) ?_);simp only[fA,h0,if_false]
theorem AV{w v:List Int}(M:w.length=20)(hv:v.length=20):PCall prog 243 [fm w,fm v] (fm (fB w v)):=by
 have X:∀ a∈[fm w,fm v],Tr a:=.cons (nv _) (.cons (nv _) .nil);refine a7 KU X (nv _) ?_;rw[Uz];refine ws ?_;refine ap ?_;refine ab (aB (au ?_));refine SS ?_
 refine ab (bZ (fun s=>Ghost prog s ⟨ax [(2,.rp 0 0),(3,.rp 1 0),(4,.rp 2 0)],bc [(0,.cells ((fB w v).map cm) 231),(1,.cells (v.map cm) 231),(2,.cells (List.replicate 20 (cm 0)) 231)],3⟩) (eN (α:=Nat)
  (fun k=>⟨ax [(2,.rp 0 0),(3,.rp 1 0),(4,.rp 2 0),(6,I k)],bc [(0,.cells ((dW w v k).map cm) 231),(1,.cells (v.map cm) 231),(2,.cells (List.replicate 20 (cm 0)) 231)],3⟩)
  (fun k=>k<=20) (fun k=>20 - k) 0 (aH eH eH) oG ?_) ?_)
 .intro k hk;refine SS ?_;refine ab ⟨_,rfl,fun h=>?_,fun h=>?_⟩
  .have al:k<20:=by have h:(k:Int)<20:=by simpa using h
                    omega
   have qX:(dW w v k).length=20:=by simp[M]
   have hi:(dW w v k)[k]? =some (dW w v k)[k]:=aL oG;have hj:v[k]? =some v[k]:=aL oG;have hg:(dW w v k).getD k 0=(dW w v k)[k]:=by simp[bD,hi]
   have C:v.getD k 0=v[k]:=by simp[bD,hj]
   have kd:=fZ (f:=cm) hi;have U:=fZ (f:=cm) hj;refine ws ?_;refine af ?_;refine ab (kX Qb ?_);refine aR ?_;refine aD (gd rfl rfl U V.h) ak (gf V.h V.h U) ?_;refine Mk ?_;refine af ?_;refine bf bg ?_;refine af ?_;refine ab (aP (k+1) (aH eH ⟨?_,rfl,rfl,trivial⟩) oG oG);rw[up_same];simp only[dW,hg,C,List.map_set];rfl
  .have a9:¬ k<20:=by intro hh;simp at h;omega
   have:k=20:=by omega
   subst this;exact .forget _ _ _ _ fun t=>lO (l:=[(2,.rp 0 0),(3,.rp 1 0),(4,.rp 2 0)]) ⟨rfl,rfl,rfl,trivial⟩ t
 .intro s hg;have J:(fB w v).length=20:=by simp[M]
  generalize fB w v=u at hg J ⊢;refine⟨_,hg,aj ?_⟩;refine af ?_;refine ab (jL (ke rfl rfl qO oz (jT oP) t231 oP) ?_);rfl
def Yf:Int:=18446744073709551615
theorem EB:PCall prog 241 [] (fm (List.replicate 20 Yf)):=by
 exact iP jO 100 rfl kr
theorem yk{w:List Int}{x:bd}(C:w.length=20)(hn:x.op=18->0<=x.n/\x.n<80)(ht:x.op≠18-> -1000000<=cN x/\cN x<1280):PCall prog 245 [fm w,.agg (a8 x)] (fm (fA w (if x.op=18 then ik x.n else cN x))):=by
 have J:∀ a∈[fm w,.agg (a8 x)],Tr a:=.cons (nv _) (.cons (.agg (mZ x)) .nil);refine a7 KV J (nv _) ?_;rw[UA];refine ws ?_;refine ap ?_;refine ab (aB (aj ?_));refine ap ?_;refine ab (cy rfl (fun h=>?_) fun h=>cu (dz Qc ?_))
 .have h:x.op=18:=by simpa using h
  have hx:=hn h;have qP:=qP (n:=x.n) oG;have nw:=nw (w:=w) (n:=ik x.n) C (by unfold ik;omega);refine aB (dz Qd ?_);refine ap ?_;refine cl qP ?_;refine cl nw ?_;refine SS ?_;refine bf bg (di (jL (ke rfl rfl qO oz (jT oP) t231 oP) ?_));simp[h]
 .have h:x.op≠18:=by simpa using h
  have vB:=vB (x:=x);have nw:=nw (w:=w) (n:=cN x) C (ht h);refine SS ?_;refine aD (dQ (vs:=a8 _) rfl rfl V.h V.h rfl) ak (dR V.h V.h (by first|(simp;done)|omega|exact bn rfl)) ?_;refine cl vB ?_;refine cl nw ?_;refine SS ?_;refine bf bg (jL (ke rfl rfl qO oz (jT oP) t231 oP) ?_);simp[h]
end Go.Proofs.Tryz.K
namespace Go.Argus
def fG(x:End):Bool:=decide (0<=x.b7)&&aE [5,6,8] x.kind
def cx(x:End):List Int:=if aE [3,4] x.kind then [] else x.to::((if aE [2,8] x.kind then [x.eD] else [])++(x.az.map (·.to)++(if fG x then [x.b7] else [])))
def mK(x:End):Nat:=if aE [2,8] x.kind then 2 else 1
theorem Ru{x:End}(h:aE [3,4] x.kind=false):(cx x)[0]? =some x.to/\(aE [2,8] x.kind=true->(cx x)[1]? =some x.eD)/\(∀ (j:Nat) w,x.az[j]? =some w->(cx x)[mK x+j]? =some w.to)/\
 (fG x=true->(cx x)[mK x+x.az.length]? =some x.b7)/\(cx x).length=mK x+x.az.length+(if fG x then 1 else 0):=by
 unfold cx mK;generalize fG x=c;rw[if_neg (by simp[h])];cases h2:aE [2,8] x.kind with
 |true=>
  refine⟨rfl,fun _=>rfl,fun j w hj=>?_,fun hc=>?_,?_⟩
  .have:j<x.az.length:=(bA.1 hj).1;simp only[if_true,List.singleton_append];rw[show 2+j=j+1+1 by omega,List.getElem?_cons_succ,List.getElem?_cons_succ,List.getElem?_append_left (by simpa using this)];simp[hj]
  .simp only[if_true,List.singleton_append];rw[show 2+x.az.length=x.az.length+1+1 by omega,List.getElem?_cons_succ,List.getElem?_cons_succ,List.getElem?_append_right oS];rw[if_pos hc];simp
  .cases c<;>simp<;>omega
 |false=>
  refine⟨rfl,fun h=>oH,fun j w hj=>?_,fun hc=>?_,?_⟩
  .have:j<x.az.length:=(bA.1 hj).1;simp only[Bool.false_eq_true,if_false,List.nil_append];rw[show 1+j=j+1 by omega,List.getElem?_cons_succ,List.getElem?_append_left (by simpa using this)];simp[hj]
  .simp only[Bool.false_eq_true,if_false,List.nil_append];rw[show 1+x.az.length=x.az.length+1 by omega,List.getElem?_cons_succ,List.getElem?_append_right oS];rw[if_pos hc];simp
  .cases c<;>simp<;>omega
def u9(x:End)(b:Int):Bool:=aG x.to b&&aG ((cx x).count b:Nat) 1
theorem Dc(x:End):(cx x).length<=x.az.length+3:=by
 unfold cx;split
 .simp
 .simp only[List.length_cons,List.length_append,List.length_map];split<;>split<;>simp<;>omega
end Go.Argus
namespace Go.Abs
theorem fw{P:Program}{Y:YSpec}{rf:Bool}{Q:Exit->St->Prop}{st:St}[dC Y]{ops:Array Oper}{i:Nat}(h:AOps P Y ops false [] (eX (Q .normal)) ops.toList st []):AW P Y rf (.region i ops false) Q st:=pu (rf:=rf) (id:=i) (AOps.ju h fun _ h=>h)
section
variable{P:Program}{env:Env}{m:Mem}{nx:Nat}{x y:Operand}{t p:TypeId}{k:IntKind}{n n':Int}
theorem JL(hx:(opd env x).core=.s (.int .i64 n))(hy:(opd env y).core=.s (.int .i64 n')){r:Int}(hd:n - n'=r/\ -9223372036854775808<=r/\r<=9223372036854775807):Ef P (.binOp .sub t x y p) env m nx ⟨IntKind.i64=IntKind.i64,.s (.int .i64 r),[],[],0⟩:=by
 obtain⟨rfl,h⟩:=hd;exact DT hx hy h
theorem kY{j i l:Nat}{e:TypeId}{r:Row}(hx:(opd env x).core=.rs j 0 l)(hy:(opd env y).core=.s (.int k (i:Int)))(hm:m j=some r)(he:elemP P t=e)(C:P.cellsOf e=1):
 Ef P (.indexAddr t x y) env m nx ⟨slT P t=true/\i<l,.rp j i,[],[j],0⟩:=by
 have h:=Dr (P:=P) (env:=env) (m:=m) (nx:=nx) (t:=t) hx hy hm he C;have h1:0+((i:Int)).toNat*1=i:=by simp
 have h2:(slT P t=true/\(0:Int)<=(i:Int)/\(i:Int)<l)=(slT P t=true/\i<l):=by
  apply propext;constructor
  .rintro⟨a,_,b⟩;exact⟨a,oG⟩
  .rintro⟨a,b⟩;exact⟨a,oG,oG⟩
 rw[h1,h2] at h;exact h
theorem lj{α:Type}(f:Nat->α)(i:Nat)(a b:α):up (up f i a) i b=up f i b:=by
 funext j;simp only[up];split<;>rfl
variable{Y:YSpec}{rf:Bool}{Q:Exit->St->Prop}{st:St}{id fQ i1 i3:Nat}{rc ri:Array Oper}{body:Code}{α:Type}{cf:List (Nat×Nat)}{u:Nat}
theorem Tx[dC Y](hi:drawInfo rc=some cf)(S:α->St)(J:α->Prop)(μ:α->Nat)(C:α)(hg:Ghost P st (S C))(M:J C)
 (h:∀ x,J x->AOps P Y rc true cf (eX fun s=>∃ g,opd s.env (.tmp u)=.s (.bool g)/\(g=true->AW P Y rf body (kB fQ id (fun s=>AOps P Y ri false [] (eX (vm P S J μ x)) ri.toList s []) Q) s)/\(g=false->Q .normal s)) rc.toList (S x) []):
 ∃ st',Ghost P st st'/\AW P Y rf (.block id (.loop (.seq (.seq (.region i1 rc true) (.cond (.tmp u) .skip (.exit id))) (.seq (.block fQ body) (.region i3 ri false))))) Q st':=by
 refine z8 (Q:=blockQ id Q) S J μ C hg M (fun x hx=>?_) (a:=.skip) fun _ h=>h;refine aB (xI (rf:=rf) (id:=i1) hi (AOps.ju (h x hx) fun s U=>?_));obtain⟨g,h1,h2,h3⟩:=U;refine⟨s,.refl s,cy h1 (fun X=>?_) fun uk=>?_⟩
 .exact cu (C0 (h2 X))
 .refine nO ?_;simp only[seqQ,blockQ,if_true];exact h3 uk
theorem ki{l:List (Nat×D)}{m':Mem}(h:jM l env)(hm:m=m'):Ghost P ⟨env,m,nx⟩ ⟨ax l,m',nx⟩:=hm▸ao h
end
end Go.Abs
namespace Go.Proofs.Tryz.K
set_option maxRecDepth 10000
theorem qQ{x:Argus.End}:PCall prog 156 [.agg (aW x)] (.fn (.func 202) [] [.pt (aW x)]):=by
 have C:∀ a∈[D.agg (aW x)],Tr a:=.cons (.agg (iQ x)) .nil;refine a7 KY C (.fn oS (.cons (.pt (iQ x)) .nil)) ?_;rw[UC];refine au ?_;refine SS ?_;refine aD (kn (v:=.s .nilFunc) rfl) ak trivial ?_;refine ab (aJ (bj [(0,aW x,69)] eH (l:=[(1,.pt (aW x))]) eH) (aj ?_));refine SS ?_;refine Yp ?_;exact ab (aq rfl rfl)
def FD(l:Nat)(x:Argus.End)(C:Nat->Mem->Nat->Prop)(n:Nat)(s:St):Prop:=∃ m nx,Ghost prog s ⟨ax [(0,.fn (.yield l) [] []),(1,.pt (aW x))],m,nx⟩/\C n m nx
theorem Mm{x:Argus.End}(hlen:x.az.length<=100000):SeqA prog 202 [] [.pt (aW x)] ((cx x).map fun n=>[I n]):=by
 refine Du mixed KZ kr fun l U Stop m nx hI At h0=>?_;rw[UD];by_cases C:aE [3,4] x.kind=true
 .have hD:((cx x).map fun n=>[I n]).length=0:=by simp[cx,C]
  rw[hD];by_cases h3:x.kind=3
  .have fE:(x.kind==3)=true:=by simpa using h3
   refine aB (aj ?_);refine aN ?_;(iterate 3 refine z fun _ _=>?_);refine af ?_;(iterate 5 refine z fun _ _=>?_);refine SS ?_;refine ab (cy rfl (fun h=>JE (aU (aO (qA (.inl h0))))) fun h=>oH)
  .have h4:x.kind=4:=by simpa[aE,h3] using C
   have fE:(x.kind==3)=false:=by simpa using h3
   have AB:(x.kind==4)=true:=by simpa using h4
   refine aB (aj ?_);refine aQ ?_;(iterate 5 refine z fun _ _=>?_);refine SS ?_;refine ab (cy rfl (fun h=>JE (aU (aO (qA (.inl h0))))) fun h=>oH)
 have C:aE [3,4] x.kind=false:=by simpa using C
 obtain⟨x0,x1,xw,xo,xl⟩:=Ru C;have M:∀ {k:Nat} {n:Int},(cx x)[k]? =some n->((cx x).map fun n=>[I n])[k]? =some [I n]:=fun h=>by simp[h]
 have od:((cx x).map fun n=>[I n]).length=mK x+x.az.length+(if fG x then 1 else 0):=by simpa using xl
 have nL:x.kind≠3/\x.kind≠4:=by simpa[aE] using C
 refine dA (FD l x U 1) ?_ fun s J=>?_
 .have fE:(x.kind==3)=false:=by simpa using nL.1
  have AB:(x.kind==4)=false:=by simpa using nL.2
  refine ws ?_;refine aQ ?_;refine ap ?_;refine Az rfl rfl rfl rfl cY ⟨rfl,0,M x0,h0,fun d m' nx' hp=>?_⟩;rcases hp with⟨rfl,hp⟩|⟨rfl,hp⟩
  .refine af ?_;exact ab (an rfl (fun h=>oH) fun h=>aV ⟨m',nx',ao eH,hp⟩)
  .refine af ?_;exact ab (an rfl (fun h=>aU (aO (qA (.inr hp)))) fun h=>oH)
 obtain⟨m1,q9,hg,h1⟩:=J;refine⟨_,hg,?_⟩;clear hg h0;refine dA (FD l x U (mK x)) ?_ fun s J=>?_
 .have yes:aE [2,8] x.kind=true->(cx x)[1]? =some x.eD/\mK x=2:=fun h=>⟨x1 h,by simp[mK,h]⟩
  by_cases h2:x.kind=2
  .obtain⟨y1,y2⟩:=yes (by rw[h2];rfl);have fE:(x.kind==2)=true:=by simpa using h2
   refine ws ?_;refine aN ?_;(iterate 3 refine z fun _ _=>?_);refine aR ?_;refine Az rfl rfl rfl rfl cY ⟨rfl,1,M y1,h1,fun d m' nx' hp=>?_⟩;rcases hp with⟨rfl,hp⟩|⟨rfl,hp⟩
   .refine af ?_;exact ab (an rfl (fun h=>oH) fun h=>aV ⟨m',nx',ao eH,y2▸hp⟩)
   .refine af ?_;exact ab (an rfl (fun h=>aU (aO (qA (.inr hp)))) fun h=>oH)
  .have fE:(x.kind==2)=false:=by simpa using h2
   by_cases X:x.kind=8
   .obtain⟨y1,y2⟩:=yes (by rw[X];rfl);have AB:(x.kind==8)=true:=by simpa using X
    refine ws ?_;refine aQ ?_;refine ap ?_;refine Az rfl rfl rfl rfl cY ⟨rfl,1,M y1,h1,fun d m' nx' hp=>?_⟩;rcases hp with⟨rfl,hp⟩|⟨rfl,hp⟩
    .refine af ?_;exact ab (an rfl (fun h=>oH) fun h=>aV ⟨m',nx',ao eH,y2▸hp⟩)
    .refine af ?_;exact ab (an rfl (fun h=>aU (aO (qA (.inr hp)))) fun h=>oH)
   .have AB:(x.kind==8)=false:=by simpa using X
    have hb:mK x=1:=by simp[mK,aE,h2,X]
    refine ws ?_;refine aQ ?_;(iterate 5 refine z fun _ _=>?_);refine SS ?_;exact ab (an rfl (fun h=>oH) fun h=>aV ⟨m1,q9,ao eH,hb▸h1⟩)
 obtain⟨m2,dt,hg,h2⟩:=J;refine⟨_,hg,?_⟩;clear hg;refine dA (FD l x U (mK x+x.az.length)) (au ?_) fun s J=>?_
 .refine aN ?_
  refine ab (eN (α:=Nat×Mem×Nat) (fun k=>⟨ax [(0,.fn (.yield l) [] []),(1,.pt (aW x)),(36,lN x.az),(37,I x.az.length),(38,I k.1)],k.2.1,k.2.2⟩)
   (fun k=>k.1<=x.az.length/\U (mK x+k.1) k.2.1 k.2.2) (fun k=>x.az.length - k.1) (0,m2,dt) (ao eH) ⟨oG,h2⟩ ?_)
  rintro⟨k,m3,uv⟩ ⟨hk,mw⟩;refine SS ?_;refine ab ⟨_,rfl,fun h=>?_,fun h=>?_⟩
  .have al:k<x.az.length:=by simpa using h
   have hx:x.az[k]? =some x.az[k]:=by simp[al]
   generalize x.az[k]=w at hx;refine ws ?_;refine aN ?_;refine er ?_;refine af ?_;refine Mn ?_;refine Ew rfl rfl cY ⟨rfl,mK x+k,M (xw k w hx),hI _ _ _ _ _ mw oG (fun i hi=>aw oG (aw oG rfl)),fun d m' nx' hp=>?_⟩;rcases hp with⟨rfl,hp⟩|⟨rfl,hp⟩
   .refine SS ?_;refine ab (an rfl (fun h=>oH) fun h=>cD ?_);refine af ?_;exact ab (aP (k+1,m',nx') (ao eH) ⟨by simp only;omega,hp⟩ (by simp only;omega))
   .refine SS ?_;exact ab (an rfl (fun h=>aU (cq (aO (qA (.inr hp))))) fun h=>oH)
  .have a9:¬ k<x.az.length:=by simpa using h
   have:k=x.az.length:=by simp only at hk;omega
   subst this;exact⟨m3,uv,.forget _ _ _ _ fun t=>lO (l:=[(0,.fn (.yield l) [] []),(1,.pt (aW x))]) ⟨rfl,rfl,trivial⟩ t,mw⟩
 obtain⟨m3,uv,hg,h3⟩:=J;refine⟨_,hg,aj ?_⟩;refine aQ ?_;refine aQ ?_;refine ab (an rfl (fun h=>?_) fun h=>?_)
 .have hc:fG x=true:=by
   revert h;unfold fG aE;simp[ib,or_assoc]
  refine fw ?_;refine ap ?_;refine Ew rfl rfl cY ⟨rfl,_,M (xo hc),h3,fun d m' nx' hp=>?_⟩;refine ab (pG ?_);rcases hp with⟨rfl,hp⟩|⟨rfl,hp⟩
  .left;rw[od,if_pos hc];exact hp
  .exact .inr hp
 .have hc:fG x=false:=by
   revert h;unfold fG aE;simp[ib,and_assoc]
  refine cD (pG (.inl ?_));rw[od,hc];exact h3
theorem EC{x:Argus.End}{b:Int}(hlen:x.az.length<=1000):PCall prog 246 [.agg (aW x),I b] (B (u9 x b)):=by
 have J:∀ a∈[D.agg (aW x),I b],Tr a:=.cons (.agg (iQ x)) (.cons (.s _) .nil);have qQ:=qQ (x:=x);have hl:=Dc x;refine a7 K0 J (Tr.s _) ?_;rw[UE];refine au ?_;refine ap ?_;refine ab (aJ (bj [(0,aW x,69),(1,[I b],3)] eH (l:=[(2,.pt (aW x)),(3,.pt [I b])]) eH) (aj ?_));refine SS ?_;refine Mo ?_;refine ab ?_;refine dA (fun s=>∃ n',Ghost prog s ⟨ax [(2,.pt (aW x)),(3,.pt [I b]),(5,.rp 2 0)],bc [(2,.cells [I ((cx x).count b:Nat)] 3)],n'⟩) (aj ?_) fun s U=>?_
 .refine SS ?_;refine cl qQ ?_;refine ab (nT ?_);refine⟨rfl,trivial,202,[],[.pt (aW x)],(cx x).map (fun n=>[I n]),fun k m nx=>m 2=some (.cells [I (((cx x).take k).count b:Nat)] 3)/\3<=nx,rfl,Mm oG,?_,⟨rfl,oS⟩,?_,?_⟩
  .intro y hy;obtain⟨n,_,rfl⟩:=List.mem_map.1 hy;exact⟨rfl,.cons (.s _) .nil⟩
  .rintro k m nx y hy ⟨av,M⟩;simp only[List.getElem?_map,cK] at hy;obtain⟨n,hn,rfl⟩:=hy;have hk:k<(cx x).length:=(bA.1 hn).1
   have hc:((cx x).take (k+1)).count b=((cx x).take k).count b+(if n=b then 1 else 0):=by
    rw[List.take_add_one,hn,List.count_append];by_cases e:n=b
    .subst e;simp
    .simp[e]
   have C:((cx x).take k).count b<=k:=Nat.le_trans List.count_le_length oP;generalize ((cx x).take k).count b=c at av hc C;refine fw ?_;refine SS ?_;refine ab (show AW _ _ _ _ _ _ from nT (aj ?_));refine ap ?_;refine ab (an rfl (fun h=>?_) fun h=>?_)
   .have h:n=b:=by simpa using h
    refine fw ?_;refine af ?_;refine cE (gl (d:=.s (.int _ _)) (cs':=[_]) rfl rfl av rfl rfl) ak (dx V.h V.h (by first|(simp;done)|exact⟨rfl,bn rfl⟩|(simp;omega)) rfl) ?_;refine ab ?_;refine⟨?_,oM⟩;dsimp only;refine(up_same _ _ _).trans ?_;rw[hc,if_pos h];simp
   .have h:¬ n=b:=by simpa using h
    exact cD ⟨by rw[hc,if_neg h];exact av,M⟩
  .rintro m nx ⟨h1,h2⟩;refine⟨nx,aH eH ⟨?_,trivial⟩⟩;rw[h1,List.length_map,List.take_length]
 obtain⟨n',hg⟩:=U;refine⟨_,hg,aj ?_⟩;refine aQ ?_;refine ab (aq (d:=.s (.bool _)) rfl ?_);simp[u9,aG,ib]
theorem ED{f:FuncId}{cs:List D}{xs:List Int}(M:SeqA prog f [] cs (xs.map fun n=>[I n]))(ht:Tr (.fn (.func f) [] cs))(hlen:xs.length<=100000):OCall prog 258 [.z,.fn (.func f) [] cs] (xs.map I) xs.length 3:=by
 have aT:∀ a∈[D.z,.fn (.func f) [] cs],Tr a:=.cons .z (.cons ht .nil);refine uy K2 aT (.map fun _=>.s _) ?_;rw[UF];refine ws ?_;refine fW (Ah (d:=.z) rfl rfl) ak rfl ?_;refine SS ?_;refine ab ?_;refine dA (fun s=>(xs=[]/\∃ n',Ghost prog s ⟨ax [(2,.rp 0 0)],bc [(0,.cells [.z] 27)],n'⟩)\/∃ r n',0<r/\Ghost prog s ⟨ax [(2,.rp 0 0)],bc [(0,.cells [.rs r 0 xs.length] 27),(r,.cells (xs.map I) 3)],n'⟩) (aj ?_) fun s M=>?_
 .refine SS ?_;refine ab (nT ?_);refine⟨rfl,trivial,f,[],cs,xs.map (fun n=>[I n]),fun k m nx=>1<=nx/\((k=0/\m 0=some (.cells [.z] 27))\/(0<k/\∃ r,0<r/\r<nx/\m 0=some (.cells [.rs r 0 k] 27)/\m r=some (.cells ((xs.take k).map I) 3))),rfl,M,?_,⟨oS,.inl ⟨rfl,rfl⟩⟩,?_,?_⟩
  .intro y hy;obtain⟨n,_,rfl⟩:=List.mem_map.1 hy;exact⟨rfl,.cons (.s _) .nil⟩
  .rintro k m nx y hy ⟨gE,C⟩;simp only[List.getElem?_map,cK] at hy;obtain⟨n,hn,rfl⟩:=hy;have hk:k<xs.length:=(bA.1 hn).1
   have U:(xs.take (k+1)).map I=(xs.take k).map I++[I n]:=by
    rw[List.take_add_one,hn];simp
   refine fw ?_;refine SS ?_;refine ab (show AW _ _ _ _ _ _ from nT (fw ?_));rcases C with⟨rfl,av⟩|⟨vZ,r,X,J,av,eO⟩
   .refine aN ?_;refine Mp ?_;refine ab ?_;refine⟨oM,.inr ⟨oG,nx+1,oG,oM,?_,?_⟩⟩
    .dsimp only;exact(up_same _ _ _).trans rfl
    .dsimp only;exact(aw oG (up_same _ _ _)).trans (by rw[U];rfl)
   .have qg:((xs.take k).map I).length=k:=by simp;omega
    refine aN ?_;refine Mq ?_;refine ab ?_;refine⟨oM,.inr ⟨oG,nx+1,oG,oM,?_,?_⟩⟩
    .dsimp only;exact(up_same _ _ _).trans rfl
    .dsimp only;exact(aw oG (up_same _ _ _)).trans (by rw[U];rfl)
  .rintro m nx ⟨gE,C⟩;rw[List.length_map] at C;rcases C with⟨h0,av⟩|⟨vZ,r,X,J,av,eO⟩
   .exact .inl ⟨List.length_eq_zero_iff.1 h0,nx,aH eH ⟨av,trivial⟩⟩
   .refine .inr ⟨r,nx,X,aH eH ⟨av,?_,trivial⟩⟩;rw[eO,List.take_length]
 rcases M with⟨rfl,n',hg⟩|⟨r,n',hr,hg⟩
 .refine⟨_,hg,au ?_⟩;refine af ?_;refine ab ⟨_,.nilrow _ _ _ 4 3 rfl,aq rfl ⟨n',?_,up_same _ _ _⟩⟩;rfl
 .refine⟨_,hg,aj ?_⟩;refine af ?_;refine ab (aq rfl ⟨r,rfl,?_⟩);simp[bc];omega
theorem EE{f:FuncId}{cs:List D}{xs:List Int}(J:SeqA prog f [] cs (xs.map fun n=>[I n]))(ht:Tr (.fn (.func f) [] cs))(hlen:xs.length<=100000):OCall prog 247 [.fn (.func f) [] cs] (xs.map I) xs.length 3:=by
 have C:∀ a∈[.fn (.func f) [] cs],Tr a:=.cons ht .nil;refine uy K3 C (.map fun _=>.s _) ?_;rw[UG];have ED:=ED J ht hlen;refine ws ?_;refine SS ?_;refine er ?_;refine SS ?_;refine xV ED rfl cY ?_;refine SS ?_;exact ab (aq rfl ⟨0,rfl,rfl⟩)
end Go.Proofs.Tryz.K
namespace Go.Argus
def swapAt(l:List Int)(j:Nat):List Int:=(l.set (j+1) (l.getD j 0)).set j (l.getD (j+1) 0)
def lu(l:List Int):Nat->List Int
 |0=>l
 |j+1=>if l.getD (j+1) 0<l.getD j 0 then lu (swapAt l j) j else l
def jU(l:List Int):Nat->List Int
 |0=>l
 |k+1=>lu (jU l k) (k+1)
def eA(l:List Int):List Int:=jU l (l.length - 1)
@[simp] theorem abK (l : List Int) (j : Nat) : (swapAt l j).length = l.length := by simp [swapAt]
@[simp] theorem Rv : ∀ (j : Nat) (l : List Int), (lu l j).length = l.length
 |0,l=>rfl
 |j+1,l=>by simp only[lu];split<;>simp[Rv j]
@[simp] theorem GX (l : List Int) : ∀ k, (jU l k).length = l.length
 |0=>rfl
 |k+1=>by simp[jU,GX l k]
@[simp] theorem Ci (l : List Int) : (eA l).length = l.length := GX l _
def eh(d:List Int):Nat->List Int
 |0=>[]
 |t+1=>eh d t++(if t≠0/\d.getD t 0=d.getD (t - 1) 0 then [] else [d.getD t 0])
def iq(d:List Int):List Int:=eh d d.length
theorem Im{d:List Int}{x:Int}:∀ {t:Nat},t<=d.length->(x∈eh d t↔x∈d.take t)
 |0,_=>by simp[eh]
 |t+1,ht=>by
  have ih:=Im (d:=d) (x:=x) (t:=t) oG;have hg:d.getD t 0=d[t]:=by simp[bD,aL (show t<d.length by omega)]
  rw[eh,List.mem_append,ih,List.take_succ_eq_append_getElem oG,List.mem_append];split
  .rename_i h;have h1:d[t - 1]? =some d[t - 1]:=aL oG
   have C:d[t]∈d.take t:=by
    rw[<- hg,h.2];have:d.getD (t - 1) 0=d[t - 1]:=by simp[bD,h1]
    rw[this];exact cg (i:=t - 1) (by rw[List.getElem?_take,if_pos oG,h1])
   constructor
   .rintro(h|h)
    .exact .inl h
    .simp at h
   .rintro(h|h)
    .exact .inl h
    .simp at h;subst h;exact .inl C
  .rw[hg]
theorem Dd{d:List Int}:∀ t,(eh d t).length<=t
 |0=>by simp[eh]
 |t+1=>by
  have:=Dd (d:=d) t;rw[eh,List.length_append];split<;>simp<;>omega
theorem JN{d:List Int}{t:Nat}(ht:t<d.length)(h0:t≠0)(h:d.getD t 0=d.getD (t - 1) 0):eh d (t+1)=eh d t:=by
 rw[eh,if_pos ⟨h0,h⟩,List.append_nil]
theorem JO{d:List Int}{t:Nat}(h:d.getD t 0≠d.getD (t - 1) 0):eh d (t+1)=eh d t++[d.getD t 0]:=by
 rw[eh,if_neg fun C=>h C.2]
end Go.Argus
namespace Go.Proofs.Tryz.K
set_option maxRecDepth 10000
theorem Yq{a:Int}:PCall prog 227 [I a] (B false):=by
 refine a7 K4 (by simp[Tr.s]) (Tr.s _) ?_;rw[UH];refine ws ?_;refine SS ?_;refine er ?_;refine aN ?_;refine ab (aq (d:=.s (.bool _)) rfl ?_);simp[bne]
theorem Yr{a b:Int}:PCall prog 184 [I a,I b] (B (decide (a<b))):=by
 refine a7 K5 (by simp[Tr.s]) (Tr.s _) ?_;rw[UI];refine ws ?_;refine SS ?_;refine er ?_;refine SS ?_;refine cl Yq ?_;refine SS ?_;(iterate 3 refine z fun _ _=>?_);refine dF ?_;exact ab (aq (d:=.s (.bool _)) rfl rfl)
theorem Ys{m:Mem}{nx i n:Nat}{l:List Int}(hi:i<nx)(hm:m i=some (.cells (l.map I) 3))(hl:l.length=n)(hn:n<=12):
 ACalls prog 178 [.rs i 0 n,I 0,I n] m nx (fun r m' nx'=>r=.tup []/\nx'=nx/\m'=up m i (some (.cells ((eA l).map I) 3))):=by
 refine sO K6 ?_;rw[UJ]
 have we:up m i (some (.cells (l.map I) 3))=m:=by
  funext j;simp only[up];split
  .rename_i e;rw[e,hm]
  .rfl
 refine au ?_;refine ap ?_;refine ab (cP (α:=Nat) (fun k=>⟨ax [(0,.rs i 0 n),(1,I 0),(2,I n),(6,I (k+1:Nat))],up m i (some (.cells ((jU l k).map I) 3)),nx⟩) (fun k=>k<=n - 1) (fun k=>n - k) 0 (ki eH we.symm) oG ?_);intro k hk;refine ap ?_;refine ab ⟨_,rfl,fun h=>?_,fun h=>?_⟩
 .have al:k+1<n:=by have:((k+1:Nat):Int)<n:=by simpa using h
                    omega
  refine au ?_;refine af ?_;refine ab (Tx Qj (α:=List Int×Nat) (fun s=>⟨ax [(0,.rs i 0 n),(1,I 0),(2,I n),(6,I (k+1:Nat)),(7,I s.2)],up m i (some (.cells (s.1.map I) 3)),nx⟩) (fun s=>s.1.length=n/\s.2<=k+1/\lu s.1 s.2=jU l (k+1)) (fun s=>s.2) (jU l k,k+1) (ao eH) ⟨by simp[hl],oS,rfl⟩ ?_);rintro⟨d,j⟩ ⟨hd,hj,C⟩;simp only at hd hj C;cases j with
  |zero=>
   have qM:decide ((0:Int)<((0:Nat):Int))=false:=rfl;refine af ?_;refine Mr ?_;refine SS ?_;(iterate 10 refine z fun _ _=>?_);refine SS ?_;refine bf bg ⟨_,rfl,fun h=>oH,fun h=>?_⟩;have C:d=jU l (k+1):=C;subst C;show AOps _ _ _ _ _ _ _ _ _;refine ap ?_;exact ab (aP (k+1) (ao eH) oG oG)
  |succ j=>
   have ha:d[j+1]? =some d[j+1]:=aL oG;have hb:d[j]? =some d[j]:=aL oG;have M:d.getD (j+1) 0=d[j+1]:=by simp[bD,ha]
   have U:d.getD j 0=d[j]:=by simp[bD,hb]
   have kd:=fZ (f:=I) ha;have J:=fZ (f:=I) hb;generalize X:d[j+1]=a at ha M kd;generalize hB:d[j]=b at hb U J;clear X hB;have qM:decide ((0:Int)<((j+1:Nat):Int))=true:=by simp
   have ow:((j+1:Nat):Int) - 1=(j:Int)/\ -9223372036854775808<=(j:Int)/\(j:Int)<=9223372036854775807:=by omega
   refine af ?_;refine Mr ?_;refine ap ?_;refine bl rfl rfl (kY rfl rfl (up_same _ _ _) V.h V.h) (fun hc=>⟨ak,⟨V.h,oG⟩⟩) ?_;refine bl rfl rfl (gd rfl (up_same _ _ _) kd V.h) (fun hc=>⟨ak,(gf V.h V.h kd)⟩) ?_;refine ap ?_;refine bl rfl rfl (kY rfl rfl (up_same _ _ _) V.h V.h) (fun hc=>⟨ak,⟨V.h,oG⟩⟩) ?_;refine bl rfl rfl (gd rfl (up_same _ _ _) J V.h) (fun hc=>⟨ak,(gf V.h V.h J)⟩) ?_;refine gc Yr ?_;refine SS ?_;refine bf bg ⟨_,rfl,fun h=>?_,fun h=>?_⟩
   .have h:a<b:=by simpa using h
    refine kX Qk ?_;refine aQ ?_;refine aD (gd rfl (up_same _ _ _) J V.h) ak (gf V.h V.h J) ?_;refine bH ?_;refine bf bg ?_;refine ap ?_;refine ab (aP (swapAt d j,j) (ki eH ?_) ⟨by simp[hd],by simp only;omega,?_⟩ (by simp only;omega))
    .rw[lj,lj];simp only[swapAt,M,U,List.map_set]
    .rw[<- C];simp only[lu,M,U,if_pos h]
   .have h:¬ a<b:=by simpa using h
    have C:d=jU l (k+1):=by rw[<- C];simp only[lu,M,U,if_neg h]
    subst C;show AOps _ _ _ _ _ _ _ _ _;refine ap ?_;exact ab (aP (k+1) (ao eH) oG oG)
 .have a9:¬ k+1<n:=by have h:¬ ((k+1:Nat):Int)<n:=by simpa using h
                      omega
  refine pG ⟨rfl,rfl,?_⟩;have:k=n - 1:=by omega
  subst this;simp only[eA,hl]
theorem Yt{m:Mem}{nx i n:Nat}{l:List Int}{qh:Int}(hi:i<nx)(hm:m i=some (.cells (l.map I) 3))(hl:l.length=n)(hn:n<=12):
 ACalls prog 151 [.rs i 0 n,I 0,I n,I qh] m nx (fun r m' nx'=>r=.tup []/\nx'=nx/\m'=up m i (some (.cells ((eA l).map I) 3))):=by
 refine sO K7 ?_;rw[UK];refine ws ?_;refine SS ?_;refine ab (au ?_);refine SS ?_;refine ab ⟨_,ao (l:=[(0,.rs i 0 n),(1,I 0),(2,I n)]) eH,nT (Ij (fun s=>s=⟨ax [(0,.rs i 0 n),(1,I 0),(2,I n)],m,nx⟩) (fun _=>0) rfl fun s C=>?_)⟩;subst C;refine nT (aj ?_);refine aN ?_;refine ab (aB (aj ?_));refine SS ?_;refine Ms ?_;refine ab (cy rfl (fun h=>?_) fun h=>?_)
 .refine aB (aj ?_);refine ap ?_;refine lh (Ys hi hm hl hn) rfl cY fun r m' nx' hp=>?_;obtain⟨rfl,rfl,rfl⟩:=hp;exact ab (di (bk (aO (bk (qA ⟨rfl,rfl,rfl⟩)))))
 .have:¬ ((n:Int) - 0<=12):=by simpa using h
  omega
theorem EF{n:Nat}(hn:n<=12):∃ r,PCall prog 152 [.s (.int .u64 (IntKind.u64.wrap (n:Int)))] (I r):=by
 match n,hn with
 |0,_=>exact⟨0,iP jO 100 rfl kr⟩
 |1,_=>exact⟨1,iP jO 100 rfl kr⟩
 |2,_=>exact⟨2,iP jO 100 rfl kr⟩
 |3,_=>exact⟨2,iP jO 100 rfl kr⟩
 |4,_=>exact⟨3,iP jO 100 rfl kr⟩
 |5,_=>exact⟨3,iP jO 100 rfl kr⟩
 |6,_=>exact⟨3,iP jO 100 rfl kr⟩
 |7,_=>exact⟨3,iP jO 100 rfl kr⟩
 |8,_=>exact⟨4,iP jO 100 rfl kr⟩
 |9,_=>exact⟨4,iP jO 100 rfl kr⟩
 |10,_=>exact⟨4,iP jO 100 rfl kr⟩
 |11,_=>exact⟨4,iP jO 100 rfl kr⟩
 |12,_=>exact⟨4,iP jO 100 rfl kr⟩
theorem ry{m:Mem}{nx i n:Nat}{l:List Int}(hi:i<nx)(hm:m i=some (.cells (l.map I) 3))(hl:l.length=n)(hn:n<=12):
 ACalls prog 89 [.rs i 0 n] m nx (fun r m' nx'=>r=.tup []/\nx'=nx/\m'=up m i (some (.cells ((eA l).map I) 3))):=by
 refine sO Mt ?_;rw[Yu];obtain⟨qh,EF⟩:=EF hn;have av:=hm;refine ws ?_;refine ap ?_;refine ab (fw ?_);refine ap ?_;refine aD (Tl rfl V.h) ak V.h ?_;refine cl EF ?_;refine lh (Yt hi hm hl hn) rfl cY fun r m' nx' hp=>?_;obtain⟨rfl,rfl,rfl⟩:=hp;exact ab (pG ⟨rfl,rfl,rfl⟩)
end Go.Proofs.Tryz.K
namespace Go.Abs
section
variable{P:Program}{env:Env}{m:Mem}{nx:Nat}{x y:Operand}{t p:TypeId}{k:IntKind}{n n':Int}
theorem SB{j i l off:Nat}{e:TypeId}{r:Row}(hx:(opd env x).core=.rs j off l)(hy:(opd env y).core=.s (.int k (i:Int)))(hm:m j=some r)(he:elemP P t=e)(C:P.cellsOf e=1):
 Ef P (.indexAddr t x y) env m nx ⟨slT P t=true/\i<l,.rp j (off+i),[],[j],0⟩:=by
 have h:=Dr (P:=P) (env:=env) (m:=m) (nx:=nx) (t:=t) hx hy hm he C;have h1:off+((i:Int)).toNat*1=off+i:=by simp
 have h2:(slT P t=true/\(0:Int)<=(i:Int)/\(i:Int)<l)=(slT P t=true/\i<l):=by
  apply propext;constructor
  .rintro⟨a,_,b⟩;exact⟨a,oG⟩
  .rintro⟨a,b⟩;exact⟨a,oG,oG⟩
 rw[h1,h2] at h;exact h
theorem GY{i l a:Nat}{cs:List D}{e:TypeId}(hx:(opd env x).core=.rs i 0 l)(hm:m i=some (.cells cs e))(he:elemP P t=e)(C:P.cellsOf e=1)(ha:(opd env y).core=.s (.int .i64 (a:Int))):
 Ef P (.slice t x (some y) none none) env m nx ⟨slT P t=true/\a<=l,.rs i a (l - a),[],[i],0⟩:=by
 have h:=HA (P:=P) (env:=env) (m:=m) (nx:=nx) (t:=t) (lo:=some y) (hi:=none) (a:=(a:Int)) (b:=(l:Int)) hx hm he C (by simp[bndD,ha,D.int?]) (by simp[bndD]);have h1:0+((a:Int)).toNat*1=a:=by simp
 have h3:((l:Int) - (a:Int)).toNat=l - a:=by omega
 have h2:((slT P t=true/\1=1)/\(0:Int)<=(a:Int)/\(a:Int)<=(l:Int)/\(l:Int)<=(l:Int))=(slT P t=true/\a<=l):=by
  apply propext;constructor
  .rintro⟨⟨a,_⟩,_,b,_⟩;exact⟨a,oG⟩
  .rintro⟨a,b⟩;exact⟨⟨a,rfl⟩,oG,oG,oG⟩
 rw[h1,h2,h3] at h;exact h
theorem Ql{i l b:Nat}{cs:List D}{e:TypeId}(hx:(opd env x).core=.rs i 0 l)(hm:m i=some (.cells cs e))(he:elemP P t=e)(C:P.cellsOf e=1)(hb:(opd env y).core=.s (.int .i64 (b:Int))):
 Ef P (.slice t x none (some y) none) env m nx ⟨slT P t=true/\b<=l,.rs i 0 b,[],[i],0⟩:=by
 have h:=HA (P:=P) (env:=env) (m:=m) (nx:=nx) (t:=t) (lo:=none) (hi:=some y) (a:=0) (b:=(b:Int)) hx hm he C (by simp[bndD]) (by simp[bndD,hb,D.int?]);have h1:0+((0:Int)).toNat*1=0:=by simp
 have h3:((b:Int) - 0).toNat=b:=by omega
 have h2:((slT P t=true/\1=1)/\(0:Int)<=0/\(0:Int)<=(b:Int)/\(b:Int)<=(l:Int))=(slT P t=true/\b<=l):=by
  apply propext;constructor
  .rintro⟨⟨a,_⟩,_,_,b⟩;exact⟨a,oG⟩
  .rintro⟨a,b⟩;exact⟨⟨a,rfl⟩,oG,oG,oG⟩
 rw[h1,h2,h3] at h;exact h
theorem SC{i off l:Nat}{cs z:List D}{e:TypeId}(hx:(opd env x).core=.rs i off l)(hm:m i=some (.cells cs e))(he:elemP P t=e)(C:zeroP P e=z):
 Ef P (.call { callee:=.builtin .clear,args:= #[x],argTypes:= #[t] }) env m nx ⟨slT P t=true/\off+l*P.cellsOf e<=cs.length/\e=e,.tup [],[(i,some (.cells (splice cs off (replD l z)) e))],[i],0⟩:=by
 refine r6 («aS»:=[.rs i off l]) rfl (by simp[hx]) ?_;simp only[builtinD,hm,C,Array.getD_eq_getD_getElem?,List.getElem?_toArray,List.getElem?_cons_zero,Option.getD_some,he]
theorem Pe{cs:List D}{n k:Nat}{x:D}(hn:cs.length=n)(hk:k<=n):splice cs k (replD (n - k) [x])=cs.take k++List.replicate (n - k) x:=by
 have hr:replD (n - k) [x]=List.replicate (n - k) x:=by
  unfold replD;generalize n - k=j
  induction j with
  |zero=>rfl
  |succ j ih=>simp[List.replicate_succ,ih]
 rw[hr];unfold splice;split
 .rename_i y e;have h1:n - k=1:=by have:=congrArg List.length e;simpa using this
  rw[h1] at e ⊢;simp at e;subst e;rw[List.set_eq_take_append_cons_drop,if_pos oG,List.drop_eq_nil_of_le oG];rfl
 .rw[List.length_replicate,List.drop_eq_nil_of_le oG,List.append_nil]
end
end Go.Abs
namespace Go.Proofs.Tryz.K
set_option maxRecDepth 10000
def qE(d:List Int)(n:Nat):List D:=(iq d).map I++List.replicate (n - (iq d).length) (I 0)
def Io(d:List Int)(n:Nat)(m:Mem)(nx i:Nat)(r:D)(m':Mem)(nx':Nat):Prop:=nx'=nx/\r=.rs i 0 (iq d).length/\m'=up m i (some (.cells (qE d n) 3))
def Ty(d:List Int)(m:Mem)(nx i:Nat)(r:D)(m':Mem)(nx':Nat):Prop:=nx'=nx/\r=.rs i 0 (iq d).length/\∃ c,m'=up m i (some (.cells c 3))/\c.take (iq d).length=(iq d).map I
theorem ym{m:Mem}{nx i n:Nat}{d:List Int}(hi:i<nx)(hm:m i=some (.cells (d.map I) 3))(hl:d.length=n)(hn:n<=100000):ACalls prog 90 [.rs i 0 n] m nx (Io d n m nx i):=by
 refine sO vD ?_;rw[Yv];have av:=hm
 have we:up m i (some (.cells (d.map I) 3))=m:=by
  funext j;simp only[up];split
  .rename_i e;rw[e,hm]
  .rfl
 have whole:eh d n=d->Io d n m nx i (.rs i 0 n) m nx:=fun h=>by
  have h:iq d=d:=by unfold iq;rw[hl];exact h
  refine⟨rfl,by rw[h,hl],?_⟩;rw[qE,h,hl,Nat.sub_self,List.replicate_zero,List.append_nil,we]
 refine ws ?_;refine SS ?_;refine ab (aB (aj ?_));refine ap ?_;refine ab (cy rfl (fun h=>?_) fun h=>cu (aB (au ?_)))
 .have h:n<2:=by have h:(n:Int)<2:=by simpa using h
                 omega
  refine aB (aj ?_);refine af ?_;refine ab (di (aq rfl (whole ?_)))
  match d,n,hl,h with
  |[],_,rfl,_=>rfl
  |[a],_,rfl,_=>rfl
 have h2:2<=n:=by have h:¬ (n:Int)<2:=by simpa using h
                  omega
 refine SS ?_;refine ab (bZ (fun s=>Ghost prog s ⟨ax [(0,.rs i 0 n)],m,nx⟩/\eh d n=d) (cP (α:=Nat) (fun k=>⟨ax [(0,.rs i 0 n),(3,I k)],m,nx⟩) (fun k=>1<=k/\k<=n/\eh d k=d.take k) (fun k=>n - k) 1 (ao eH) ⟨oG,oG,?_⟩ ?_) ?_)
 .match d,hl with
  |a::t,_=>rfl
  |[],hl=>simp at hl;omega
 .rintro k ⟨yO,hk,M⟩;refine aN ?_;refine ab ⟨_,rfl,fun h=>?_,fun h=>?_⟩
  .have al:k<n:=by have h:(k:Int)<n:=by simpa using h
                   omega
   obtain⟨j,rfl⟩:∃ j,k=j+1:=⟨k - 1,oG⟩
   have ha:d[j+1]? =some d[j+1]:=aL oG;have hb:d[j]? =some d[j]:=aL oG;have ga:d.getD (j+1) 0=d[j+1]:=by simp[bD,ha]
   have gb:d.getD j 0=d[j]:=by simp[bD,hb]
   have kd:=fZ (f:=I) ha;have C:=fZ (f:=I) hb;have ow:((j+1:Nat):Int) - 1=(j:Int)/\ -9223372036854775808<=(j:Int)/\(j:Int)<=9223372036854775807:=by omega
   refine dz Rw ?_;refine bH ?_;refine aD (gd rfl av C V.h) ak (gf V.h V.h C) ?_;refine SS ?_;refine bf bg (an rfl (fun h=>?_) fun h=>?_)
   .have rh:d[j+1]=d[j]:=by simpa using h
    refine ws ?_;refine af ?_;refine aD (GY rfl av V.h V.h rfl) ak ⟨V.h,oG⟩ ?_;refine SS ?_;refine ab (aB (au ?_));refine SS ?_;have Yw:eh d (j+1+1)=eh d (j+1):=JN oG oG (by rw[ga,show j+1 - 1=j by omega,gb];exact rh);have vZ:(eh d (j+1)).length=j+1:=by rw[M];simp;omega
    clear kd C ow
    refine ab (bZ (fun s=>∃ (c:List Int) (k:Nat),Ghost prog s ⟨ax [(0,.rs i 0 n),(3,I (k:Nat))],up m i (some (.cells (c.map I) 3)),nx⟩/\c.length=n/\k<=n/\c.take k=eh d n) (cP (α:=List Int×Nat×Nat) (fun s=>⟨ax [(0,.rs i 0 n),(3,I s.2.1),(4,.rs i (j+1) (n - (j+1))),(5,I (s.2.2+1:Nat))],up m i (some (.cells (s.1.map I) 3)),nx⟩)
     (fun s=>s.1.length=n/\j+1+(s.2.2+1)<=n/\s.2.1<=j+1+s.2.2/\s.1.take s.2.1=eh d (j+1+(s.2.2+1))/\∀ p,j+1+s.2.2<=p->s.1[p]? =d[p]?) (fun s=>n - s.2.2) (d,j+1,0) (ki eH we.symm) ⟨hl,by simp only;omega,by simp only;omega,?_,fun _ _=>rfl⟩ ?_) ?_)
    .show d.take (j+1)=eh d (j+1+1);rw[Yw,M]
    .rintro⟨c,k,q⟩ ⟨J,X,w3,w4,U⟩;simp only at J X w3 w4 U;dsimp only;refine af ?_;refine aD (Ds rfl (up_same _ _ _)) ak V.h ?_;refine SS ?_;refine ab ⟨_,rfl,fun h=>?_,fun h=>?_⟩
     .have al:q+1<n - (j+1):=by have h:((q+1:Nat):Int)<((n - (j+1):Nat):Int):=by simpa using h
                                omega
      have xa:c[j+1+(q+1)]? =some c[j+1+(q+1)]:=aL oG;have xb:c[j+1+q]? =some c[j+1+q]:=aL oG;have ya:d.getD (j+1+(q+1)) 0=c[j+1+(q+1)]:=by rw[bD, <- U _ oG,xa];rfl
      have yb:d.getD (j+1+q) 0=c[j+1+q]:=by rw[bD, <- U _ oG,xb];rfl
      have kd:=fZ (f:=I) xa;have C:=fZ (f:=I) xb;generalize hA:c[j+1+(q+1)]=a at xa ya kd;generalize hB:c[j+1+q]=b at xb yb C;clear hA hB;have ow:((q+1:Nat):Int) - 1=(q:Int)/\ -9223372036854775808<=(q:Int)/\(q:Int)<=9223372036854775807:=by omega
      refine dz Qm ?_;refine bH ?_;refine aD (gd rfl (up_same _ _ _) C V.h) ak (gf V.h V.h C) ?_;refine SS ?_;refine bf bg (an rfl (fun h=>?_) fun h=>?_)
      .have aI:a≠b:=by simpa using h
       have hn:=JO (d:=d) (t:=j+1+(q+1)) (by rw[ya,show j+1+(q+1) - 1=j+1+q by omega,yb];exact aI);refine ws ?_;refine bH ?_;refine ab (fJ ?_);refine ap ?_;refine ab ?_;refine ap ?_;refine ab (aP (c.set k a,k+1,q+1) (ki eH ?_) ⟨by simp[J],by simp only;omega,by simp only;omega,?_,fun p hp=>?_⟩ (by simp only;omega))
       .rw[lj,List.map_set]
       .show(c.set k a).take (k+1)=eh d (j+1+(q+1)+1);rw[hn,ya, <- w4,List.take_succ_eq_append_getElem oP];simp;exact List.take_set_of_le (bE k)
       .simp only at hp;show(c.set k a)[p]? =_;rw[List.getElem?_set_ne oG];exact U p oG
      .have Yx:a=b:=by simpa using h
       have hn:=JN (d:=d) (t:=j+1+(q+1)) oG oG (by rw[ya,show j+1+(q+1) - 1=j+1+q by omega,yb];exact Yx);refine cD ?_;refine ap ?_;refine ab (aP (c,k,q+1) (ao eH) ⟨J,by simp only;omega,by simp only;omega,?_,fun p hp=>U p (by simp only at hp;omega)⟩ (by simp only;omega));show c.take k=eh d (j+1+(q+1)+1);rw[hn,w4]
     .have a9:¬ q+1<n - (j+1):=by have h:¬ ((q+1:Nat):Int)<((n - (j+1):Nat):Int):=by simpa using h
                                  omega
      refine⟨c,k,.forget _ _ _ _ fun t=>lO (l:=[(0,.rs i 0 n),(3,I k)]) ⟨rfl,rfl,trivial⟩ t,J,oG,?_⟩;rw[w4];exact congrArg (eh d) oG
    .rintro s ⟨c,k,hg,J,ck,X⟩;refine⟨_,hg,aj ?_⟩;refine af ?_;refine aD (GY rfl (up_same _ _ _) V.h V.h rfl) ak ⟨V.h,oG⟩ ?_;refine cE (SC rfl (up_same _ _ _) V.h V.h) ak ⟨V.h,(by rw[c3];first|(simp;done)|(simp;omega)|omega),rfl⟩ ?_;refine er ?_;refine af ?_;refine aD (Ql rfl (up_same _ _ _) V.h V.h rfl) ak ⟨V.h,oG⟩ ?_;refine SS ?_;have c8:(iq d).length=k:=by unfold iq;rw[hl, <- X];simp;omega
     refine ab (aU (cq (aO (aq (d:=.rs i 0 k) rfl ⟨rfl,by rw[c8],(lj _ _ _ _).trans ?_⟩))));rw[Pe (by rw[List.length_map,J]) ck, <- List.map_take,X,qE,c8];unfold iq;rw[hl]
   .have aI:d[j+1]≠d[j]:=by simpa using h
    refine cD ?_;refine ap ?_;refine ab (aP (j+1+1) (ao eH) ⟨oG,oG,?_⟩ oG);rw[JO (by rw[ga,show j+1 - 1=j by omega,gb];exact aI),M,ga];exact(List.take_succ_eq_append_getElem oG).symm
  .have a9:¬ k<n:=by have h:¬ (k:Int)<n:=by simpa using h
                     omega
   have:k=n:=by omega
   refine⟨.forget _ _ _ _ fun t=>lO (l:=[(0,.rs i 0 n)]) ⟨rfl,trivial⟩ t,?_⟩;rw[<- this,M,cL oG]
 .rintro s ⟨hg,M⟩;refine⟨_,hg,aj ?_⟩;refine af ?_;exact ab (aq rfl (whole M))
theorem y5{m:Mem}{nx i n:Nat}{d:List Int}(hi:i<nx)(hm:m i=some (.cells (d.map I) 3))(hl:d.length=n)(hn:n<=100000):ACalls prog 90 [.rs i 0 n] m nx (Ty d m nx i):=by
 refine(ym hi hm hl hn).mono ?_;rintro r m' nx' ⟨h1,h2,h3⟩;refine⟨h1,h2,qE d n,h3,?_⟩;rw[qE,List.take_append_of_le_length oS,cL oS]
end Go.Proofs.Tryz.K
namespace Go.Argus
def eW(x:End)(b:Int)(w:List Int):List Int:=if u9 x b then fA w (dw x) else w
@[simp] theorem GZ (x : End) (b : Int) (w : List Int) : (eW x b w).length = w.length := by unfold eW; split <;> simp
def uV(l:List Int):List Int:=iq (eA l)
structure lX(x:bd):Prop where
 rd:∀ r∈bW x,0<=r/\r<1200
 sl:x.op=17\/x.op=18->0<=x.n/\x.n<80
 wr: -1000000<=cN x/\cN x<1200
 ar:x.op=10\/x.op=38->x.args.length<=1000
structure vo(x:End):Prop where
 rd:∀ r∈bU x,0<=r/\r<1200
 wr: -1000000<=dw x/\dw x<1200
 wh:x.az.length<=9
 a1:x.kind=5->x.ins.op=10\/x.ins.op=38->x.ins.args.length<=1000
 a2:x.kind=6\/x.kind=7->x.args.length<=1000
def gn(w:List Int)(ok:Bool)(rs:List Int):Bool:=rs.foldl (fun ok r=>ok&&jw w r.toNat) ok
def rX(w:List Int)(x:bd):List Int:=fA w (if x.op=18 then ik x.n else cN x)
def kC(s:List Int×Bool)(x:bd):List Int×Bool:=(rX s.1 x,gn s.1 s.2 (bW x)&&(x.op !=17||jw s.1 (ik x.n).toNat))
def iD(l:List bd)(w:List Int):List Int×Bool:=l.foldl kC (w,true)
def gm(b:bu)(w:List Int):List Int×Bool:=((iD b.ins w).1,gn (iD b.ins w).1 (iD b.ins w).2 (bU b.fin))
theorem lL{α β:Type}{f:β->α->β}{z:β}{l:List α}{k:Nat}{x:α}(h:l[k]? =some x):(l.take (k+1)).foldl f z=f ((l.take k).foldl f z) x:=by
 rw[List.take_add_one,h,List.foldl_append];rfl
theorem CE(l:List bd)(w:List Int):(iD l w).1.length=w.length:=by
 unfold iD;generalize true=b
 induction l generalizing w b with
 |nil=>rfl
 |cons x l ih=>rw[List.foldl_cons];exact(ih _ _).trans (by simp[rX])
theorem BV(b:bu)(w:List Int):(gm b w).1.length=w.length:=CE _ _
def b8(l:List (List Int)):List D:=l.flatMap fun w=>w.map cm
theorem De{sz:Nat}:∀ {l:List (List Int)} {i:Nat} {w:List Int},(∀ w∈l,w.length=sz)->l[i]? =some w->(b8 l).drop (i*sz)=w.map cm++(b8 (l.drop (i+1)))
 |[],i,w,_,h=>by simp at h
 |a::l,0,w,_,h=>by simp at h;subst h;simp[b8]
 |a::l,i+1,w,hs,h=>by
  have ha:(a.map cm).length=sz:=by simpa using hs a oS
  have h1:(i+1)*sz=(a.map cm).length+i*sz:=by rw[ha,Nat.add_mul];omega
  have ih:=De (l:=l) (i:=i) (w:=w) (fun w C=>hs w (by simp[C])) (by simpa using h);unfold b8 at ih ⊢;rw[List.flatMap_cons,h1, <- List.drop_drop,List.drop_left,ih,List.drop_succ_cons]
theorem AG{sz:Nat}{l:List (List Int)}{i:Nat}{w:List Int}(h:∀ w∈l,w.length=sz)(hi:l[i]? =some w):((b8 l).drop (i*sz)).take sz=w.map cm:=by
 rw[De h hi,List.take_append_of_le_length (by simp[h w (cg hi)]),cL (by simp[h w (cg hi)])]
theorem Cj{sz:Nat}:∀ {l:List (List Int)},(∀ w∈l,w.length=sz)->(b8 l).length=l.length*sz
 |[],_=>by simp[b8]
 |a::l,h=>by
  have:=Cj (l:=l) fun w C=>h w (by simp[C]);unfold b8 at this ⊢;rw[List.flatMap_cons,List.length_append,this,List.length_map,h a oS,List.length_cons,Nat.add_mul];omega
theorem tE{sz:Nat}{l:List (List Int)}{i:Nat}{w:List Int}(h:∀ w∈l,w.length=sz)(hi:l[i]? =some w):i*sz+sz<=(b8 l).length:=by
 rw[Cj h];have:=(bA.1 hi).1;rw[<- Nat.succ_mul];exact Nat.mul_le_mul_right _ this
theorem KL{sz:Nat}(J:2<=sz):∀ {l:List (List Int)} {i:Nat} {w v:List Int},(∀ w∈l,w.length=sz)->l[i]? =some v->w.length=sz->splice (b8 l) (i*sz) (w.map cm)=b8 (l.set i w):=by
 intro l i w v h hi C
 have key:splice (b8 l) (i*sz) (w.map cm)=(b8 l).take (i*sz)++w.map cm++(b8 l).drop (i*sz+(w.map cm).length):=by
  unfold splice;split
  .rename_i x hx;have:(w.map cm).length=1:=by rw[hx];rfl
   simp at this;omega
  .rfl
 rw[key,List.length_map,C];clear key
 induction l generalizing i with
 |nil=>simp at hi
 |cons a l ih=>
  have ha:(a.map cm).length=sz:=by simpa using h a oS
  cases i with
  |zero=>
   simp only[Nat.zero_mul,List.take_zero,List.nil_append,Nat.zero_add,List.set_cons_zero];unfold b8;rw[List.flatMap_cons,List.flatMap_cons, <- ha,List.drop_left]
  |succ i=>
   have ih:=ih (i:=i) (fun w C=>h w (by simp[C])) (by simpa using hi);simp only[List.set_cons_succ];unfold b8 at ih ⊢;rw[List.flatMap_cons,List.flatMap_cons, <- ih,show(i+1)*sz=(a.map cm).length+i*sz by rw[ha,Nat.add_mul];omega,List.take_length_add_append,Nat.add_assoc,List.drop_length_add_append];simp
theorem Rx(n:Nat)(w:List Int):replD n (w.map cm)=b8 (List.replicate n w):=by
 unfold replD b8
 induction n with
 |zero=>rfl
 |succ n ih=>rw[List.replicate_succ,List.replicate_succ,List.flatten_cons,List.flatMap_cons,ih]
theorem qu(n:Nat)(b:Bool):replD n [B b]=(List.replicate n b).map B:=by
 unfold replD
 induction n with
 |zero=>rfl
 |succ n ih=>rw[List.replicate_succ,List.replicate_succ,List.flatten_cons,List.map_cons,ih];rfl
theorem Tz(l:List (List Int)):∀ a∈b8 l,Tr a:=.flat fun w=>.map fun _=>.s _
theorem Df{sz:Nat}{l:List (List Int)}{i:Nat}{w:List Int}(h:∀ w∈l,w.length=sz)(J:w.length=sz):∀ u∈l.set i w,u.length=sz:=fun u C=>by
 rcases List.mem_or_eq_of_mem_set C with h1|h1
 .exact h u h1
 .rw[h1];exact J
theorem HN:∀ {w v:List Int},w.length=v.length->zipV (w.map cm) (v.map cm)=some (w.map (Value.int .u64),v.map (Value.int .u64))
 |[],[],_=>rfl
 |a::w,b::v,h=>by
  have:=HN (w:=w) (v:=v) (by simpa using h);simp[zipV,sameK,this]
theorem HO:∀ {w v:List Int},w.length=v.length->veqs (w.map (Value.int .u64)) (v.map (Value.int .u64))=(w==v)
 |[],[],_=>rfl
 |a::w,b::v,h=>by
  have:=HO (w:=w) (v:=v) (by simpa using h);simp[veqs,veq1,this]
theorem Qo(w:List Int):(w.map (Value.int .u64)).map kindV=List.replicate w.length 0:=by
 induction w with
 |nil=>rfl
 |cons a w ih=>simpa[kindV,List.replicate_succ] using ih
end Go.Argus
namespace Go.Proofs.Tryz.K
set_option maxRecDepth 10000
theorem EG{f:FuncId}{cs:List D}{xs:List Int}(J:SeqA prog f [] cs (xs.map fun n=>[I n]))(ht:Tr (.fn (.func f) [] cs))(hlen:xs.length<=12):OCall prog 201 [.fn (.func f) [] cs] ((eA xs).map I) xs.length 3:=by
 have C:∀ a∈[.fn (.func f) [] cs],Tr a:=.cons ht .nil;refine uy K8 C (.map fun _=>.s _) ?_;rw[UL];have EE:=EE J ht oG;refine ws ?_;refine SS ?_;refine er ?_;refine SS ?_;refine xV EE rfl cY ?_;refine SS ?_;refine er ?_;refine SS ?_;refine lh (ry (i:=0) (l:=xs) oG rfl rfl hlen) rfl cY fun r m' nx' hp=>?_;obtain⟨rfl,rfl,rfl⟩:=hp;refine er ?_;refine af ?_;exact ab (aq rfl ⟨0,rfl,rfl⟩)
theorem qR{f:FuncId}{cs:List D}{xs:List Int}(J:SeqA prog f [] cs (xs.map fun n=>[I n]))(ht:Tr (.fn (.func f) [] cs))(hlen:xs.length<=12):PCall prog 155 [.fn (.func f) [] cs] (aC (uV xs)):=by
 have C:∀ a∈[.fn (.func f) [] cs],Tr a:=.cons ht .nil;refine a7 K9 C (cW _) ?_;rw[UM];have EG:=EG J ht hlen;refine ws ?_;refine SS ?_;refine ab (au ?_);refine SS ?_;refine xV EG rfl cY ?_;refine lh (y5 (i:=0) (d:=eA xs) (n:=xs.length) oG rfl oS oG) rfl cY fun r m' nx' hp=>?_;obtain⟨rfl,rfl,c,rfl,hc⟩:=hp;refine SS ?_;refine ab (aJ (bj [(0,c,3)] ⟨up_same _ _ _,trivial⟩ (l:=[(2,aC (uV xs))]) ⟨?_,trivial⟩) (aq rfl rfl));exact iA c3 (by rw[List.drop_zero,Nat.mul_one];exact hc)
def nextR(x:Argus.End):List Int:=uV (cx x)
theorem JP{x:Argus.End}(hlen:x.az.length<=9):PCall prog 155 [.fn (.func 202) [] [.pt (aW x)]] (aC (nextR x)):=
 qR (Mm oG) (.fn oS (.cons (.pt (iQ x)) .nil)) (by have:=Dc x;omega)
theorem so{x:Argus.End}{b:Int}{w:List Int}(J:w.length=20)(hlen:x.az.length<=1000)(hn: -1000000<=dw x/\dw x<1280):PCall prog 199 [.agg (aW x),I b,fm w] (fm (eW x b w)):=by
 have C:∀ a∈[D.agg (aW x),I b,fm w],Tr a:=.cons (.agg (iQ x)) (.cons (.s _) (.cons (nv _) .nil));refine a7 La C (nv _) ?_;rw[UN];have EC:=EC (x:=x) (b:=b) hlen;refine ws ?_;refine ap ?_;refine ab (aB (aj ?_));refine af ?_;refine cl EC ?_;refine ab (cy rfl (fun h=>?_) fun h=>cu (aj ?_))
 .have EH:=EH (x:=x);have nw:=nw (w:=w) (n:=dw x) J hn;refine aB (dz Qn ?_);refine af ?_;refine cl EH ?_;refine cl nw ?_;refine SS ?_;refine bf bg (di (jL (ke rfl rfl qO oz (jT oP) t231 oP) ?_));simp[eW,h]
 .refine af ?_;refine ab (jL (ke rfl rfl qO oz (jT oP) t231 oP) ?_);simp[eW,h]
set_option maxHeartbeats 1000000 in
theorem kH{b:bu}{w:List Int}(hw:w.length=20)(hl:b.ins.length<=100000)(hi:∀ x∈b.ins,lX x)(hf:vo b.fin)(lA:∀ x∈b.ins,(bW x).length<=100000)(gD:(bU b.fin).length<=100000):PCall prog 198 [.agg (dS b),fm w] (.tup [fm (gm b w).1,B (gm b w).2]):=by
 have aT:∀ a∈[D.agg (dS b),fm w],Tr a:=.cons (.agg (G0 b)) (.cons (nv _) .nil);refine a7 Lb aT (.tup (.cons (nv _) (.cons (.s _) .nil))) ?_;rw[UO];refine ws ?_;refine fW (pF (cs:=dS _) rfl) ak (by first|rfl|exact qo eK eL|exact iZ _|exact qD cS) ?_;refine ap ?_;refine ab (au ?_);refine SS ?_;refine ab (aJ (aH (l:=[(2,.rp 0 0),(3,.rp 1 0),(4,.rp 2 0),(6,B true)]) (ml:=[(0,.cells (dS b) 72),(1,.cells (w.map cm) 231),(2,.cells (List.replicate 20 (cm 0)) 231)]) eH eH) (aB (au ?_)));refine aN ?_
 refine ab (bZ (fun s=>∃ n',3<=n'/\Ghost prog s ⟨ax [(2,.rp 0 0),(3,.rp 1 0),(4,.rp 2 0),(6,B (iD b.ins w).2)],bc [(0,.cells (dS b) 72),(1,.cells ((iD b.ins w).1.map cm) 231),(2,.cells (List.replicate 20 (cm 0)) 231)],n'⟩) (eN (α:=Nat×Nat)
  (fun k=>⟨ax [(2,.rp 0 0),(3,.rp 1 0),(4,.rp 2 0),(6,B (iD (b.ins.take k.1) w).2),(14,fu b.ins),(15,I b.ins.length),(16,I k.1)],bc [(0,.cells (dS b) 72),(1,.cells ((iD (b.ins.take k.1) w).1.map cm) 231),(2,.cells (List.replicate 20 (cm 0)) 231)],k.2⟩)
  (fun k=>k.1<=b.ins.length/\3<=k.2) (fun k=>b.ins.length - k.1) (0,3) (aH eH eH) ⟨oS,oS⟩ ?_) ?_)
 .rintro⟨k,N⟩ ⟨hk,hN⟩;dsimp only at hk hN ⊢;refine SS ?_;refine ab ⟨_,rfl,fun h=>?_,fun h=>?_⟩
  .have al:k<b.ins.length:=by simpa using h
   have hx:b.ins[k]? =some b.ins[k]:=by simp[al]
   have me:b.ins[k]∈b.ins:=bR al;generalize b.ins[k]=x at hx me;obtain⟨ird,NC,iwr,iar⟩:=hi x me;have C:iD (b.ins.take (k+1)) w=kC (iD (b.ins.take k) w) x:=lL hx;have hlen:(iD (b.ins.take k) w).1.length=20:=by rw[CE,hw]
   generalize iD (b.ins.take k) w=u at C hlen;obtain⟨v,ok⟩:=u;dsimp only at hlen ⊢;refine ws ?_;refine aN ?_;refine ab (aB (au ?_));have vE:=vE (x:=x) iar;refine SS ?_;refine cl vE ?_;refine af ?_;have ab1:=lA x me
   refine ab (bZ (fun s=>Ghost prog s ⟨ax [(2,.rp 0 0),(3,.rp 1 0),(4,.rp 2 0),(6,B (gn v ok (bW x))),(8,.rp N 0),(14,fu b.ins),(15,I b.ins.length),(16,I k)],up (bc [(0,.cells (dS b) 72),(1,.cells (v.map cm) 231),(2,.cells (List.replicate 20 (cm 0)) 231)]) N (some (.cells (a8 x) 66)),N+1⟩) (eN (α:=Nat)
    (fun j=>⟨ax [(2,.rp 0 0),(3,.rp 1 0),(4,.rp 2 0),(6,B (gn v ok ((bW x).take j))),(8,.rp N 0),(14,fu b.ins),(15,I b.ins.length),(16,I k),(21,aC (bW x)),(22,I (bW x).length),(23,I j)],up (bc [(0,.cells (dS b) 72),(1,.cells (v.map cm) 231),(2,.cells (List.replicate 20 (cm 0)) 231)]) N (some (.cells (a8 x) 66)),N+1⟩)
    (fun j=>j<=(bW x).length) (fun j=>(bW x).length - j) 0 (ki eH (lj _ _ _ _)) oG ?_) ?_)
   .intro j hj;refine SS ?_;refine ab ⟨_,rfl,fun h=>?_,fun h=>?_⟩
    .have J:j<(bW x).length:=by simpa using h
     have hr:(bW x)[j]? =some (bW x)[j]:=by simp[J]
     have U:(bW x)[j]∈bW x:=bR J;generalize (bW x)[j]=r at hr U;have vX:=ird r U;obtain⟨M,rfl⟩:=eC vX.1;have jb:=jb (w:=v) (m:=M) hlen oG;refine ws ?_;refine ap ?_;refine ab (fJ ?_);refine aN ?_;refine gc jb ?_;refine af ?_;refine ab ?_;refine af ?_;refine ab (aP (j+1) (ao ⟨rfl,rfl,rfl,?_,rfl,rfl,rfl,rfl,rfl,rfl,rfl,trivial⟩) oG oG)
     have e:gn v ok ((bW x).take (j+1))=(gn v ok ((bW x).take j)&&jw v M):=by
      unfold gn;rw[lL hr,dg]
     rw[e];generalize gn v ok ((bW x).take j)=g;cases g<;>rfl
    .have a9:¬ j<(bW x).length:=by simpa using h
     refine ao ⟨rfl,rfl,rfl,?_,rfl,rfl,rfl,rfl,trivial⟩;show B _=B _;rw[cL oG]
   .intro s hg;have C:iD (b.ins.take (k+1)) w=(rX v x,gn v ok (bW x)&&(x.op !=17||jw v (ik x.n).toNat)):=C;generalize gn v ok (bW x)=FE at hg C;have yk:=yk (w:=v) (x:=x) hlen (fun h=>NC (.inr h)) (fun _=>by omega);have fin:∀ (d:Bool) env,d=(FE&&(x.op !=17||jw v (ik x.n).toNat))->jM [(2,.rp 0 0),(3,.rp 1 0),(4,.rp 2 0),(6,B d),(8,.rp N 0),(14,fu b.ins),(15,I b.ins.length),(16,I k)] env->True:=fun _ _ _ _=>trivial;refine⟨_,hg,?_⟩;cases FE with
    |false=>
     have qP:false=true->PCall prog 244 [I x.n] (I (ik x.n)):=fun h=>by cases h
     have jb:false=true->PCall prog 200 [fm v,I (ik x.n)] (B true):=fun h=>by cases h
     refine dz B9 ?_;refine aQ ?_;refine Dx rfl rfl rfl (fun hc=>⟨ak,qP hc⟩) ?_;refine Dx rfl rfl rfl (fun hc=>⟨ak,jb hc⟩) ?_;refine ap ?_;refine bf bg (fJ ?_);refine af ?_;refine cl yk ?_;refine SS ?_;refine ab ?_;refine af ?_;refine ab (aP (k+1,N+1) (aH ⟨rfl,rfl,rfl,?_,rfl,rfl,rfl,trivial⟩ ⟨aw oG (aw oG rfl),?_,aw oG (aw oG rfl),trivial⟩) ⟨oM,oM⟩ oM)
     .dsimp only;rw[C];rfl
     .dsimp only;rw[C];exact up_same _ _ _
    |true=>
     by_cases X:x.op=17
     .have ja:(x.op !=17)=false:=by simp[X]
      have ab':=NC (.inl X);have qP:=qP (n:=x.n) oG;obtain⟨sn,fN⟩:=eC (show 0<=ik x.n by unfold ik;omega);have jb:=jb (w:=v) (m:=sn) hlen (by unfold ik at fN;omega);rw[<- fN] at jb;refine dz B9 ?_;refine aN ?_;refine Mu ?_;refine aN ?_;refine gc qP ?_;refine gc jb ?_;refine ap ?_;refine bf bg (fJ ?_);refine af ?_;refine cl yk ?_;refine SS ?_;refine ab ?_;refine af ?_;refine ab (aP (k+1,N+1) (aH ⟨rfl,rfl,rfl,?_,rfl,rfl,rfl,trivial⟩ ⟨aw oG (aw oG rfl),?_,aw oG (aw oG rfl),trivial⟩) ⟨oM,oM⟩ oM)
      .dsimp only;rw[C,ja,fN];rfl
      .dsimp only;rw[C];exact up_same _ _ _
     .have ja:(x.op !=17)=true:=by simp[X]
      have qP:false=true->PCall prog 244 [I x.n] (I (ik x.n)):=fun h=>by cases h
      have jb:false=true->PCall prog 200 [fm v,I (ik x.n)] (B true):=fun h=>by cases h
      refine dz B9 ?_;refine aN ?_;refine Mu ?_;refine SS ?_;(iterate 5 refine z fun _ _=>?_);refine ap ?_;refine bf bg (fJ ?_);refine af ?_;refine cl yk ?_;refine SS ?_;refine ab ?_;refine af ?_;refine ab (aP (k+1,N+1) (aH ⟨rfl,rfl,rfl,?_,rfl,rfl,rfl,trivial⟩ ⟨aw oG (aw oG rfl),?_,aw oG (aw oG rfl),trivial⟩) ⟨oM,oM⟩ oM)
      .dsimp only;rw[C,ja];rfl
      .dsimp only;rw[C];exact up_same _ _ _
  .have a9:¬ k<b.ins.length:=by simpa using h
   have q7:b.ins.take k=b.ins:=cL oG;refine⟨N,hN,?_⟩;rw[q7];exact ao eH
 .rintro s ⟨n',du,hg⟩;have hlen:(iD b.ins w).1.length=20:=by rw[CE,hw]
  have y6:gm b w=((iD b.ins w).1,gn (iD b.ins w).1 (iD b.ins w).2 (bU b.fin)):=rfl;rw[y6];generalize iD b.ins w=u at hg hlen ⊢;obtain⟨v,ok⟩:=u;dsimp only at hlen hg ⊢;have EI:=EI (x:=b.fin) hf.a1 hf.a2;refine⟨_,hg,aB (au ?_)⟩;refine af ?_;refine cl EI ?_;refine af ?_
  refine ab (bZ (fun s=>Ghost prog s ⟨ax [(3,.rp 1 0),(4,.rp 2 0),(6,B (gn v ok (bU b.fin)))],bc [(1,.cells (v.map cm) 231),(2,.cells (List.replicate 20 (cm 0)) 231)],n'⟩) (eN (α:=Nat)
   (fun j=>⟨ax [(3,.rp 1 0),(4,.rp 2 0),(6,B (gn v ok ((bU b.fin).take j))),(53,aC (bU b.fin)),(54,I (bU b.fin).length),(55,I j)],bc [(1,.cells (v.map cm) 231),(2,.cells (List.replicate 20 (cm 0)) 231)],n'⟩)
   (fun j=>j<=(bU b.fin).length) (fun j=>(bU b.fin).length - j) 0 (aH eH eH) oG ?_) ?_)
  .intro j hj;refine SS ?_;refine ab ⟨_,rfl,fun h=>?_,fun h=>?_⟩
   .have J:j<(bU b.fin).length:=by simpa using h
    have hr:(bU b.fin)[j]? =some (bU b.fin)[j]:=by simp[J]
    have U:(bU b.fin)[j]∈bU b.fin:=bR J;generalize (bU b.fin)[j]=r at hr U;have vX:=hf.rd r U;obtain⟨M,rfl⟩:=eC vX.1;have jb:=jb (w:=v) (m:=M) hlen oG;refine ws ?_;refine ap ?_;refine ab (fJ ?_);refine af ?_;refine bl rfl rfl (dQ rfl rfl V.h V.h (jT (by first|rfl|exact bn rfl|(simp;done)|(simp;omega)|omega))) (fun hc=>⟨ak,(dR V.h V.h (by first|rfl|exact bn rfl|(simp;done)|(simp;omega)|omega))⟩) ?_;refine SS ?_;refine gc jb ?_;refine af ?_;refine ab ?_;refine af ?_;refine ab (aP (j+1) (ao ⟨rfl,rfl,?_,rfl,rfl,rfl,trivial⟩) oG oG)
    have e:gn v ok ((bU b.fin).take (j+1))=(gn v ok ((bU b.fin).take j)&&jw v M):=by
     unfold gn;rw[lL hr,dg]
    rw[e];generalize gn v ok ((bU b.fin).take j)=g;cases g<;>rfl
   .have a9:¬ j<(bU b.fin).length:=by simpa using h
    refine ao ⟨rfl,rfl,?_,trivial⟩;show B _=B _;rw[cL oG]
  .intro s hg;refine⟨_,hg,aj ?_⟩;refine aN ?_;exact ab (O5 (ke rfl rfl qO oz (jT oP) t231 oP) rfl rfl)
end Go.Proofs.Tryz.K
end
namespace Go.Argus
open Go.Abs
theorem PM{l:List Int}{j:Nat}(hj:j+1<l.length){x:Int}:x∈swapAt l j↔x∈l:=by
 have ha:l.getD j 0=l[j]:=by simp[bD,aL (show j<l.length by omega)]
 have hb:l.getD (j+1) 0=l[j+1]:=by simp[bD,aL hj]
 unfold swapAt;rw[ha,hb];exact(List.set_set_perm (show j+1<l.length from hj) (show j<l.length by omega)).mem_iff
theorem HZ{x:Int}:∀ (j:Nat) {l:List Int},j<l.length->(x∈lu l j↔x∈l)
 |0,l,_=>Iff.rfl
 |j+1,l,hj=>by
  simp only[lu];split
  .exact(HZ j oP).trans (PM hj)
  .exact Iff.rfl
theorem Hm{l:List Int}{x:Int}:∀ k,k<l.length->(x∈jU l k↔x∈l)
 |0,_=>Iff.rfl
 |k+1,h=>by
  simp only[jU];exact(HZ (k+1) (by simpa using h)).trans (Hm k oG)
theorem QU{l:List Int}{x:Int}:x∈eA l↔x∈l:=by
 unfold eA;cases l with
 |nil=>simp[jU]
 |cons a l=>exact Hm _ oS
theorem zv{l:List Int}{x:Int}:x∈uV l↔x∈l:=by
 unfold uV iq;rw[Im (bE _),List.take_length];exact QU
theorem wrap_u64{n:Nat}(h:n<2 ^ 64):IntKind.u64.wrap (n:Int)=n:=by
 unfold IntKind.wrap;simp[IntKind.signed,IntKind.bits];omega
theorem SD{a b:Int}(ha:0<=a/\a<18446744073709551616):0<=mg a b/\mg a b<=a:=by
 unfold mg intBitsV;simp only;rw[wrap_u64 (n:=(BitVec.ofInt IntKind.u64.bits a&&& BitVec.ofInt IntKind.u64.bits b).toNat) (BitVec.isLt (w:=64) _)];obtain⟨n,rfl⟩:=eC ha.1
 have h1:(BitVec.ofInt IntKind.u64.bits (n:Int)).toNat=n:=by
  rw[BitVec.toNat_ofInt];show((n:Int) % ((2 ^ 64:Nat):Int)).toNat=n;omega
 have h2:(BitVec.ofInt IntKind.u64.bits (n:Int)&&& BitVec.ofInt IntKind.u64.bits b).toNat<=n:=by
  rw[BitVec.toNat_and,h1];exact Nat.and_le_left
 omega
end Go.Argus
section
open Go Go.Abs Go.Proofs Go.Argus
namespace Go.Abs
section
variable{P:Program}{env:Env}{m:Mem}{nx:Nat}{x y:Operand}{t p:TypeId}{k:IntKind}{n n':Int}
theorem wU{j i l sz:Nat}{e:TypeId}{r:Row}(hx:(opd env x).core=.rs j 0 l)(hy:(opd env y).core=.s (.int k (i:Int)))(hm:m j=some r)(he:elemP P t=e)(C:P.cellsOf e=sz):
 Ef P (.indexAddr t x y) env m nx ⟨slT P t=true/\i<l,.rp j (i*sz),[],[j],0⟩:=by
 have h:=Dr (P:=P) (env:=env) (m:=m) (nx:=nx) (t:=t) hx hy hm he C;have h1:0+((i:Int)).toNat*sz=i*sz:=by simp
 have h2:(slT P t=true/\(0:Int)<=(i:Int)/\(i:Int)<l)=(slT P t=true/\i<l):=by
  apply propext;constructor
  .rintro⟨a,_,b⟩;exact⟨a,oG⟩
  .rintro⟨a,b⟩;exact⟨a,oG,oG⟩
 rw[h1,h2] at h;exact h
theorem Ry{ps:Array (Nat×Operand)}{e:TypeId}{l:Nat}{z:List D}(C:P.underlying t=some (.array l e))(hp:ps.toList=[])(J:zeroP P t=z):Ef P (.build t ps) env m nx ⟨tyOk P t=true/\tyOk P e=true,.agg z,[],[],0⟩:=by
 refine⟨?_,rfl,rfl⟩;simp only[aop,C,hp,J,List.map_nil,fillD,Option.map_some]
theorem UP{xs ys:List D}{us vs:List Value}{C:List Nat}(hx:(opd env x).core=.agg xs)(hy:(opd env y).core=.agg ys)(hf:flatT P t=some C)(J:zipV xs ys=some (us,vs)){c:Bool}(hc:(!veqs us vs)=c):
 Ef P (.binOp .neq t x y p) env m nx ⟨us.map kindV=C/\P.eqGuardType P.depth t=false,.s (.bool c),[],[],0⟩:=by
 refine⟨?_,rfl,rfl⟩
 have hn:nilD P m .neq t (.agg xs) y=none:=by
  unfold nilD;split<;>first|rfl|(rename_i h;cases h)
 simp only[aop,rho,hx,hy,hn,binD,aggEqD,hf,J,hc,Option.map_some]
end
def sr(cs:List D):Prop:=∀ d∈cs,∃ v,d=.s v
theorem sr.map{α:Type}{f:α->Value}{l:List α}:sr (l.map fun x=>.s (f x)):=fun d hd=>by
 obtain⟨x,_,rfl⟩:=List.mem_map.1 hd;exact⟨_,rfl⟩
theorem UQ{i sz:Nat}{C cs:List D}(h:sr cs):cs.map (sub (fz0 i C sz))=cs:=by
 induction cs with
 |nil=>rfl
 |cons d cs ih=>
  obtain⟨v,rfl⟩:=h d oS;rw[List.map_cons,ih fun d hd=>h d (by simp[hd])];rfl
theorem Dg{m:Mem}{i j sz:Nat}{J cs:List D}{e:TypeId}(C:j≠i)(hm:m j=some (.cells cs e))(h:sr cs):(if j=i then none else(m j).map (Row.sub (fz0 i J sz)))=some (.cells cs e):=by
 rw[if_neg C,hm];show some (Row.cells (cs.map _) e)=_;rw[UQ h]
theorem TA{i sz n:Nat}{C es:List D}:sub (fz0 i C sz) (.sl es n)=.sl es n:=rfl
theorem s5{i j sz off n:Nat}{C:List D}(h:j≠i):sub (fz0 i C sz) (.rs j off n)=.rs j off n:=by
 show(if j=i then _ else D.rs j off n)=_;rw[if_neg h]
theorem lM{i sz n:Nat}{C:List D}(h:C.length=n*sz):sub (fz0 i C sz) (.rs i 0 n)=.sl C n:=by
 show(if i=i then D.sl ((C.drop 0).take (n*sz)) n else _)=_;rw[if_pos rfl,List.drop_zero,cL oG]
end Go.Abs
namespace Go.Proofs.Tryz.K
set_option maxRecDepth 10000
theorem UR:flatT prog 231=some (List.replicate 20 0):=kr
theorem US:prog.eqGuardType prog.depth 231=false:=kr
theorem UT:zeroP prog 231=(List.replicate 20 (0:Int)).map cm:=Mv
theorem Yy:prog.underlying 231=some (.array 20 98):=kr
section
variable{env:Env}{m:Mem}{nx:Nat}{x y:Operand}{p:TypeId}
theorem UU{w v:List Int}(hx:(opd env x).core=fm w)(hy:(opd env y).core=fm v)(h:w.length=v.length):Ef prog (.binOp .neq 231 x y p) env m nx ⟨(w.map (Value.int .u64)).map kindV=List.replicate 20 0/\prog.eqGuardType prog.depth 231=false,B (w !=v),[],[],0⟩:=
 UP hx hy UR (HN h) (by rw[HO h];rfl)
theorem UW{w:List Int}(h:w.length=20):(w.map (Value.int .u64)).map kindV=List.replicate 20 0/\prog.eqGuardType prog.depth 231=false:=⟨by rw[Qo,h],US⟩
end
end Go.Proofs.Tryz.K
namespace Go.Argus
open Go.Proofs.Tryz.K (nextR)
structure CS where
 ws:List (List Int)
 re:List Bool
 ch:Bool
def bY(x:End)(w:List Int)(s:CS)(n:Int):CS:=
 if s.re.getD n.toNat false=false\/fB (s.ws.getD n.toNat []) (eW x n w)≠s.ws.getD n.toNat [] then⟨s.ws.set n.toNat (fB (s.ws.getD n.toNat []) (eW x n w)),s.re.set n.toNat true,true⟩ else s
def cZ(bs:List bu)(s:CS)(k:Nat):CS:=match bs[k]? with
 |none=>s
 |some x=>if s.re.getD k false=true then(nextR x.fin).foldl (bY x.fin (gm x (s.ws.getD k [])).1) s else s
def gX(bs:List bu)(s:CS):CS:=(List.range bs.length).foldl (cZ bs) ⟨s.ws,s.re,false⟩
def jE(bs:List bu):Nat->CS->CS
 |0,s=>s
 |k+1,s=>if(gX bs s).ch=true then jE bs k (gX bs s) else gX bs s
def iE:Int:=18446744073709551615
def fU:Nat->List Int
 |0=>List.replicate 20 0
 |k+1=>fA (fU k) k
@[simp] theorem G3 : ∀ k, (fU k).length = 20
 |0=>rfl
 |k+1=>by simp[fU,G3 k]
def gY(n args:Nat):CS:=⟨(List.replicate n (List.replicate 20 iE)).set 0 (fU args),(List.replicate n false).set 0 true,true⟩
def dq(u:Int):Prop:=0<=u/\u<18446744073709551616
structure eB(n:Nat)(s:CS):Prop where
 lw:s.ws.length=n
 lr:s.re.length=n
 gV:∀ w∈s.ws,w.length=20
 rg:∀ w∈s.ws,∀ u∈w,dq u
def jY(w:List Int):Nat:=(w.map Int.toNat).sum
def mL(s:CS):Nat:=(s.ws.map jY).sum+s.re.count false
def kQ(s:CS):Nat:=mL s+if s.ch=true then 1 else 0
theorem Ip{l:List Nat}{k x y:Nat}(h:l[k]? =some x):(l.set k y).sum+x=l.sum+y:=by
 induction l generalizing k with
 |nil=>simp at h
 |cons a l ih=>cases k with
  |zero=>simp at h;subst h;simp;omega
  |succ k=>have:=ih (k:=k) (by simpa using h);simp;omega
theorem Rz{l:List Int}{k:Nat}{x y:Int}(h:l[k]? =some x):jY (l.set k y)+x.toNat=jY l+y.toNat:=by
 unfold jY;rw[List.map_set];exact Ip (by simp[h])
theorem G4{a b:Int}(h:dq a):dq (mg a b)/\mg a b<=a:=by
 have:=SD (b:=b) h;exact⟨⟨this.1,by unfold dq at h;omega⟩,this.2⟩
theorem RA{α:Type}{l:List α}{k:Nat}{x:α}(h:l[k]? =some x):l.set k x=l:=by
 apply List.ext_getElem?;intro i;rw[List.getElem?_set];split
 .rename_i e;subst e;rw[if_pos (bA.1 h).1,h]
 .rfl
theorem HP{w v:List Int}(M:∀ u∈w,dq u):∀ k,k<=w.length->(∀ u∈dW w v k,dq u)/\jY (dW w v k)<=jY w/\(dW w v k≠w->jY (dW w v k)<jY w)
 |0,_=>⟨M,bE _,fun h=>absurd rfl h⟩
 |k+1,hk=>by
  obtain⟨h1,h2,h3⟩:=HP (v:=v) M k oG;have hl:k<(dW w v k).length:=by simp;omega
  have hx:(dW w v k)[k]? =some (dW w v k)[k]:=aL hl;have hg:(dW w v k).getD k 0=(dW w v k)[k]:=by simp[bD,hx]
  have hm:=h1 _ (bR hl);simp only[dW,hg];generalize (dW w v k)[k]=a at hx hm;obtain⟨C,X⟩:=G4 (b:=v.getD k 0) hm;generalize mg a (v.getD k 0)=y at C X;have hs:=Rz (y:=y) hx;unfold dq at C hm;refine⟨fun u U=>?_,oG,fun J=>?_⟩
  .rcases List.mem_or_eq_of_mem_set U with h|h
   .exact h1 u h
   .subst h;exact C
  .by_cases e:y=a
   .subst e;have:(dW w v k).set k y=dW w v k:=RA hx;rw[this] at J ⊢;exact h3 J
   .omega
theorem RB{l:List (List Int)}{k:Nat}{w v:List Int}(h:l[k]? =some w):((l.set k v).map jY).sum+jY w=(l.map jY).sum+jY v:=by
 rw[List.map_set];exact Ip (by simp[h])
theorem count_set{l:List Bool}{k:Nat}{b:Bool}(h:l[k]? =some b):(l.set k true).count false+(if b=true then 0 else 1)=l.count false:=by
 induction l generalizing k with
 |nil=>simp at h
 |cons a l ih=>cases k with
  |zero=>simp at h;subst h;cases a<;>simp
  |succ k=>have:=ih (k:=k) (by simpa using h);simp only[List.set_cons_succ,List.count_cons];omega
theorem zw{x:End}{w:List Int}{s:CS}{n:Nat}{t:Int}(X:eB n s)(ht:0<=t/\t<n):eB n (bY x w s t)/\kQ (bY x w s t)<=kQ s:=by
 obtain⟨lw,lr,gV,rg⟩:=X;obtain⟨k,rfl⟩:=eC ht.1;have hk:k<n:=by omega
 have hx:s.ws[k]? =some s.ws[k]:=aL oG;have hb:s.re[k]? =some s.re[k]:=aL oG;have U:s.ws.getD k []=s.ws[k]:=by simp[bD,hx]
 have M:s.re.getD k false=s.re[k]:=by simp[bD,hb]
 have hm:s.ws[k]∈s.ws:=bR _;unfold bY;simp only[dg,U,M];generalize s.ws[k]=v at hx hm;generalize s.re[k]=b at hb;have v20:=gV v hm;obtain⟨C,J,m3⟩:=HP (v:=eW x k w) (rg v hm) 20 oG;have hl:=G5 v (eW x k w)
 change (∀ u∈fB v (eW x k w),dq u) at C
 change jY (fB v (eW x k w))<=jY v at J
 change fB v (eW x k w)≠v->jY (fB v (eW x k w))<jY v at m3
 generalize fB v (eW x k w)=u at C J m3 hl;split
 .rename_i hc;refine⟨⟨by simp[lw],by simp[lr],Df gV oG,fun y hy=>?_⟩,?_⟩
  .rcases List.mem_or_eq_of_mem_set hy with h|h
   .exact rg y h
   .subst h;exact C
  .have h1:=RB (v:=u) hx;have h2:=count_set hb;unfold kQ mL;simp only[if_true];rcases hc with hc|hc
   .subst hc;simp only[Bool.false_eq_true,if_false] at h2;omega
   .have:=m3 hc;omega
 .exact⟨⟨lw,lr,gV,rg⟩,bE _⟩
theorem zI{α β:Type}{f:β->α->β}{J:β->Prop}{φ:β->Nat}{l:List α}(h:∀ x∈l,∀ s,J s->J (f s x)/\φ (f s x)<=φ s){s:β}(C:J s):J (l.foldl f s)/\φ (l.foldl f s)<=φ s:=by
 induction l generalizing s with
 |nil=>exact⟨C,bE _⟩
 |cons x l ih=>
  obtain⟨h1,h2⟩:=h x oS s C;obtain⟨h3,h4⟩:=ih (fun y hy=>h y (by simp[hy])) h1;exact⟨h3,Nat.le_trans h4 h2⟩
theorem rM(x:End):(nextR x).length<=x.az.length+3:=by
 have h1:=Dd (d:=eA (cx x)) (eA (cx x)).length;have h2:=Dc x;rw[Ci] at h1;exact Nat.le_trans (by simpa[nextR,uV,iq] using h1) h2
structure oe(n:Nat)(b:bu):Prop where
 len:b.ins.length<=100000
 ins:∀ x∈b.ins,lX x
 fin:vo b.fin
 rl:∀ x∈b.ins,(bW x).length<=100000
 rf:(bU b.fin).length<=100000
 to:∀ t∈nextR b.fin,0<=t/\t<n
theorem CF{bs:List bu}{s:CS}{n k:Nat}(hb:∀ b∈bs,oe n b)(C:eB n s):eB n (cZ bs s k)/\kQ (cZ bs s k)<=kQ s:=by
 unfold cZ;split
 .exact⟨C,bE _⟩
 .rename_i x hx;split
  .exact zI (J:=eB n) (φ:=kQ) (fun t ht s C=>zw C ((hb x (cg hx)).to t ht)) C
  .exact⟨C,bE _⟩
theorem wC{bs:List bu}{s:CS}{n:Nat}(hb:∀ b∈bs,oe n b)(C:eB n s):eB n (gX bs s)/\kQ (gX bs s)<=mL s:=by
 have:=zI (J:=eB n) (φ:=kQ) (f:=cZ bs) (l:=List.range bs.length) (fun k _ s C=>CF hb C) (s:=⟨s.ws,s.re,false⟩) ⟨C.lw,C.lr,C.gV,C.rg⟩;exact this
def fK(bs:List bu)(args:Nat):CS:=jE bs (mL (gY bs.length args)+1) (gY bs.length args)
theorem getD_some{α:Type}{l:List α}{k:Nat}{x d:α}(h:l[k]? =some x):l.getD k d=x:=by simp[bD,h]
theorem Dh{α:Type}{n k:Nat}{x y:α}(hk:k<n):(List.replicate k x++List.replicate (n - k) y).set k x=List.replicate (k+1) x++List.replicate (n - (k+1)) y:=by
 rw[show n - k=n - (k+1)+1 by omega,List.replicate_succ,List.replicate_succ',List.append_assoc,List.singleton_append];rw[List.set_append];simp
theorem RC{α:Type}{a b:Nat}{x y z:α}(h:z∈List.replicate a x++List.replicate b y):z=x\/z=y:=by
 rcases List.mem_append.1 h with h|h
 .exact .inl (List.eq_of_mem_replicate h)
 .exact .inr (List.eq_of_mem_replicate h)
theorem OY{x:End}{w v:List Int}{s:CS}{k:Nat}{b:Bool}(hx:s.ws[k]? =some v)(hb:s.re[k]? =some b)(h:b=false\/fB v (eW x k w)≠v):bY x w s k=⟨s.ws.set k (fB v (eW x k w)),s.re.set k true,true⟩:=by
 unfold bY;rw[dg,getD_some hx,getD_some hb,if_pos h]
theorem Pf{x:End}{w v:List Int}{s:CS}{k:Nat}{b:Bool}(hx:s.ws[k]? =some v)(hb:s.re[k]? =some b)(h:¬ (b=false\/fB v (eW x k w)≠v)):bY x w s k=s:=by
 unfold bY;rw[dg,getD_some hx,getD_some hb,if_neg h]
theorem BZ{n args:Nat}(ha:∀ u∈fU args,dq u):eB n (gY n args):=by
 refine⟨by simp[gY],by simp[gY],Df (fun w J=>by rw[List.eq_of_mem_replicate J];simp) oS,fun w J u C=>?_⟩;rcases List.mem_or_eq_of_mem_set J with h|h
 .rw[List.eq_of_mem_replicate h] at C;rw[List.eq_of_mem_replicate C];simp[dq,iE]
 .rw[h] at C;exact ha u C
end Go.Argus
namespace Go.Proofs.Tryz.K
set_option maxRecDepth 10000
set_option maxHeartbeats 2000000 in
theorem vF{p q:D}{f:aA}{n args:Nat}(hp:Tr p)(hq:Tr q)(eK:p.one=true)(eL:q.one=true)(hn:f.blocks.length=n)(mE:0<n)(lB:n<=100000)(ha:f.args=args)(oQ:args<=1000)(wi:∀ u∈fU args,dq u)(hb:∀ b∈f.blocks,oe n b):
 PCall prog 197 [.agg (aZ p q f)] (.tup [.sl (b8 (fK f.blocks args).ws) n,.sl ((fK f.blocks args).re.map B) n]):=by
 have aT:∀ a∈[D.agg (aZ p q f)],Tr a:=.cons (jK hp hq f) .nil;refine a7 Lc aT (.tup (.cons (.sl (Tz _)) (.cons (.sl (.map fun _=>.s _)) .nil))) ?_;rw[UX];refine au ?_;refine ap ?_;refine ab (aJ (bj [(0,aZ p q f,133)] eH (l:=[(1,.pt (aZ p q f))]) eH) (mR Qp ?_));refine aN ?_;refine fW (zP rfl rfl V.h V.h) ak ⟨oG,rfl,oG,by rw[Mw];omega,V.h⟩ ?_;refine dF ?_;have du:((f.blocks.length:Nat):Int).toNat=n:=hn;refine bf bg (aJ (aH (l:=[(1,.pt (aZ p q f)),(4,.rs 1 0 n),(5,.rs 2 0 n)]) (ml:=[(1,.cells (b8 (List.replicate n (List.replicate 20 0))) 231),(2,.cells ((List.replicate n false).map B) 4)]) ⟨rfl,?_,?_,trivial⟩ ⟨?_,?_,trivial⟩) (aB (au ?_)))
 .exact congrArg (fun k=>D.rs 1 0 k) du
 .exact congrArg (fun k=>D.rs 2 0 k) du
 .exact congrArg (fun c=>some (Row.cells c 231)) ((congrArg (fun k=>replD k ((List.replicate 20 (0:Int)).map cm)) du).trans (Rx n (List.replicate 20 0)))
 .exact congrArg (fun c=>some (Row.cells c 4)) ((congrArg (fun k=>replD k [B false]) du).trans (qu n false))
 refine ap ?_
 refine ab (bZ (fun s=>Ghost prog s ⟨ax [(1,.pt (aZ p q f)),(4,.rs 1 0 n),(5,.rs 2 0 n)],bc [(1,.cells (b8 (List.replicate n (List.replicate 20 iE))) 231),(2,.cells ((List.replicate n false).map B) 4)],3⟩) (eN (α:=Nat)
  (fun k=>⟨ax [(1,.pt (aZ p q f)),(4,.rs 1 0 n),(5,.rs 2 0 n),(27,I n),(28,I k)],bc [(1,.cells (b8 (List.replicate k (List.replicate 20 iE)++List.replicate (n - k) (List.replicate 20 0))) 231),(2,.cells ((List.replicate n false).map B) 4)],3⟩)
  (fun k=>k<=n) (fun k=>n - k) 0 (aH eH eH) oG ?_) ?_)
 .intro k hk;refine SS ?_;refine ab ⟨_,rfl,fun h=>?_,fun h=>?_⟩
  .have al:k<n:=by simpa using h
   have pZ:=Dh (x:=List.replicate 20 iE) (y:=List.replicate 20 (0:Int)) al
   have hi:(List.replicate k (List.replicate 20 iE)++List.replicate (n - k) (List.replicate 20 (0:Int)))[k]? =some (List.replicate 20 0):=by
    rw[List.getElem?_append_right oS,List.length_replicate,Nat.sub_self,show n - k=n - (k+1)+1 by omega,List.replicate_succ];rfl
   have wj:∀ w∈List.replicate k (List.replicate 20 iE)++List.replicate (n - k) (List.replicate 20 (0:Int)),w.length=20:=fun w X=>by
    rcases RC X with h|h<;>(rw[h];simp)
   have EB:PCall prog 241 [] (fm (List.replicate 20 iE)):=EB;refine ws ?_;refine af ?_;refine ab (fJ ?_);refine af ?_;refine cl EB ?_;refine af ?_;refine ab ?_;refine af ?_;refine ab (aP (k+1) (aH eH ⟨?_,rfl,trivial⟩) oG oG);rw[<- pZ];rfl
  .have a9:¬ k<n:=by simpa using h
   have:k=n:=by omega
   subst this;refine aH eH ⟨?_,rfl,trivial⟩;show some (Row.cells (b8 (_++List.replicate (k - k) _)) _)=_;rw[Nat.sub_self,List.replicate_zero,List.append_nil]
 rintro s hg;refine⟨_,hg,au ?_⟩;have hi:(List.replicate n (List.replicate 20 iE))[0]? =some (List.replicate 20 iE):=by simp[mE]
 have wj:∀ w∈List.replicate n (List.replicate 20 iE),w.length=20:=fun w X=>by rw[List.eq_of_mem_replicate X];simp
 refine af ?_;refine aD (Ry Yy rfl UT) ak ⟨V.h,V.h⟩ ?_;refine aN ?_;refine ab (aJ (aH (l:=[(1,.pt (aZ p q f)),(4,.rs 1 0 n),(5,.rs 2 0 n)]) (ml:=[(1,.cells (b8 ((List.replicate n (List.replicate 20 iE)).set 0 (fU 0))) 231),(2,.cells (((List.replicate n false).set 0 true).map B) 4)]) eH ⟨rfl,?_,trivial⟩) (aB (au ?_)))
 .rw[List.map_set];rfl
 clear hi;refine aN ?_
 refine ab (bZ (fun s=>Ghost prog s ⟨ax [(1,.pt (aZ p q f)),(4,.rs 1 0 n),(5,.rs 2 0 n)],bc [(1,.cells (b8 ((List.replicate n (List.replicate 20 iE)).set 0 (fU args))) 231),(2,.cells (((List.replicate n false).set 0 true).map B) 4)],3⟩) (eN (α:=Nat)
  (fun k=>⟨ax [(1,.pt (aZ p q f)),(4,.rs 1 0 n),(5,.rs 2 0 n),(43,I args),(44,I k)],bc [(1,.cells (b8 ((List.replicate n (List.replicate 20 iE)).set 0 (fU k))) 231),(2,.cells (((List.replicate n false).set 0 true).map B) 4)],3⟩)
  (fun k=>k<=args) (fun k=>args - k) 0 (aH ⟨rfl,rfl,rfl,congrArg I ha,rfl,trivial⟩ eH) oG ?_) ?_)
 .intro k hk;refine SS ?_;refine ab ⟨_,rfl,fun h=>?_,fun h=>?_⟩
  .have al:k<args:=by simpa using h
   have hi:((List.replicate n (List.replicate 20 iE)).set 0 (fU k))[0]? =some (fU k):=by simp[mE]
   have wj:=Df (i:=0) wj (G3 k);have nw:=nw (w:=fU k) (n:=(k:Int)) oS oG;refine ws ?_;refine af ?_;refine ab (fJ ?_);refine ap ?_;refine aD (dQ rfl rfl V.h V.h (AG oN oN)) ak (dR V.h V.h (tE oN oN)) ?_;refine SS ?_;refine cl nw ?_;refine af ?_;refine ab ?_;refine af ?_;refine ab (aP (k+1) (aH eH ⟨?_,rfl,trivial⟩) oG oG);show some (Row.cells (b8 ((List.set _ 0 (fU k)).set 0 (fU (k+1)))) _)=_;rw[List.set_set]
  .have a9:¬ k<args:=by simpa using h
   have:k=args:=by omega
   subst this;exact ao eH
 clear wj;rintro s hg;refine⟨_,hg,aB (au ?_)⟩;refine SS ?_;have hi0:=BZ (n:=n) wi;have hR:fK f.blocks args=jE f.blocks (mL (gY n args)+1) (gY n args):=by rw[fK,hn]
 generalize fK f.blocks args=R at hR ⊢
 refine ab (bZ (fun s=>∃ n',Ghost prog s ⟨ax [(4,.rs 1 0 n),(5,.rs 2 0 n)],bc [(1,.cells (b8 R.ws) 231),(2,.cells (R.re.map B) 4)],n'⟩/\eB n R) (z9 (α:=CS×Nat)
  (fun s=>⟨ax [(1,.pt (aZ p q f)),(4,.rs 1 0 n),(5,.rs 2 0 n),(8,B s.1.ch)],bc [(1,.cells (b8 s.1.ws) 231),(2,.cells (s.1.re.map B) 4)],s.2⟩)
  (fun s=>eB n s.1/\3<=s.2/\(s.1.ch=true->∃ k,mL s.1<k/\jE f.blocks k s.1=R)/\(s.1.ch=false->s.1=R)) (fun s=>2*mL s.1+if s.1.ch=true then 1 else 0) (gY n args,3)
  (aH eH eH) ⟨hi0,bE _,fun _=>⟨_,Nat.lt_succ_self _,hR.symm⟩,fun h=>by cases h⟩ ?_) ?_)
 .rintro⟨C,N0⟩ ⟨tP,j5,y7,yp⟩;dsimp only at tP j5 y7 yp ⊢;refine SS ?_;refine ab ⟨_,rfl,fun h0=>?_,fun h=>?_⟩
  .obtain⟨gj,UY,xW⟩:=y7 h0;obtain⟨gj,rfl⟩:∃ j,gj=j+1:=⟨gj - 1,oG⟩
   have xX:=wC hb tP;refine ws ?_;refine SS ?_;refine ab (au ?_);refine aR ?_
   refine ab (eN (α:=Nat×Nat)
    (fun k=>⟨ax [(1,.pt (aZ p q f)),(4,.rs 1 0 n),(5,.rs 2 0 n),(8,B ((List.range k.1).foldl (cZ f.blocks) ⟨C.ws,C.re,false⟩).ch),(58,ew f.blocks),(59,I n),(60,I k.1)],bc [(1,.cells (b8 ((List.range k.1).foldl (cZ f.blocks) ⟨C.ws,C.re,false⟩).ws) 231),(2,.cells (((List.range k.1).foldl (cZ f.blocks) ⟨C.ws,C.re,false⟩).re.map B) 4)],k.2⟩)
    (fun k=>k.1<=n/\3<=k.2) (fun k=>n - k.1) (0,N0) (aH ⟨rfl,rfl,rfl,rfl,rfl,congrArg (fun k:Nat=>I k) hn,rfl,trivial⟩ eH) ⟨Nat.zero_le _,j5⟩ ?_)
   rintro⟨k,N⟩ ⟨hk,hN⟩;dsimp only at hk hN ⊢;have bS:=(zI (J:=eB n) (φ:=kQ) (f:=cZ f.blocks) (l:=List.range k) (fun k _ s hs=>CF hb hs) (s:=⟨C.ws,C.re,false⟩) ⟨tP.lw,tP.lr,tP.gV,tP.rg⟩).1;have bL:(List.range (k+1)).foldl (cZ f.blocks) ⟨C.ws,C.re,false⟩=cZ f.blocks ((List.range k).foldl (cZ f.blocks) ⟨C.ws,C.re,false⟩) k:=by rw[List.range_succ,List.foldl_append];rfl
   have fC:k=n->(List.range k).foldl (cZ f.blocks) ⟨C.ws,C.re,false⟩=gX f.blocks C:=fun e=>by rw[e,gX,hn]
   generalize (List.range k).foldl (cZ f.blocks) ⟨C.ws,C.re,false⟩=u at bS bL fC;refine SS ?_;refine ab ⟨_,rfl,fun h=>?_,fun h=>?_⟩
   .have al:k<n:=by simpa using h
    have hx:f.blocks[k]? =some f.blocks[k]:=aL oG;have bT:f.blocks[k]∈f.blocks:=bR _;generalize f.blocks[k]=x at hx bT;have gk:=hb x bT;have M:cZ f.blocks u k=if u.re.getD k false=true then(nextR x.fin).foldl (bY x.fin (gm x (u.ws.getD k [])).1) u else u:=by rw[cZ,hx]
    have lw:=bS.lw;have lr:=bS.lr;have gV:=bS.gV;have X:u.ws[k]? =some u.ws[k]:=aL oG;have ij:u.re[k]? =some u.re[k]:=aL oG;rw[getD_some X,getD_some ij] at M;have jA:=gV _ (bR (h:=by omega):u.ws[k]∈u.ws);generalize u.ws[k]=w at X M jA;generalize u.re[k]=b at ij M;have kd:=fZ (f:=B) ij;refine ws ?_;refine bF ?_;refine ab (aB (aj ?_));refine af ?_;refine aD (kY rfl rfl (aw oG (aw oG rfl)) V.h V.h) ak ⟨V.h,oG⟩ ?_;refine aD (gd rfl (aw oG (aw oG rfl)) kd V.h) ak (gf V.h V.h kd) ?_;refine SS ?_;refine ab (cy rfl (fun h=>nO (tu ?_)) fun h=>cu (mR Pg ?_))
    .have FF:b=false:=by simpa using h
     subst FF;have M:cZ f.blocks u k=u:=M;refine af ?_;refine ab (aP (k+1,N+1) (aH ⟨rfl,rfl,rfl,?_,rfl,rfl,rfl,trivial⟩ ⟨?_,?_,trivial⟩) ⟨oM,oM⟩ oM)
     .dsimp only;rw[bL,M];rfl
     .dsimp only;rw[bL,M];exact aw oG (aw oG rfl)
     .dsimp only;rw[bL,M];exact aw oG (aw oG rfl)
    have wk:b=true:=by simpa using h
    subst wk;have M:cZ f.blocks u k=(nextR x.fin).foldl (bY x.fin (gm x w).1) u:=M;have kH:=kH jA gk.len gk.ins gk.fin gk.rl gk.rf;have qS:=BV x w;rw[jA] at qS;generalize y6:gm x w=th at kH qS M;obtain⟨w',FE⟩:=th;dsimp only at qS kH M;clear kd;refine aD (dQ (vs:=dS _) rfl (up_same _ _ _) V.h V.h rfl) ak (dR V.h V.h (by first|(simp;done)|omega|exact bn rfl)) ?_;refine af ?_;refine aD (wU rfl rfl (aw oG (aw oG (up_same _ _ _))) V.h V.h) ak ⟨V.h,oG⟩ ?_;refine aD (dQ rfl (aw oG (aw oG (up_same _ _ _))) V.h V.h (AG oN oN)) ak (dR V.h V.h (tE oN oN)) ?_;refine cl kH ?_;refine bF ?_;refine bf bg (aJ (ki (l:=[(1,.pt (aZ p q f)),(4,.rs 1 0 n),(5,.rs 2 0 n),(8,B u.ch),(10,.rp N 0),(11,.rp (N+1) 0),(58,ew f.blocks),(59,I n),(60,I k)]) (m':=up (up (bc [(1,.cells (b8 u.ws) 231),(2,.cells (u.re.map B) 4)]) N (some (.cells (dS x) 72))) (N+1) (some (.cells (w'.map cm) 231))) eH (by rw[lj,lj])) (au ?_));have qQ:=qQ (x:=x.fin);have qR:=JP (x:=x.fin) gk.fin.wh
    change PCall _ _ _ (aC (nextR x.fin)) at qR
    have cB:=gk.to;have gF:=rM x.fin;have By:=gk.fin.wh;generalize nextR x.fin=l at qR M cB gF;refine aD (rO rfl (aw oG (up_same _ _ _)) V.h) ak (pO V.h) ?_;refine aD (dQ (vs:=aW _) rfl (aw oG (up_same _ _ _)) V.h V.h rfl) ak (dR V.h V.h (by first|(simp;done)|omega|exact bn rfl)) ?_;refine cl qQ ?_;refine cl qR ?_;refine af ?_;have p0:cZ f.blocks u k=l.foldl (bY x.fin w') u:=M
    refine ab (eN (α:=Nat×Nat)
     (fun j=>⟨ax [(1,.pt (aZ p q f)),(4,.rs 1 0 n),(5,.rs 2 0 n),(8,B ((l.take j.1).foldl (bY x.fin w') u).ch),(10,.rp N 0),(11,.rp (N+1) 0),(58,ew f.blocks),(59,I n),(60,I k),(82,aC l),(83,I l.length),(84,I j.1)],up (up (bc [(1,.cells (b8 ((l.take j.1).foldl (bY x.fin w') u).ws) 231),(2,.cells (((l.take j.1).foldl (bY x.fin w') u).re.map B) 4)]) N (some (.cells (dS x) 72))) (N+1) (some (.cells (w'.map cm) 231)),j.2⟩)
     (fun j=>j.1<=l.length/\N+2<=j.2) (fun j=>l.length - j.1) (0,N+2) (ki eH rfl) ⟨Nat.zero_le _,bE _⟩ ?_)
    rintro⟨j,N'⟩ ⟨hj,Bz⟩;dsimp only at hj Bz ⊢;have BA:=(zI (J:=eB n) (φ:=kQ) (f:=bY x.fin w') (l:=l.take j) (fun t ht s hs=>zw hs (cB t (List.mem_of_mem_take ht))) bS).1;have U:∀ t,l[j]? =some t->(l.take (j+1)).foldl (bY x.fin w') u=bY x.fin w' ((l.take j).foldl (bY x.fin w') u) t:=fun t ht=>lL ht;have lk:j=l.length->(l.take j).foldl (bY x.fin w') u=cZ f.blocks u k:=fun e=>by rw[p0,cL oG]
    generalize (l.take j).foldl (bY x.fin w') u=v at BA U lk;clear lw lr gV X ij;have lw:=BA.lw;have lr:=BA.lr;have gV:=BA.gV;refine SS ?_;refine ab ⟨_,rfl,fun h=>?_,fun h=>?_⟩
    .have cI:j<l.length:=by simpa using h
     have ht:l[j]? =some l[j]:=aL cI;have kS:=cB _ (bR cI);generalize l[j]=t at ht kS;obtain⟨i,rfl⟩:=eC kS.1;have bB:i<n:=by omega
     have X:v.ws[i]? =some v.ws[i]:=aL oG;have ij:v.re[i]? =some v.re[i]:=aL oG;have FG:=gV _ (bR (h:=by omega):v.ws[i]∈v.ws);generalize v.ws[i]=y at X FG;generalize v.re[i]=b at ij;have kd:=fZ (f:=B) ij;have so:=so (x:=x.fin) (b:=(i:Int)) (w:=w') qS (by have:=gk.fin.wh;omega) (by have:=gk.fin.wr;omega);have sR:=GZ x.fin i w';rw[qS] at sR;have AV:=AV FG sR;have qX:=G5 y (eW x.fin i w');rw[FG] at qX;have yes:=OY (x:=x.fin) (w:=w') X ij;have no:=Pf (x:=x.fin) (w:=w') X ij;generalize fB y (eW x.fin i w')=z at AV qX yes no;refine ws ?_;refine ap ?_;refine ab (mR Ph ?_);refine af ?_;refine aD (wU rfl rfl (aw oG (aw oG (up_same _ _ _))) V.h V.h) ak ⟨V.h,oG⟩ ?_;refine aD (dQ rfl (aw oG (aw oG (up_same _ _ _))) V.h V.h (AG oN oN)) ak (dR V.h V.h (tE oN oN)) ?_;refine aD (rO rfl (aw oG (up_same _ _ _)) V.h) ak (pO V.h) ?_;refine aD (dQ (vs:=aW _) rfl (aw oG (up_same _ _ _)) V.h V.h rfl) ak (dR V.h V.h (by first|(simp;done)|omega|exact bn rfl)) ?_;refine SS ?_;refine aD (dQ rfl (up_same _ _ _) V.h V.h (jT (by first|rfl|exact bn rfl|(simp;done)|(simp;omega)|omega))) ak (dR V.h V.h (by first|rfl|exact bn rfl|(simp;done)|(simp;omega)|omega)) ?_;refine cl so ?_;refine cl AV ?_;refine af ?_;refine bf bg (aJ (ki (l:=[(1,.pt (aZ p q f)),(4,.rs 1 0 n),(5,.rs 2 0 n),(8,B v.ch),(10,.rp N 0),(11,.rp (N+1) 0),(14,I i),(15,.rp N' 0),(58,ew f.blocks),(59,I n),(60,I k),(82,aC l),(83,I l.length),(84,I j)]) (m':=up (up (up (bc [(1,.cells (b8 v.ws) 231),(2,.cells (v.re.map B) 4)]) N (some (.cells (dS x) 72))) (N+1) (some (.cells (w'.map cm) 231))) N' (some (.cells (z.map cm) 231))) eH (lj _ _ _ _)) (dz Pj ?_));refine af ?_;refine aD (kY rfl rfl (aw oG (aw oG (aw oG rfl))) V.h V.h) ak ⟨V.h,oG⟩ ?_;refine aD (gd rfl (aw oG (aw oG (aw oG rfl))) kd V.h) ak (gf V.h V.h kd) ?_;refine af ?_;refine bl rfl rfl (dQ rfl (up_same _ _ _) V.h V.h (jT (by first|rfl|exact bn rfl|(simp;done)|(simp;omega)|omega))) (fun hc=>⟨ak,(dR V.h V.h (by first|rfl|exact bn rfl|(simp;done)|(simp;omega)|omega))⟩) ?_;refine af ?_;refine bl rfl rfl (wU rfl rfl (aw oG (aw oG (aw oG (up_same _ _ _)))) V.h V.h) (fun hc=>⟨ak,⟨V.h,oG⟩⟩) ?_;refine bl rfl rfl (dQ rfl (aw oG (aw oG (aw oG (up_same _ _ _)))) V.h V.h (AG oN oN)) (fun hc=>⟨ak,(dR V.h V.h (tE oN oN))⟩) ?_;refine bl rfl rfl (UU rfl rfl (by first|assumption|(simp;omega)|omega)) (fun hc=>⟨ak,(UW (by first|assumption|(simp;omega)|omega))⟩) ?_;refine SS ?_;refine bf bg (an rfl (fun h=>?_) fun h=>?_)
     .have yes:=yes (by
       cases b with
       |false=>exact .inl rfl
       |true=>exact .inr (by simpa using h))
      have U:=(U _ ht).trans yes;clear yes no;refine fJ ?_;refine aN ?_;refine aD (dQ rfl (up_same _ _ _) V.h V.h (jT (by first|rfl|exact bn rfl|(simp;done)|(simp;omega)|omega))) ak (dR V.h V.h (by first|rfl|exact bn rfl|(simp;done)|(simp;omega)|omega)) ?_;refine aD (wU rfl rfl (aw oG (aw oG (aw oG (up_same _ _ _)))) V.h V.h) ak ⟨V.h,oG⟩ ?_;refine cE (fR rfl rfl (aw oG (aw oG (aw oG (up_same _ _ _)))) (KL oC oN oN (by first|assumption|(simp;omega)|(simp;done)))) ak (wN (by first|(simp;omega)|(simp;done)) (tE oN oN) (iZ _)) ?_;refine aD (kY rfl rfl (aw oG (aw oG (aw oG (aw oG rfl)))) V.h V.h) ak ⟨V.h,oG⟩ ?_;refine cE (gl (d:=.s (.bool _)) (cs':=_) rfl rfl (aw oG (aw oG (aw oG (aw oG rfl)))) rfl rfl) ak (dx V.h V.h (by first|(simp;done)|exact⟨rfl,bn rfl⟩|(simp;omega)) rfl) ?_;refine SS ?_;refine ab ?_;refine af ?_
      refine ab (aP (j+1,N'+1) (aH (ml:=[(N+1,.cells (w'.map cm) 231),(N,.cells (dS x) 72),(1,.cells (b8 ((l.take (j+1)).foldl (bY x.fin w') u).ws) 231),(2,.cells (((l.take (j+1)).foldl (bY x.fin w') u).re.map B) 4)]) ⟨rfl,rfl,rfl,?_,rfl,rfl,rfl,rfl,rfl,rfl,rfl,rfl,trivial⟩
       ⟨aw oG (aw oG (aw oG (up_same _ _ _))),aw oG (aw oG (aw oG (aw oG (up_same _ _ _)))),aw oG ?_,?_,trivial⟩) ⟨oM,oM⟩ oM)
      .dsimp only;rw[U];rfl
      .rw[U];exact up_same _ _ _
      .rw[U];dsimp only;rw[List.map_set];exact up_same _ _ _
     .have no:=no (by
       cases b with
       |false=>simp at h
       |true=>simpa using h)
      have U:=(U _ ht).trans no;refine cD ?_;refine af ?_
      refine ab (aP (j+1,N'+1) (aH (ml:=[(N+1,.cells (w'.map cm) 231),(N,.cells (dS x) 72),(1,.cells (b8 ((l.take (j+1)).foldl (bY x.fin w') u).ws) 231),(2,.cells (((l.take (j+1)).foldl (bY x.fin w') u).re.map B) 4)]) ⟨rfl,rfl,rfl,?_,rfl,rfl,rfl,rfl,rfl,rfl,rfl,rfl,trivial⟩
       ⟨aw oG (up_same _ _ _),aw oG (aw oG (up_same _ _ _)),?_,?_,trivial⟩) ⟨oM,oM⟩ oM)
      .dsimp only;rw[U];rfl
      .rw[U];exact aw oG (aw oG (aw oG rfl))
      .rw[U];exact aw oG (aw oG (aw oG rfl))
    .have a9:¬ j<l.length:=by simpa using h
     have vl:=lk oG;subst vl;show AOps _ _ _ _ _ _ _ _ _;refine af ?_;refine ab (aP (k+1,N') (aH ⟨rfl,rfl,rfl,?_,rfl,rfl,rfl,trivial⟩ ⟨?_,?_,trivial⟩) ⟨oM,oM⟩ oM)
     .dsimp only;rw[bL];rfl
     .dsimp only;rw[bL];exact aw oG (aw oG rfl)
     .dsimp only;rw[bL];exact aw oG (aw oG rfl)
   .have a9:¬ k<n:=by simpa using h
    have hl:=fC oG;subst hl;refine aP (gX f.blocks C,N) (aH eH eH) ⟨bS,hN,fun hc=>?_,fun hc=>?_⟩ ?_
    .refine⟨gj,?_,?_⟩
     .have:=xX.2;unfold kQ at this;show mL (gX f.blocks C)<gj;rw[if_pos hc] at this;omega
     .dsimp only at hc ⊢;rw[<- xW,jE,if_pos hc]
    .dsimp only at hc ⊢;rw[<- xW,jE,if_neg (by simp[hc])]
    .have:=xX.2;unfold kQ at this;dsimp only;rw[if_pos h0];split at this<;>rename_i hc
     .rw[if_pos hc];omega
     .rw[if_neg hc];omega
  .have FH:=yp h;subst FH;exact⟨N0,aH eH eH,tP⟩
 .rintro s ⟨n',hg,EJ⟩;refine⟨_,hg,au ?_⟩;refine aN ?_;refine ab (aJ (bj [(1,b8 R.ws,231),(2,R.re.map B,4)] ⟨rfl,Dg oG rfl .map,trivial⟩ (l:=[(2,.sl (b8 R.ws) n),(3,.sl (R.re.map B) n)]) ⟨?_,?_,trivial⟩) (lT rfl rfl rfl))
  .show sub (fz0 2 (R.re.map B) (prog.cellsOf 4)) (sub (fz0 1 (b8 R.ws) (prog.cellsOf 231)) (D.rs 1 0 n))=_;rw[lM (by rw[oz,Cj EJ.gV,EJ.lw]),TA]
  .show sub (fz0 2 (R.re.map B) (prog.cellsOf 4)) (sub (fz0 1 (b8 R.ws) (prog.cellsOf 231)) (D.rs 2 0 n))=_;rw[s5 oG,lM (by rw[c4,List.length_map,EJ.lr,Nat.mul_one])]
end Go.Proofs.Tryz.K
namespace Go.Abs
def jc(r:Nat)(l:List D):D:=match l with
 |[]=>.z
 |_=>.rs r 0 l.length
theorem nq{r:Nat}{l:List D}(h:l≠[]):jc r l=.rs r 0 l.length:=by cases l with
 |nil=>exact absurd rfl h
 |cons=>rfl
def kI(ρ:Nat->Nat)(L:Nat->List D)(n:Nat):List D:=(List.range n).map fun i=>jc (ρ i) (L i)
@[simp] theorem abT (ρ : Nat -> Nat) (L : Nat -> List D) (n : Nat) : (kI ρ L n).length = n := by simp [kI]
theorem CG{ρ:Nat->Nat}{L:Nat->List D}{n i:Nat}(hi:i<n):∃ cs,(kI ρ L n).drop i=jc (ρ i) (L i)::cs:=
 ⟨_,fZ (f:=fun i=>jc (ρ i) (L i)) (by simp[hi])⟩
theorem G6{α:Type}{F:Nat->α}{n i:Nat}{x:α}:((List.range n).map F).set i x=(List.range n).map (up F i x):=by
 apply List.ext_getElem?;intro k;rw[List.getElem?_set];simp only[List.length_map,List.length_range,List.getElem?_map];split
 .rename_i e;subst e;split
  .rename_i h;simp[h,up_same]
  .rename_i h;simp[h]
 .rename_i e;by_cases hk:k<n
  .simp[hk,up_ne F x (Ne.symm e)]
  .simp[hk]
theorem SE{ρ:Nat->Nat}{L:Nat->List D}{n i r:Nat}{l:List D}(hl:l≠[]):(kI ρ L n).set i (.rs r 0 l.length)=kI (up ρ i r) (up L i l) n:=by
 unfold kI;rw[G6];refine congrArg (fun F=>(List.range n).map F) (funext fun k=>?_);simp only[up];split
 .rw[nq hl]
 .rfl
structure fh(m:Mem)(nx j n:Nat)(e et:TypeId)(ρ:Nat->Nat)(L:Nat->List D):Prop where
 row:m j=some (.cells (kI ρ L n) e)
 oX:j<nx
 qT:∀ i,i<n->L i≠[]->m (ρ i)=some (.cells (L i) et)
 lt:∀ i,i<n->L i≠[]->ρ i<nx
 ne:∀ i,i<n->L i≠[]->ρ i≠j
 inj:∀ i k,i<n->k<n->L i≠[]->L k≠[]->ρ i=ρ k->i=k
theorem fh.ext{m m':Mem}{nx nx' j n:Nat}{e et:TypeId}{ρ:Nat->Nat}{L:Nat->List D}(h:fh m nx j n e et ρ L)(hm:∀ q,q<nx->m' q=m q)(hn:nx<=nx'):fh m' nx' j n e et ρ L:=
 ⟨(hm j h.oX).trans h.row,Nat.lt_of_lt_of_le h.oX hn,fun i hi hl=>(hm _ (h.lt i hi hl)).trans (h.qT i hi hl),fun i hi hl=>Nat.lt_of_lt_of_le (h.lt i hi hl) hn,h.ne,h.inj⟩
theorem fh.wl{m m':Mem}{nx nx' j n i r:Nat}{e et:TypeId}{ρ:Nat->Nat}{L:Nat->List D}{l:List D}(h:fh m nx j n e et ρ L)(hi:i<n)(hl:l≠[])(hr:nx<=r)(gC:r<nx')
 (hj:m' j=some (.cells ((kI ρ L n).set i (.rs r 0 l.length)) e)) (av:m' r=some (.cells l et)) (hk:∀ q,q<nx->q≠j->(L i≠[]->q≠ρ i)->m' q=m q):fh m' nx' j n e et (up ρ i r) (up L i l):=by
 have cI:=h.oX
 have old:∀ k,k<n->k≠i->L k≠[]->m' (ρ k)=some (.cells (L k) et):=fun k M J C=>
  (hk _ (h.lt k M C) (h.ne k M C) fun yf e=>J (h.inj k i M hi C yf e)).trans (h.qT k M C)
 refine⟨by rw[hj,SE hl],oG,fun k M C=>?_,fun k M C=>?_,fun k M C=>?_,fun a b ha hb nJ wm X=>?_⟩
 .by_cases J:k=i
  .subst J;rw[up_same,up_same];exact av
  .rw[up_ne _ _ J] at C ⊢;rw[up_ne _ _ J];exact old k M J C
 .by_cases J:k=i
  .subst J;rw[up_same];exact gC
  .rw[up_ne _ _ J] at C ⊢;have:=h.lt k M C;omega
 .by_cases J:k=i
  .subst J;rw[up_same];omega
  .rw[up_ne _ _ J] at C ⊢;exact h.ne k M C
 .by_cases sS:a=i
  .by_cases U:b=i
   .omega
   .subst sS;rw[up_same,up_ne _ _ U] at X;rw[up_ne _ _ U] at wm;have:=h.lt b hb wm;omega
  .by_cases U:b=i
   .subst U;rw[up_same,up_ne _ _ sS] at X;rw[up_ne _ _ sS] at nJ;have:=h.lt a ha nJ;omega
   .rw[up_ne _ _ sS] at nJ X;rw[up_ne _ _ U] at wm X;exact h.inj a b ha hb nJ wm X
theorem CH{m:Mem}{nx j n:Nat}{e et:TypeId}{ρ:Nat->Nat}(hj:j<nx)(hm:m j=some (.cells (List.replicate n .z) e)):fh m nx j n e et ρ (fun _=>[]):=by
 refine⟨?_,hj,fun _ _ h=>absurd rfl h,fun _ _ h=>absurd rfl h,fun _ _ h=>absurd rfl h,fun _ _ _ _ h=>absurd rfl h⟩;rw[hm];congr 2;unfold kI jc;rw[List.map_const',List.length_range]
theorem Aa(n:Nat):replD n [.z]=List.replicate n D.z:=by
 unfold replD
 induction n with
 |zero=>rfl
 |succ n ih=>rw[List.replicate_succ,List.replicate_succ,List.flatten_cons,ih];rfl
def jm(X:Nat->Prop)(d:D):Prop:=∀ i cs sz,X i->sub (fz0 i cs sz) d=d
def jP(X:Nat->Prop)(r:Row):Prop:=∀ i cs sz,X i->Row.sub (fz0 i cs sz) r=r
theorem jm.s{X:Nat->Prop}(v:Value):jm X (.s v):=fun _ _ _ _=>rfl
theorem jm.sl{X:Nat->Prop}(es:List D)(n:Nat):jm X (.sl es n):=fun _ _ _ _=>rfl
theorem jm.z{X:Nat->Prop}:jm X .z:=fun _ _ _ _=>rfl
theorem jm.u{X:Nat->Prop}:jm X .u:=fun _ _ _ _=>rfl
theorem jm.rs{X:Nat->Prop}{j off n:Nat}(h:¬ X j):jm X (.rs j off n):=fun i cs sz hi=>s5 fun e=>h (e▸hi)
theorem jm.rp{X:Nat->Prop}{j off:Nat}(h:¬ X j):jm X (.rp j off):=fun i cs sz hi=>by
 show(if j=i then _ else D.rp j off)=_;exact if_neg fun(e:j=i)=>h (e▸hi)
theorem jP.cells{X:Nat->Prop}{cs:List D}{e:TypeId}(h:∀ d∈cs,jm X d):jP X (.cells cs e):=fun i C sz hi=>by
 show Row.cells (cs.map _) e=_;congr 1
 induction cs with
 |nil=>rfl
 |cons d cs ih=>rw[List.map_cons,h d oS i C sz hi,ih fun d hd=>h d (by simp[hd])]
theorem jP.Mx{X:Nat->Prop}{cs:List D}{e:TypeId}(h:sr cs):jP X (.cells cs e):=jP.cells fun d hd=>by obtain⟨v,rfl⟩:=h d hd;exact .s v
theorem Di(d:D):Wk d d:=fun _ _ _ _ h=>h
theorem Yz:Wk .z (.sl [] 0):=fun F β w v hv=>by
 obtain⟨x,rfl⟩:=hv.z_inv;exact .sln x 0
theorem Pk{X:Nat->Prop}{l:List (Nat×D)}(h:∀ x∈l,jm X x.2)(t:Nat):jm X (ax l t):=by
 induction l with
 |nil=>exact .u
 |cons x l ih=>
  obtain⟨k,d⟩:=x;simp only[ax];split
  .exact h (k,d) oS
  .exact ih fun y hy=>h y (by simp[hy])
theorem Pm{X:Nat->Prop}{l:List (Nat×Row)}(h:∀ x∈l,jP X x.2){q:Nat}{r:Row}(hq:bc l q=some r):jP X r:=by
 induction l with
 |nil=>simp[bc] at hq
 |cons x l ih=>
  obtain⟨k,d⟩:=x;simp only[bc] at hq;split at hq
  .cases hq;exact h (k,r) oS
  .exact ih (fun y hy=>h y (by simp[hy])) hq
theorem Qq{l:List (Nat×Row)}{q:Nat}(h:∀ x∈l,x.1≠q):bc l q=none:=by
 induction l with
 |nil=>rfl
 |cons x l ih=>
  obtain⟨k,d⟩:=x;simp only[bc];rw[if_neg fun e=>h (k,d) oS e.symm];exact ih fun y hy=>h y (by simp[hy])
section
variable{P:Program}
open Classical in
noncomputable def hZ(ml:List (Nat×Row))(j n k:Nat)(e et:TypeId)(ρ:Nat->Nat)(L:Nat->List D):Mem:=fun q=>
 if q=j then some (.cells ((List.range n).map fun i=>if i<k then .sl (L i) (L i).length else jc (ρ i) (L i)) e)
 else if h:∃ i,k<=i/\i<n/\L i≠[]/\ρ i=q then some (.cells (L (Classical.choose h)) et)
 else bc ml q
theorem RD{m:Mem}{nx j n k:Nat}{e et:TypeId}{ρ:Nat->Nat}{L:Nat->List D}{l:List (Nat×D)}{ml:List (Nat×Row)}{X:Nat->Prop}(h:fh m nx j n e et ρ L)(hs:∀ i,sr (L i))(M:P.cellsOf et=1)
 (J:∀ i,i<n->L i≠[]->X (ρ i)) (oZ:¬ X j) (hl:∀ x∈l,jm X x.2) (sL:∀ x∈ml,jP X x.2/\¬ X x.1) (hk:k<n):
 Ghost P ⟨ax l,hZ ml j n k e et ρ L,nx⟩ ⟨ax l,hZ ml j n (k+1) e et ρ L,nx⟩:=by
 by_cases C:L k=[]
 .refine .weak _ _ _ _ _ (fun t=>Di _) fun q=>?_;by_cases hq:q=j
  .subst hq;right;refine⟨_,_,e,by simp only[hZ,if_true];rfl,by simp only[hZ,if_true];rfl,oS,fun i d d' hd oF=>?_⟩;simp only[List.getElem?_map,cK] at hd oF;obtain⟨a,ha,rfl⟩:=hd;obtain⟨b,hb,rfl⟩:=oF;rw[ha] at hb;cases hb;by_cases h1:a<k
   .rw[if_pos h1,if_pos oG];exact Di _
   .rw[if_neg h1];by_cases h2:a=k
    .subst h2;rw[if_pos oG,C];exact Yz
    .rw[if_neg oG];exact Di _
  .left;simp only[hZ,if_neg hq]
   have:(∃ i,k+1<=i/\i<n/\L i≠[]/\ρ i=q)↔(∃ i,k<=i/\i<n/\L i≠[]/\ρ i=q):=by
    constructor
    .rintro⟨i,h1,h2⟩;exact⟨i,oG,h2⟩
    .rintro⟨i,h1,h2,h3,h4⟩
     exact⟨i,by
      rcases Nat.lt_or_ge k i with g|g
      .exact g
      .have:i=k:=by omega
       subst this;exact absurd C h3,h2,h3,h4⟩
   by_cases hc:∃ i,k<=i/\i<n/\L i≠[]/\ρ i=q
   .rw[dif_pos (this.2 hc),dif_pos hc];have e1:=Classical.choose_spec hc;have e2:=Classical.choose_spec (this.2 hc);have:Classical.choose (this.2 hc)=Classical.choose hc:=h.inj _ _ e2.2.1 e1.2.1 e2.2.2.1 e1.2.2.1 (e2.2.2.2.trans e1.2.2.2.symm);rw[this]
   .rw[dif_neg (fun h=>hc (this.1 h)),dif_neg hc]
 .have ND:ρ k≠j:=h.ne k hk C
  have av:hZ ml j n k e et ρ L (ρ k)=some (.cells (L k) et):=by
   have hc:∃ i,k<=i/\i<n/\L i≠[]/\ρ i=ρ k:=⟨k,bE _,hk,C,rfl⟩
   simp only[hZ,if_neg ND,dif_pos hc];have e1:=Classical.choose_spec hc;have:Classical.choose hc=k:=h.inj _ _ e1.2.1 hk e1.2.2.1 C e1.2.2.2;rw[this]
  have hg:=Ghost.freeze (P:=P) (ax l) (hZ ml j n k e et ρ L) nx (ρ k) (L k) et av;have e1:(fun t=>sub (fz0 (ρ k) (L k) (P.cellsOf et)) (ax l t))=ax l:=funext fun t=>Pk hl t _ _ _ (J k hk C)
  have e2:(fun q=>if q=ρ k then none else(hZ ml j n k e et ρ L q).map (Row.sub (fz0 (ρ k) (L k) (P.cellsOf et))))=hZ ml j n (k+1) e et ρ L:=by
   funext q;by_cases U:q=ρ k
   .subst U;rw[if_pos rfl]
    have hc:¬ ∃ i,k+1<=i/\i<n/\L i≠[]/\ρ i=ρ k:=by
     rintro⟨i,g1,g2,g3,g4⟩;have:=h.inj _ _ g2 hk g3 C g4;omega
    simp only[hZ,if_neg ND,dif_neg hc];exact(Qq fun x hx e=>(sL x hx).2 (e▸J k hk C)).symm
   .rw[if_neg U];by_cases qi:q=j
    .subst qi;simp only[hZ,if_true,Option.map_some];congr 1;show Row.cells (List.map _ (List.map _ _)) e=_;rw[List.map_map];congr 1;refine List.map_congr_left fun i hi=>?_;have bB:i<n:=by simpa using hi
     simp only[Function.comp_apply];by_cases h1:i<k
     .rw[if_pos h1,if_pos oG];rfl
     .rw[if_neg h1];by_cases h2:i=k
      .subst h2;rw[if_pos oG,nq C,M];exact lM oG
      .rw[if_neg oG];by_cases h3:L i=[]
       .rw[h3];rfl
       .rw[nq h3];exact s5 fun e=>h2 (h.inj _ _ bB hk h3 C e)
    .simp only[hZ,if_neg qi]
     have this:(∃ i,k+1<=i/\i<n/\L i≠[]/\ρ i=q)↔(∃ i,k<=i/\i<n/\L i≠[]/\ρ i=q):=by
      constructor
      .rintro⟨i,h1,h2⟩;exact⟨i,oG,h2⟩
      .rintro⟨i,h1,h2,h3,h4⟩
       exact⟨i,by
        rcases Nat.lt_or_ge k i with g|g
        .exact g
        .have:i=k:=by omega
         subst this;exact absurd h4.symm U,h2,h3,h4⟩
     by_cases hc:∃ i,k<=i/\i<n/\L i≠[]/\ρ i=q
     .rw[dif_pos (this.2 hc),dif_pos hc];have e1:=Classical.choose_spec hc;have e2:=Classical.choose_spec (this.2 hc);have:Classical.choose (this.2 hc)=Classical.choose hc:=h.inj _ _ e2.2.1 e1.2.1 e2.2.2.1 e1.2.2.1 (e2.2.2.2.trans e1.2.2.2.symm);rw[this];exact congrArg some (jP.Mx (X:=X) (hs _) _ _ _ (J k hk C))
     .rw[dif_neg (fun h=>hc (this.1 h)),dif_neg hc];cases hm:bc ml q with
      |none=>rfl
      |some r=>exact congrArg some (Pm (fun x hx=>(sL x hx).1) hm _ _ _ (J k hk C))
  rw[e1,e2] at hg;exact hg
theorem Ck{env:Env}{m:Mem}{nx j n:Nat}{e et:TypeId}{ρ:Nat->Nat}{L:Nat->List D}{l:List (Nat×D)}{ml:List (Nat×Row)}(X:Nat->Prop)(h:fh m nx j n e et ρ L)(M:∀ i,sr (L i))(C:P.cellsOf et=1)
 (J:∀ i,i<n->L i≠[]->X (ρ i)) (U:¬ X j) (he:jM l env) (hl:∀ x∈l,jm X x.2) (hm:xJ ml m) (sL:∀ x∈ml,jP X x.2/\¬ X x.1):
 Ghost P ⟨env,m,nx⟩ ⟨ax l,bc ((j,.cells ((List.range n).map fun i=>.sl (L i) (L i).length) e)::ml),nx⟩:=by
 have key:∀ k,k<=n->Ghost P ⟨ax l,hZ ml j n 0 e et ρ L,nx⟩ ⟨ax l,hZ ml j n k e et ρ L,nx⟩:=fun k=>by
  induction k with
  |zero=>exact fun _=>.refl _
  |succ k ih=>exact fun hk=>(ih oG).trans (RD h M C J U hl sL oG)
 have h0:Ghost P ⟨env,m,nx⟩ ⟨ax l,hZ ml j n 0 e et ρ L,nx⟩:=by
  refine(Ghost.forget env _ m nx (lO he)).trans (.drop _ _ _ _ fun q=>?_);by_cases hq:q=j
  .subst hq;left;simp only[hZ,if_true,Nat.not_lt_zero,if_false];exact h.row.symm
  .simp only[hZ,if_neg hq];by_cases hc:∃ i,0<=i/\i<n/\L i≠[]/\ρ i=q
   .rw[dif_pos hc];have e1:=Classical.choose_spec hc;left;have:=h.qT _ e1.2.1 e1.2.2.1;rw[e1.2.2.2] at this;exact this.symm
   .rw[dif_neg hc];exact Da hm q
 refine h0.trans ((key n (bE _)).trans (.drop _ _ _ _ fun q=>.inl ?_));by_cases hq:q=j
 .subst hq;simp only[bc,hZ,if_true];congr 2;exact List.map_congr_left fun i hi=>by rw[if_pos (by simpa using hi)]
 .simp only[bc,if_neg hq,hZ];rw[dif_neg];rintro⟨i,g1,g2,_⟩;omega
end
section
variable{P:Program}{env:Env}{m:Mem}{nx:Nat}{x y:Operand}{t e:TypeId}{k:IntKind}
theorem RE{w:List Int}{rest:List D}{sz:Nat}(h:w.length=sz):(w.map cm++rest).take sz=w.map cm:=by
 rw[List.take_append_of_le_length (by simp[h]),cL (by simp[h])]
theorem TB{sz n i:Nat}{l:List (List Int)}{w:List Int}(hx:(opd env x).core=.sl (b8 l) n)(hy:(opd env y).core=.s (.int k i))(he:elemP P t=e)(C:P.cellsOf e=sz)(hl:∀ w∈l,w.length=sz)(J:l[i]? =some w):
 Ef P (.indexAddr t x y) env m nx ⟨slT P t=true/\0<=(i:Int)/\(i:Int)<n/\((i:Int).toNat+1)*sz<=(b8 l).length,.pt (w.map cm++b8 (l.drop (i+1))),[],[],0⟩:=
 DU hx hy he C (by rw[dg];exact De hl J)
theorem TC{sz n i:Nat}{l:List (List Int)}{w:List Int}(ht:slT P t=true)(hl:∀ w∈l,w.length=sz)(C:l[i]? =some w)(hn:i<n):slT P t=true/\0<=(i:Int)/\(i:Int)<n/\((i:Int).toNat+1)*sz<=(b8 l).length:=by
 have:=tE hl C;refine⟨ht,oG,oG,?_⟩;rw[dg,Nat.add_mul,Nat.one_mul];exact this
theorem px{i:Nat}{cs:List D}{l:List (Nat×D)}(hm:m i=some (.cells cs e))(hl:jM l fun t=>sub (fz0 i cs (P.cellsOf e)) (env t)):Ghost P ⟨env,m,nx⟩ ⟨ax l,fun _=>none,nx⟩:=
 bj [(i,cs,e)] ⟨hm,trivial⟩ hl
theorem eR{l:List (Nat×D)}(hl:jM l env):Ghost P ⟨env,m,nx⟩ ⟨ax l,fun _=>none,nx⟩:=HQ hl fun _=>.inr rfl
end
section
variable{P:Program}{env:Env}{m:Mem}{nx:Nat}{x y:Operand}{t e:TypeId}{k:IntKind}
theorem RG{α:Type}{f:α->D}{l:List α}{b:Int}(hx:(opd env x).core=.sl (l.map f) l.length)(he:elemP P t=e)(J:P.cellsOf e=1)(hb:(opd env y).core=.s (.int .i64 b))(hc:slT P t=true)(C:0<=b/\b<=l.length):
 Ef P (.slice t x none (some y) none) env m nx ⟨True,.sl ((l.take b.toNat).map f) (l.take b.toNat).length,[],[],0⟩:=by
 have h:=uS (P:=P) (env:=env) (m:=m) (nx:=nx) (t:=t) (lo:=none) (hi:=some y) (a:=0) (b:=b) (es':=(l.take b.toNat).map f) hx he J (by simp[bndD]) (by simp[bndD,hb,D.int?]) (by simp[List.map_take])
 have h2:(slT P t=true/\(0:Int)<=0/\(0:Int)<=b/\b<=(l.length:Int))=True:=by
  apply propext;constructor
  .exact fun _=>trivial
  .exact fun _=>⟨hc,oG,C.1,C.2⟩
 have h3:(b - 0).toNat=(l.take b.toNat).length:=by rw[List.length_take];omega
 rw[h2,h3] at h;exact h
theorem s9{i j sz:Nat}{C:List D}{r:Row}(J:j≠i)(hm:m j=some r)(h:Row.sub (fz0 i C sz) r=r):(if j=i then none else(m j).map (Row.sub (fz0 i C sz)))=some r:=by
 rw[if_neg J,hm];exact congrArg some h
theorem mU{i:Nat}{cs:List D}{l:List (Nat×D)}{ml:List (Nat×Row)}(hm:m i=some (.cells cs e))(hl:jM l fun t=>sub (fz0 i cs (P.cellsOf e)) (env t))(C:xJ ml fun j=>if j=i then none else(m j).map (Row.sub (fz0 i cs (P.cellsOf e)))):Ghost P ⟨env,m,nx⟩ ⟨ax l,bc ml,nx⟩:=
 (Ghost.freeze env m nx i cs e hm).trans (aH hl C)
end
end Go.Abs
namespace Go.Argus
open Go.Proofs.Tryz.K (nextR)
def cO(b:Nat)(L:Nat->List Int)(t:Int):Nat->List Int:=up L t.toNat (L t.toNat++[(b:Int)])
def lV(bs:List bu)(L:Nat->List Int)(b:Nat):Nat->List Int:=match bs[b]? with
 |none=>L
 |some x=>(nextR x.fin).foldl (cO b) L
def bh(bs:List bu)(k:Nat):Nat->List Int:=(List.range k).foldl (lV bs) fun _=>[]
def dI(bs:List bu):List (List Int):=(List.range bs.length).map (bh bs bs.length)
def bC(L:List (List Int)):D:=.sl (L.map aC) L.length
theorem uQ(L:List (List Int)):Tr (bC L):=.sl (.map fun _=>cW _)
theorem CI{F:Nat->List Int}{n:Nat}:(D.sl ((List.range n).map fun i=>.sl ((F i).map I) ((F i).map I).length) n)=bC ((List.range n).map F):=by
 unfold bC;rw[List.map_map,List.length_map,List.length_range];congr 1;exact List.map_congr_left fun i _=>by simp[aC]
theorem zx{b:Nat}{L:Nat->List Int}{t:Int}{c:Nat}(h:∀ i,(L i).length<=c):∀ i,(cO b L t i).length<=c+1:=fun i=>by
 unfold cO;simp only[up];split
 .have:=h t.toNat;simp;omega
 .have:=h i;omega
theorem DA{L:Nat->List Int}{k:Nat}{l:List Int}:(fun i=>(up L k l i).map I)=up (fun i=>(L i).map I) k (l.map I):=by
 funext i;simp only[up];split<;>rfl
theorem kT{P:Nat->Bool}{n k:Nat}(hk:k<n)(h:P k=false):(List.range n).all P=false:=by
 refine Bool.eq_false_iff.2 fun ht=>?_;have:=br.1 ht k (by simpa using hk);rw[h] at this;cases this
theorem iN{P:Nat->Bool}{k:Nat}(h:(List.range k).all P=true)(hk:P k=true):(List.range (k+1)).all P=true:=by
 rw[List.range_succ,List.all_append,h];simp[hk]
abbrev c6(l:List Bool):D:=.sl (l.map B) l.length
def gM:bu:=⟨[],⟨0,0,0,0,0,.empty,dc,[],[],0⟩⟩
def pz(bs:List bu)(s:CS)(b:Nat)(y:bd)(i:Nat):Bool:=
 let p:=((bh bs bs.length b).getD i 0).toNat
 !(s.re.getD p false)||jw (eW (bs.getD p gM).fin b (gm (bs.getD p gM) (s.ws.getD p [])).1) (y.args.getD i 0).toNat
def qF(bs:List bu)(s:CS)(b:Nat)(y:bd):Bool:=(List.range (bh bs bs.length b).length).all (pz bs s b y)
def bG(y:bd):Bool:=y.op==19
def nR(bs:List bu)(s:CS)(b:Nat):Bool:=
 !(s.re.getD b false)||((gm (bs.getD b gM) (s.ws.getD b [])).2&&((bs.getD b gM).ins.takeWhile bG).all (qF bs s b))
def rP(bs:List bu)(args:Nat):Bool:=(List.range bs.length).all (nR bs (fK bs args))
theorem takeWhile_eq{α:Type}{p:α->Bool}{l:List α}{j:Nat}(h:∀ y∈l.take j,p y=true)(h':∀ y,l[j]? =some y->p y=false):l.takeWhile p=l.take j:=by
 induction l generalizing j with
 |nil=>simp
 |cons a l ih=>cases j with
  |zero=>have:=h' a rfl;simp[this]
  |succ j=>
   have ha:=h a oS;rw[List.takeWhile_cons,if_pos ha,List.take_succ_cons,ih (j:=j) (fun y hy=>h y (by simp[hy])) (fun y hy=>h' y (by simpa using hy))]
theorem GK{b:Nat}{p:Int}:∀ {l:List Int} {L:Nat->List Int} {i:Nat},p∈(l.foldl (cO b) L) i↔p∈L i\/(p=b/\∃ t∈l,t.toNat=i)
 |[],L,i=>by simp
 |t::l,L,i=>by
  rw[List.foldl_cons,GK (l:=l)];unfold cO;simp only[up];by_cases h:i=t.toNat
  .subst h;simp only[if_true,List.mem_append,List.mem_singleton];constructor
   .rintro((h|h)|⟨h,u,h1,h2⟩)
    .exact .inl h
    .exact .inr ⟨h,t,oS,rfl⟩
    .exact .inr ⟨h,u,by simp[h1],h2⟩
   .rintro(h|⟨h,u,h1,h2⟩)
    .exact .inl (.inl h)
    .exact .inl (.inr h)
  .rw[if_neg h];constructor
   .rintro(h'|⟨h',u,h1,h2⟩)
    .exact .inl h'
    .exact .inr ⟨h',u,by simp[h1],h2⟩
   .rintro(h'|⟨h',u,h1,h2⟩)
    .exact .inl h'
    .rcases List.mem_cons.1 h1 with e|e
     .subst e;exact absurd h2.symm h
     .exact .inr ⟨h',u,e,h2⟩
theorem B'{bs:List bu}{p:Int}{i:Nat}:∀ {k:Nat},p∈bh bs k i↔∃ b:Nat,p=b/\b<k/\∃ x,bs[b]? =some x/\∃ t∈nextR x.fin,t.toNat=i
 |0=>by simp[bh]
 |k+1=>by
  have ih:=B' (bs:=bs) (p:=p) (i:=i) (k:=k);have e:bh bs (k+1)=lV bs (bh bs k) k:=by rw[bh,List.range_succ,List.foldl_append];rfl
  rw[e,lV];cases hx:bs[k]? with
  |none=>
   simp only;rw[ih];constructor
   .rintro⟨b,h1,h2,h3⟩;exact⟨b,h1,oG,h3⟩
   .rintro⟨b,h1,h2,x,h3,h4⟩;refine⟨b,h1,?_,x,h3,h4⟩;rcases Nat.lt_or_ge b k with g|g
    .exact g
    .have:b=k:=by omega
     subst this;rw[hx] at h3;cases h3
  |some x=>
   simp only;rw[GK,ih];constructor
   .rintro(⟨b,h1,h2,h3⟩|⟨h1,h2⟩)
    .exact⟨b,h1,oG,h3⟩
    .exact⟨k,h1,oG,x,hx,h2⟩
   .rintro⟨b,h1,h2,C,h3,h4⟩;rcases Nat.lt_or_ge b k with g|g
    .exact .inl ⟨b,h1,g,C,h3,h4⟩
    .have:b=k:=by omega
     subst this;rw[hx] at h3;cases h3;exact .inr ⟨h1,h4⟩
theorem Gu{bs:List bu}{n:Nat}(hb:∀ b∈bs,oe n b):∀ (k:Nat) {s:CS},eB n s->eB n (jE bs k s)
 |0,_,h=>h
 |k+1,s,h=>by
  rw[jE];split
  .exact Gu hb k (wC hb h).1
  .exact(wC hb h).1
theorem RF{bs:List bu}{args:Nat}(hb:∀ b∈bs,oe bs.length b)(C:∀ u∈fU args,dq u):eB bs.length (fK bs args):=Gu hb _ (BZ C)
theorem G7{b:Nat}:∀ {l:List Int} {L:Nat->List Int} {c:Nat},(∀ i,(L i).length<=c)->∀ i,((l.foldl (cO b) L) i).length<=c+l.length
 |[],_,_,h,i=>h i
 |t::l,L,c,h,i=>by
  have:=G7 (b:=b) (l:=l) (zx (t:=t) (b:=b) h) i;rw[List.foldl_cons,List.length_cons];omega
theorem Ca{bs:List bu}(C:∀ b∈bs,b.fin.az.length<=9):∀ (k i:Nat),(bh bs k i).length<=12*k
 |0,_=>by simp[bh]
 |k+1,i=>by
  have ih:=Ca C k;have e:bh bs (k+1)=lV bs (bh bs k) k:=by rw[bh,List.range_succ,List.foldl_append];rfl
  rw[e,lV];cases hx:bs[k]? with
  |none=>have:=ih i;simp only;omega
  |some x=>
   have h1:=G7 (l:=nextR x.fin) (b:=k) ih i;have h2:=rM x.fin;have h3:=C x (cg hx);simp only;omega
theorem GL{bs:List bu}{n k:Nat}(hn:bs.length=n)(hk:k<n):(dI bs)[k]? =some (bh bs n k):=by
 subst hn;simp[dI,hk]
def mW(f:aA):Bool:=decide (f.result=1)||(decide (f.result=2)||(decide (f.result=0)&& !f.iter))
def kp(f:aA):Bool:=
 iX f.name&&(ct f.args 0 (if(f.ag.length:Int)<6 then(f.ag.length:Int) else 6)&&(mW f&&(!decide ((1200:Int)<f.ag.length)&&(!decide ((60:Int)<f.aK.length)&&ct f.blocks.length 1 1200))))
def m7(f:aA):Bool:=
 dK f.ag 3&&(dK (f.ag.take f.args.toNat) 2&&(dK f.aK 2&&(!decide ((6:Int)<f.signals.length)&& !f.signals.any fun s=> !isName s)))
def pA(l:List ByteArray)(i:Nat):Bool:=Op.bytesLess (l.getD i .empty).toList (l.getD (i+1) .empty).toList
def kq(f:aA):Bool:=(List.range (f.signals.length - 1)).all (pA f.signals)
def iR(bs:List bu)(k:Nat):List Int:=((bs.take k).filter fun x=>x.fin.kind==7).map fun x=>x.fin.a
def gH(f:aA)(k:Nat):Bool:=
 let x:=f.blocks.getD k gM
 gI f x.fin&&(!decide ((200:Int)<x.ins.length)&& !(x.fin.kind==7&&(iR f.blocks k).any (·==x.fin.a)))
def qp(f:aA)(b:Nat)(l:List bd)(j:Nat):Bool:=gq f b (l.getD j dc) ((l.take (j+1)).all bG) (bh f.blocks f.blocks.length b).length
def nS(f:aA)(b:Nat):Bool:=(List.range (f.blocks.getD b gM).ins.length).all (qp f b (f.blocks.getD b gM).ins)
def iu(f:aA):Bool:=
 kp f&&(m7 f&&(kq f&&((List.range f.blocks.length).all (gH f)&&(List.range f.blocks.length).all (nS f))))
def dV(f:aA):Int:=if iu f=true then(if rP f.blocks f.args.toNat=true then 0 else 81) else 80
def gh(l:List Int)(r:Int):Prop:=0<=r/\r<l.length
theorem iw{l:List Int}{r:Int}(h:bP l r≠0):gh l r:=Classical.byContradiction fun hn=>h (Cl hn)
theorem kU{l:List Int}{r:Int}(h:dB l r=true):gh l r:=by
 refine iw fun e=>?_;simp[dB,e] at h
theorem s6{l rs:List Int}(h:eT l rs=true):∀ r∈rs,gh l r:=fun r hr=>kU (br.1 h r hr)
theorem CJ{l:List Int}{r want J:Int}(h:jk l r want J=true)(C:want≠0):gh l r:=by
 unfold jk at h;rw[if_neg C] at h;split at h
 .refine iw fun e=>?_;simp[e] at h
 .split at h
  .refine iw fun e=>?_;simp[e] at h
  .split at h
   .exact kU h
   .refine iw fun e=>?_;simp[e] at h
structure MD(l:List Int)(x:bd)(s:Shape):Prop where
 to:s.to≠0->gh l x.to
 a:s.a≠0->gh l x.a
 b:s.b≠0->gh l x.b
 args:s.args=5\/s.args=6->x.args.length<=6/\∀ r∈x.args,gh l r
theorem Cm{l:List Int}{x:bd}{s:Shape}(h:lP l x s=true):MD l x s:=by
 unfold lP at h;simp only[aM] at h;obtain⟨h1,h2,h3,h4,_⟩:=h;refine⟨CJ h1,CJ h2,CJ h3,fun C=>?_⟩;unfold mS at h4;rcases C with C|C
 .rw[if_pos C,aM] at h4;have:=ir.1 h4.1;exact⟨oG,s6 h4.2⟩
 .rw[if_neg oG,if_pos C,aM] at h4;have:(x.args.length:Int)=1:=by simpa using h4.1
  exact⟨oG,s6 h4.2⟩
theorem B0{l:List (Int×Shape)}{op:Int}{s:Shape}(h:ez l op=some s):(op,s)∈l:=by
 unfold ez at h;rw[cK] at h;obtain⟨⟨o,s'⟩,h1,rfl⟩:=h;have h2:=List.find?_some h1;have h3:=List.mem_of_find?_eq_some h1;have:o=op:=by simpa using h2
 subst this;exact h3
theorem B2{l:List Int}{x:bd}{s:Shape}(hl:l.length<=1200)(hm:(x.op,s)∈lc\/(x.op,s)∈gJ)(h:MD l x s):lX x:=by
 obtain⟨h1,h2,h3,h4⟩:=h;unfold gh at h1 h2 h3 h4;have hr:∀ {r:Int},0<=r/\r<l.length->0<=r/\r<1200:=fun h=>by omega
 have J:∀ {r:Int},0<=r/\r<l.length-> -1000000<=r/\r<1200:=fun h=>by omega
 obtain⟨op,to,a,b,n,args⟩:=x;dsimp only at h1 h2 h3 h4 hm;simp only[lc,gJ,List.mem_cons,bx,List.not_mem_nil,or_false] at hm;rcases hm with hm|hm
 .rcases hm with hm|hm|hm|hm|hm|hm|hm|hm|hm|hm|hm|hm|hm|hm|hm<;>obtain⟨rfl,rfl⟩:=hm<;>refine⟨fun r C=>?_,fun h=>?_,?_,fun h=>?_⟩<;>
   simp_all[bW,cN,aE,kZ,nU,jG,kV]<;>first|omega|(rcases C with rfl|rfl<;>omega)|(have:=h4.2 r C;omega)
 .rcases hm with hm|hm|hm|hm|hm|hm|hm|hm|hm<;>obtain⟨rfl,rfl⟩:=hm<;>refine⟨fun r C=>?_,fun h=>?_,?_,fun h=>?_⟩<;>
   simp_all[bW,cN,aE,kZ,nU,jG,kV]<;>first|omega|(rcases C with rfl|rfl<;>omega)|(rcases C with rfl|rfl|C<;>first|omega|(have:=h4.2 r C;omega))
theorem ko{a b:Int}:aG a b=true↔a=b:=by simp[aG]
theorem Dj{l aK:List Int}{r n:Int}(C:∀ k∈aK,k≠0)(h:jn l aK r n=true):gh l r/\0<=n/\n<aK.length:=by
 unfold jn at h;rw[aM,ir] at h;obtain⟨⟨h1,h2⟩,h3⟩:=h
 have h4:bP aK n≠0:=by
  obtain⟨k,rfl⟩:=eC h1;have hk:k<aK.length:=by omega
  rw[py (aL hk)];exact C _ (bR hk)
 refine⟨iw ?_,h1,oG⟩;rw[show bP l r=bP aK n by simpa using h3];exact h4
theorem B3{f:aA}{b ahead:Int}{x:bd}{phis:Bool}(hl:f.ag.length<=1200)(C:∀ k∈f.aK,k≠0)(eg:f.aK.length<=60)(h:gq f b x phis ahead=true):
 lX x/\(x.op=19->(x.args.length:Int)=ahead/\phis=true/\0<b/\gh f.ag x.to/\∀ r∈x.args,bP f.ag r=bP f.ag x.to/\gh f.ag r):=by
 unfold gq at h;split at h
 .rename_i X;simp only[aM,ko] at h;have hr:=iw (l:=f.ag) (r:=x.a) oG;unfold gh at hr;refine⟨⟨fun r h'=>?_,fun h'=>by omega,?_,fun h'=>by omega⟩,fun h'=>by omega⟩
  .simp[bW,aE,kZ,X] at h';omega
  .simp[cN,aE,jG,kV,X]
 .rename_i X;split at h
  .rename_i U;simp only[aM,ko] at h;obtain⟨h1,h2,h3⟩:=Dj C h.2.2.2;unfold gh at h1;refine⟨⟨fun r h'=>?_,fun h'=>by omega,?_,fun h'=>by omega⟩,fun h'=>by omega⟩
   .simp[bW,aE,kZ,nU,U] at h'
   .simp[cN,aE,jG,U];omega
  .rename_i U;split at h
   .rename_i M;simp only[aM,ko] at h;obtain⟨h1,h2,h3⟩:=Dj C h.2.2.2;unfold gh at h1;refine⟨⟨fun r h'=>?_,fun h'=>by omega,?_,fun h'=>by omega⟩,fun h'=>by omega⟩
    .simp[bW,aE,kZ,M] at h';omega
    .simp[cN,aE,jG,kV,M]
   .rename_i M;split at h
    .rename_i J;simp only[aM,ko,decide_eq_true_eq] at h;obtain⟨g1,g2,g3,g4,g5,g6,g7,g8⟩:=h;have hr:=kU g3;have hk:bP f.ag x.to≠0:=fun e=>by simp[dB,e] at g3
     refine⟨⟨fun r h'=>?_,fun h'=>by omega,?_,fun h'=>by omega⟩,fun _=>⟨g7,g1,g2,hr,fun r gC=>?_⟩⟩
     .simp[bW,aE,kZ,nU,J] at h'
     .unfold gh at hr;simp[cN,aE,jG,J];omega
     .have:aG (bP f.ag r) (bP f.ag x.to)=true:=by
       simp only[Bool.not_eq_true',List.any_eq_false] at g8;simpa using g8 r gC
      rw[ko] at this;exact⟨this,iw (by rw[this];exact hk)⟩
    .rename_i J;rw[aM] at h;cases C:ez lc x.op with
     |none=>rw[C] at h;simp at h
     |some s=>
      rw[C] at h;exact⟨B2 hl (.inl (B0 C)) (Cm h.2),fun h'=>absurd h' J⟩
structure AH(f:aA)(x:End):Prop where
 fin:vo x
 wh:x.az.length<=7
 to:∀ t∈cx x,0<=t/\t<f.blocks.length
theorem Cb{f:aA}{x:End}(h:jH f x=true):x.az.length<=7/\(∀ w∈x.az,0<=w.to/\w.to<f.blocks.length)/\(0<=x.b7->x.b7<f.blocks.length):=by
 unfold jH at h;rw[aM,aM] at h;obtain⟨h1,h2,h3⟩:=h;have h2:(x.az.length:Int)<=7:=by simpa using h2
 refine⟨oG,fun w C=>?_,fun h0=>?_⟩
 .obtain⟨i,hi⟩:=dh C;have hm:(w,i)∈x.az.zipIdx:=List.mem_zipIdx_iff_getElem?.2 hi;have:=br.1 h1 _ hm;simp only[ll,aM,bI,ir] at this;omega
 .rw[Bool.or_eq_true] at h3;rcases h3 with h3|h3
  .have:x.b7= -1:=by simpa using h3
   omega
  .rw[bI,ir] at h3;omega
theorem Iq{x:End}(h:tG x=true):x.kind=0/\x.a=0/\x.b=0/\x.to=0/\x.eD=0/\x.b7= -1/\x.args.length=0/\x.az.length=0:=by
 simp only[tG,aM,decide_eq_true_eq] at h;omega
theorem CK{f:aA}{x:End}(hl:f.ag.length<=1200)(hr:mW f=true)(h:gI f x=true):AH f x:=by
 have iF:∀ {r:Int},gh f.ag r->0<=r/\r<1200:=fun h=>by unfold gh at h;omega
 unfold gI at h;rw[aM] at h;obtain⟨h,hb⟩:=h;have hb:=Iq hb;have U:∀ {t:Int},bI f t=true->0<=t/\t<f.blocks.length:=fun h=>by rw[bI,ir] at h;omega
 obtain⟨kind,a,b,to,eD,name,ins,args,az,b7⟩:=x;simp only[eI] at h hb;by_cases h1:kind=1
 .subst h1;simp only[if_true] at h hb;have J:=U h;have C:az=[]:=List.length_eq_zero_iff.1 hb.2.2.2.2.2.2.2;subst C;refine⟨⟨fun r h'=>?_,?_,oS,oS,oS⟩,oS,fun t ht=>?_⟩
  .simp[bU,aE] at h'
  .simp[dw,aE]
  .simp[cx,fG,aE] at ht;subst ht;exact J
 by_cases h2:kind=2
 .subst h2;simp only[Int.reduceEq,if_false,if_true,aM,ko] at h hb;have C:az=[]:=List.length_eq_zero_iff.1 hb.2.2.2.2.2.2.2;subst C;have wv:=iF (iw (l:=f.ag) (r:=a) oG);have J:=U h.2.1;have zb:=U h.2.2;refine⟨⟨fun r h'=>?_,?_,oS,oS,oS⟩,oS,fun t ht=>?_⟩
  .simp[bU,aE] at h';subst h';exact wv
  .simp[dw,aE]
  .simp[cx,fG,aE] at ht;rcases ht with rfl|rfl
   .exact J
   .exact zb
 by_cases h3:kind=3
 .subst h3;simp only[Int.reduceEq,if_false,if_true] at h hb;have C:az=[]:=List.length_eq_zero_iff.1 hb.2.2.2.2.2.2.2;subst C;refine⟨⟨fun r h'=>?_,?_,oS,oS,oS⟩,oS,fun t ht=>?_⟩
  .simp[bU,aE] at h';obtain⟨h1,rfl⟩:=h';split at h
   .rename_i hc;rw[ko] at h;exact iF (iw (by rw[h];exact hc.1))
   .rw[ko] at h;exact absurd h h1
  .simp[dw,aE]
  .simp[cx,aE] at ht
 by_cases h4:kind=4
 .subst h4;simp only[Int.reduceEq,if_false,if_true] at h hb;have C:az=[]:=List.length_eq_zero_iff.1 hb.2.2.2.2.2.2.2;subst C;refine⟨⟨fun r h'=>?_,?_,oS,oS,oS⟩,oS,fun t ht=>?_⟩
  .simp[bU,aE] at h'
  .simp[dw,aE]
  .simp[cx,aE] at ht
 by_cases h5:kind=5
 .subst h5;simp only[Int.reduceEq,if_false,if_true,aM] at h hb;obtain⟨g1,g2,X,M⟩:=h;obtain⟨qk,zc,zd⟩:=Cb M;have J:=U X
  have hi:lX ins:=by
   cases hs:ez gJ ins.op with
   |none=>rw[hs] at g1;simp at g1
   |some s=>rw[hs] at g2;exact B2 hl (.inr (B0 hs)) (Cm g2)
  refine⟨⟨fun r h'=>?_,?_,?_,fun _=>hi.ar,oS⟩,qk,fun t ht=>?_⟩
  .simp[bU,aE] at h';exact hi.rd r h'
  .simp only[dw,if_true];exact hi.wr
  .dsimp only at qk ⊢;omega
  .simp[cx,fG,aE] at ht;rcases ht with rfl|⟨w,C,rfl⟩|⟨h0,rfl⟩
   .exact J
   .exact zc w C
   .exact⟨h0,zd h0⟩
 by_cases h6:kind=6
 .subst h6;simp only[Int.reduceEq,if_false,if_true,aM,Bool.or_eq_true,ko,decide_eq_true_eq] at h hb;obtain⟨g1,g2,X,M,g5,g6⟩:=h;obtain⟨qk,zc,zd⟩:=Cb g6;have J:=U g5;have hv:=s6 X;refine⟨⟨fun r h'=>?_,?_,?_,oS,fun _=>?_⟩,qk,fun t ht=>?_⟩
  .simp[bU,aE] at h';exact iF (hv r h')
  .simp only[dw,aE];rcases M with M|M
   .simp[M]
   .have:=iF (kU M);simp;omega
  .dsimp only at qk ⊢;omega
  .dsimp only;omega
  .simp[cx,fG,aE] at ht;rcases ht with rfl|⟨w,C,rfl⟩|⟨h0,rfl⟩
   .exact J
   .exact zc w C
   .exact⟨h0,zd h0⟩
 by_cases h7:kind=7
 .subst h7;simp only[Int.reduceEq,if_false,if_true,aM,ko,decide_eq_true_eq] at h hb;obtain⟨g1,g2,X,M,g5⟩:=h;have C:az=[]:=List.length_eq_zero_iff.1 hb.2.2.2.2.2.2.2;subst C;have J:=U g5;have hv:=s6 X;have wv:=iF (iw (l:=f.ag) (r:=a) oG);refine⟨⟨fun r h'=>?_,?_,oS,oS,fun _=>?_⟩,oS,fun t ht=>?_⟩
  .simp[bU,aE] at h';exact iF (hv r h')
  .simp only[dw,aE];simp;omega
  .dsimp only;omega
  .simp[cx,fG,aE] at ht;subst ht;exact J
 by_cases h8:kind=8
 .subst h8;simp only[Int.reduceEq,if_false,if_true,aM,ko] at h hb;obtain⟨g1,g2,X,M,g5⟩:=h;obtain⟨qk,zc,zd⟩:=Cb g5;have J:=U X;have zb:=U M;have wv:=iF (iw (l:=f.ag) (r:=a) oG);have hrb:=iF (kU g2);refine⟨⟨fun r h'=>?_,?_,?_,oS,oS⟩,qk,fun t ht=>?_⟩
  .simp[bU,aE] at h';subst h';exact wv
  .simp[dw,aE];omega
  .dsimp only at qk ⊢;omega
  .simp[cx,fG,aE] at ht;rcases ht with rfl|rfl|⟨w,C,rfl⟩|⟨h0,rfl⟩
   .exact J
   .exact zb
   .exact zc w C
   .exact⟨h0,zd h0⟩
 by_cases h9:kind=9
 .subst h9;simp only[Int.reduceEq,if_false,if_true,aM,ko] at h hb;obtain⟨g1,g2,X⟩:=h;have C:az=[]:=List.length_eq_zero_iff.1 hb.2.2.2.2.2.2.2;subst C;have J:=U X
  have wv:=iF (iw (l:=f.ag) (r:=a) (by
   rw[g2];intro e
   simp[mW,e,g1] at hr))
  refine⟨⟨fun r h'=>?_,?_,oS,oS,oS⟩,oS,fun t ht=>?_⟩
  .simp[bU,aE] at h';subst h';exact wv
  .simp[dw,aE]
  .simp[cx,fG,aE] at ht;subst ht;exact J
 .simp[h1,h2,h3,h4,h5,h6,h7,h8,h9] at h
theorem RH(a b:Int):dq (uB a b):=by
 unfold uB intBitsV dq;simp only;rw[wrap_u64 (n:=(BitVec.ofInt IntKind.u64.bits a||| BitVec.ofInt IntKind.u64.bits b).toNat) (BitVec.isLt (w:=64) _)];have h:(BitVec.ofInt IntKind.u64.bits a||| BitVec.ofInt IntKind.u64.bits b).toNat<18446744073709551616:=BitVec.isLt (w:=64) _;exact⟨Int.natCast_nonneg _,Int.ofNat_lt.2 h⟩
theorem GM{w:List Int}{n:Int}(h:∀ u∈w,dq u):∀ u∈fA w n,dq u:=fun u C=>by
 unfold fA at C;split at C
 .unfold tF at C;rcases List.mem_or_eq_of_mem_set C with h1|h1
  .exact h u h1
  .rw[h1];exact RH _ _
 .exact h u C
theorem zy:∀ k,∀ u∈fU k,dq u
 |0,u,hu=>by
  rw[List.eq_of_mem_replicate hu];simp[dq]
 |k+1,u,hu=>GM (zy k) u hu
theorem lX.rl{x:bd}(h:lX x):(bW x).length<=100000:=by
 unfold bW;split
 .simp
 .split
  .simp
  .split
   .rename_i J;have:=h.ar (.inl J);omega
   .split
    .rename_i C;have:=h.ar (.inr C);simp;omega
    .simp
theorem vo.rf{x:End}(h:vo x)(hi:x.kind=5->lX x.ins):(bU x).length<=100000:=by
 unfold bU;split
 .simp
 .split
  .split<;>simp
  .split
   .rename_i h5;exact(hi h5).rl
   .split
    .rename_i C;have:=h.a2 (by simpa[aE] using C);omega
    .simp
structure pI(f:aA):Prop where
 pos:0<f.blocks.length
 qh:f.blocks.length<=1200
 ag:f.ag.length<=1200
 args:0<=f.args/\f.args<=6
 blk:∀ b∈f.blocks,oe f.blocks.length b
 ends:∀ b∈f.blocks,AH f b.fin
 right:∀ (b:Nat) x,f.blocks[b]? =some x->∀ (j:Nat) y,x.ins[j]? =some y->gq f b y ((x.ins.take (j+1)).all bG) (bh f.blocks f.blocks.length b).length=true
 aK:(∀ k∈f.aK,k≠0)/\f.aK.length<=60
 YI:∀ b∈f.blocks,b.fin.kind=5->lX b.fin.ins
theorem HR{l:List Int}{m:Int}(h:dK l m=true):∀ k∈l,k≠0:=fun k hk e=>by
 subst e;simp only[dK,Bool.not_eq_true',List.any_eq_false] at h;have:=h 0 hk;simp[jF] at this
theorem SG{f:aA}{x:End}(hl:f.ag.length<=1200)(h:gI f x=true)(h5:x.kind=5):lX x.ins:=by
 unfold gI at h;rw[aM] at h;have h:=h.1;unfold eI at h;simp only[h5,Int.reduceEq,if_false,if_true,aM] at h;obtain⟨J,M,_⟩:=h;cases C:ez gJ x.ins.op with
 |none=>rw[C] at J;simp at J
 |some s=>rw[C] at M;exact B2 hl (.inr (B0 C)) (Cm M)
theorem Al{f:aA}(h:iu f=true):pI f:=by
 unfold iu at h;simp only[aM] at h;obtain⟨U,X,_,hE,hR⟩:=h;unfold kp at U;simp only[aM,ir,Bool.not_eq_true',decide_eq_false_iff_not] at U;obtain⟨_,ha,hr,lA,eg,cV⟩:=U;unfold m7 at X;simp only[aM,Bool.not_eq_true',decide_eq_false_iff_not] at X;obtain⟨_,_,sI,_,_⟩:=X;have C:f.ag.length<=1200:=by omega
 have M:∀ x∈f.blocks,gI f x.fin=true/\x.ins.length<=200:=fun x hx=>by
  obtain⟨k,hk⟩:=dh hx;have al:k<f.blocks.length:=(bA.1 hk).1;have:=br.1 hE k (by simpa using al);rw[gH,getD_some hk] at this;simp only[aM,Bool.not_eq_true',decide_eq_false_iff_not] at this;exact⟨this.1,oG⟩
 have J:∀ x∈f.blocks,AH f x.fin:=fun x hx=>CK C hr (M x hx).1
 have NN:∀ (b:Nat) x,f.blocks[b]? =some x->∀ (j:Nat) y,x.ins[j]? =some y->gq f b y ((x.ins.take (j+1)).all bG) (bh f.blocks f.blocks.length b).length=true:=fun b x hx j y hy=>by
  have al:b<f.blocks.length:=(bA.1 hx).1;have:=br.1 hR b (by simpa using al);rw[nS,getD_some hx] at this;have:=br.1 this j (by simpa using(bA.1 hy).1);rw[qp,getD_some hy] at this;exact this
 have h5:∀ b∈f.blocks,b.fin.kind=5->lX b.fin.ins:=fun b hb h5=>SG C (M b hb).1 h5
 have su:∀ b∈f.blocks,∀ x∈b.ins,lX x:=fun b hb x hx=>by
  obtain⟨k,hk⟩:=dh hb;obtain⟨j,hj⟩:=dh hx;exact(B3 C (HR sI) oG (NN k b hk j x hj)).1
 refine⟨oG,oG,C,⟨ha.1,by have:=ha.2;split at this<;>omega⟩,fun b hb=>⟨by have:=(M b hb).2;omega,su b hb,(J b hb).fin,fun x hx=>(su b hb x hx).rl,(J b hb).fin.rf (h5 b hb),fun t ht=>(J b hb).to t (zv.1 ht)⟩,J,NN,⟨HR sI,oG⟩,h5⟩
theorem pI.BD{f:aA}(h:pI f){b:Nat}{x:bu}(hx:f.blocks[b]? =some x){y:bd}(hy:y∈x.ins)(C:y.op=19):y.args.length=(bh f.blocks f.blocks.length b).length/\∀ r∈y.args,0<=r/\r<1280:=by
 obtain⟨j,hj⟩:=dh hy;obtain⟨h1,_,_,_,h2⟩:=(B3 h.ag h.aK.1 h.aK.2 (h.right b x hx j y hj)).2 C;refine⟨oG,fun r hr=>?_⟩;have:=(h2 r hr).2;unfold gh at this;have:=h.ag;omega
end Go.Argus
namespace Go.Proofs.Tryz.K
set_option maxRecDepth 10000
set_option maxHeartbeats 1000000 in
theorem wo{p q:D}{f:aA}{n:Nat}(hp:Tr p)(hq:Tr q)(eK:p.one=true)(eL:q.one=true)(hn:f.blocks.length=n)(lB:n<=100000)(hw:∀ b∈f.blocks,b.fin.az.length<=9)(ht:∀ b∈f.blocks,∀ t∈nextR b.fin,0<=t/\t<n):
 PCall prog 97 [.agg (aZ p q f)] (bC (dI f.blocks)):=by
 have aT:∀ a∈[D.agg (aZ p q f)],Tr a:=.cons (jK hp hq f) .nil;refine a7 My aT (uQ _) ?_;rw[YA];refine au ?_;refine af ?_;refine ab (aJ (bj [(0,aZ p q f,133)] eH (l:=[(1,.pt (aZ p q f))]) eH) (au ?_));refine bF ?_;have du:((f.blocks.length:Nat):Int).toNat=n:=hn;refine ab (aJ (aH (l:=[(1,.pt (aZ p q f)),(3,.rs 1 0 n)]) (ml:=[(1,.cells (List.replicate n .z) 27)]) ⟨rfl,congrArg (fun k=>D.rs 1 0 k) du,trivial⟩ ⟨?_,trivial⟩) (aB (au ?_)))
 .exact congrArg (fun c=>some (Row.cells c 27)) ((congrArg (fun k=>replD k [D.z]) du).trans (Aa n))
 refine aR ?_
 refine ab (bZ (fun s=>∃ m nx ρ,Ghost prog s ⟨ax [(3,.rs 1 0 n)],m,nx⟩/\fh m nx 1 n 27 3 ρ (fun i=>(bh f.blocks n i).map I)) (eN (α:=Nat×Mem×Nat)
  (fun k=>⟨ax [(1,.pt (aZ p q f)),(3,.rs 1 0 n),(15,ew f.blocks),(16,I n),(17,I k.1)],k.2.1,k.2.2⟩)
  (fun k=>k.1<=n/\(∃ ρ,fh k.2.1 k.2.2 1 n 27 3 ρ (fun i=>(bh f.blocks k.1 i).map I))/\∀ i,(bh f.blocks k.1 i).length<=12*k.1) (fun k=>n - k.1) (0,bc [(1,.cells (List.replicate n .z) 27)],2)
  (ao ⟨rfl,rfl,rfl,congrArg (fun k:Nat=>I k) hn,rfl,trivial⟩) ⟨Nat.zero_le _,⟨fun _=>0,CH (show 1<2 by decide) rfl⟩,fun _=>bE _⟩ ?_) ?_)
 .rintro⟨k,m,nx⟩ ⟨hk,⟨ρ,C⟩,hlen⟩;dsimp only at hk C hlen ⊢;have av:=C.row;have cI:=C.oX;refine SS ?_;refine ab ⟨_,rfl,fun h=>?_,fun h=>?_⟩
  .have al:k<n:=by simpa using h
   have hx:f.blocks[k]? =some f.blocks[k]:=aL oG;have X:f.blocks[k]∈f.blocks:=bR _;generalize f.blocks[k]=x at hx X
   have bL:bh f.blocks (k+1)=(nextR x.fin).foldl (cO k) (bh f.blocks k):=by
    rw[bh,List.range_succ,List.foldl_append];show lV f.blocks _ k=_;rw[lV,hx];rfl
   generalize bh f.blocks k=L0 at C hlen av bL;refine ws ?_;refine bF ?_;have qQ:=qQ (x:=x.fin);have qR:=JP (x:=x.fin) (hw x X)
   change PCall _ _ _ (aC (nextR x.fin)) at qR
   have cB:=ht x X;have gF:=rM x.fin;have By:=hw x X;generalize nextR x.fin=l at qR cB gF bL;refine ab (au ?_);refine SS ?_;refine aD (dQ (vs:=aW _) rfl (up_same _ _ _) V.h V.h rfl) ak (dR V.h V.h (by first|(simp;done)|omega|exact bn rfl)) ?_;refine cl qQ ?_;refine cl qR ?_;refine af ?_
   refine ab (eN (α:=Nat×Mem×Nat)
    (fun j=>⟨ax [(1,.pt (aZ p q f)),(3,.rs 1 0 n),(4,I k),(15,ew f.blocks),(16,I n),(17,I k),(25,aC l),(26,I l.length),(27,I j.1)],j.2.1,j.2.2⟩)
    (fun j=>j.1<=l.length/\(∃ ρ,fh j.2.1 j.2.2 1 n 27 3 ρ (fun i=>((l.take j.1).foldl (cO k) L0 i).map I))/\∀ i,((l.take j.1).foldl (cO k) L0 i).length<=12*k+j.1) (fun j=>l.length - j.1) (0,up m nx (some (.cells (dS x) 72)),nx+1)
    (ki eH (lj _ _ _ _)) ⟨Nat.zero_le _,⟨ρ,C.ext (fun q hq=>aw oG rfl) oM⟩,hlen⟩ ?_)
   clear C av hlen;rintro⟨j,m,nx⟩ ⟨hj,⟨ρ,C⟩,hlen⟩;dsimp only at hj C hlen ⊢;have av:=C.row;have cI:=C.oX;have U:∀ t,l[j]? =some t->(l.take (j+1)).foldl (cO k) L0=cO k ((l.take j).foldl (cO k) L0) t:=fun t ht=>lL ht;have lk:j=l.length->(l.take j).foldl (cO k) L0=bh f.blocks (k+1):=fun e=>by rw[bL,cL oG]
   generalize (l.take j).foldl (cO k) L0=L at C hlen av U lk;refine SS ?_;refine ab ⟨_,rfl,fun h=>?_,fun h=>?_⟩
   .have ss:j<l.length:=by simpa using h
    have rz:l[j]? =some l[j]:=aL ss;have kS:=cB _ (bR ss);generalize l[j]=t at rz kS;obtain⟨i,rfl⟩:=eC kS.1;have J:i<n:=by omega
    have hL:=hlen i;have U:(l.take (j+1)).foldl (cO k) L0=up L i (L i++[(k:Int)]):=U _ rz
    have od:∀ i,((l.take (j+1)).foldl (cO k) L0 i).length<=12*k+(j+1):=fun a=>by
     rw[U];exact zx (t:=(i:Int)) hlen a
    have sT:(fun a=>((l.take (j+1)).foldl (cO k) L0 a).map I)=up (fun a=>(L a).map I) i ((L i++[(k:Int)]).map I):=by rw[U];exact DA
    obtain⟨cs,kd⟩:=CG (ρ:=ρ) (L:=fun i=>(L i).map I) J;refine ws ?_;refine ap ?_;refine ab (fJ ?_);by_cases hz:L i=[]
    .have o4:jc (ρ i) ((L i).map I)=.z:=by rw[hz];rfl
     rw[o4] at kd;refine aQ ?_;refine af ?_;refine ab ?_;refine af ?_;refine ab (aP (j+1,up (up (up m nx (some (.cells [I k] 3))) (nx+1) (some (.cells [I k] 3))) 1 (some (.cells ((kI ρ (fun i=>(L i).map I) n).set i (.rs (nx+1) 0 1)) 27)),nx+2) (ao eH) ⟨oM,⟨up ρ i (nx+1),?_⟩,od⟩ oM);dsimp only;rw[sT];refine C.wl J oS oG oG ?_ ?_ (fun q hq qi _=>?_)
     .rw[hz];exact up_same _ _ _
     .rw[hz];exact aw oG (up_same _ _ _)
     .exact aw oG (aw oG (aw oG rfl))
    .have M:(L i).map I≠[]:=by simpa using hz
     have o4:jc (ρ i) ((L i).map I)=.rs (ρ i) 0 (L i).length:=by rw[nq M,List.length_map]
     rw[o4] at kd;have eO:=C.qT i J M;have wq:=C.lt i J M;have NE:=C.ne i J M;refine aQ ?_;refine af ?_;refine ab ?_;refine af ?_;refine ab (aP (j+1,up (up (up (up m nx (some (.cells [I k] 3))) (ρ i) none) (nx+1) (some (.cells ((L i).map I++[I k]) 3))) 1 (some (.cells ((kI ρ (fun i=>(L i).map I) n).set i (.rs (nx+1) 0 ((L i).length+1))) 27)),nx+2) (ao eH) ⟨oM,⟨up ρ i (nx+1),?_⟩,od⟩ oM);dsimp only;rw[sT];refine C.wl J oS oG oG ?_ ?_ (fun q hq qi kO=>?_)
     .rw[List.length_map,List.length_append];exact up_same _ _ _
     .rw[List.map_append];exact aw oG (up_same _ _ _)
     .have:=kO M;exact aw oG (aw oG (aw oG (aw oG rfl)))
   .have a9:¬ j<l.length:=by simpa using h
    have vl:=lk oG;subst vl;show AOps _ _ _ _ _ _ _ _ _;refine af ?_;refine ab (aP (k+1,m,nx) (ao eH) ⟨oM,⟨ρ,C⟩,fun i=>by have:=hlen i;dsimp only at this ⊢;omega⟩ oM)
  .have a9:¬ k<n:=by simpa using h
   have:k=n:=by omega
   subst this;exact⟨m,nx,ρ,ao eH,C⟩
 .rintro s ⟨m,nx,ρ,hg,C⟩;have oZ:¬ ∃ i,i<n/\(bh f.blocks n i).map I≠[]/\ρ i=1:=fun⟨i,h1,h2,h3⟩=>C.ne i h1 h2 h3;refine⟨_,hg.trans (Ck (l:=[(3,.rs 1 0 n)]) (ml:=[]) (fun r=>∃ i,i<n/\(bh f.blocks n i).map I≠[]/\ρ i=r) C (fun _=>.map) c3 (fun i h1 h2=>⟨i,h1,h2,rfl⟩) oZ ⟨rfl,trivial⟩ (fun x hx=>?_) trivial (fun x hx=>by cases hx)),au ?_⟩
  .simp at hx;subst hx;exact .rs oZ
  refine af ?_;refine ab (aJ (bj [(1,_,27)] eH (l:=[(2,bC (dI f.blocks))]) ⟨?_,trivial⟩) (aq rfl rfl));show sub (fz0 1 _ (prog.cellsOf 27)) (D.rs 1 0 n)=_;rw[lM (by rw[wu];simp),CI,dI,hn]
set_option maxHeartbeats 1000000 in
theorem AY{p q:D}{f:aA}{n args:Nat}(hp:Tr p)(hq:Tr q)(eK:p.one=true)(eL:q.one=true)(hn:f.blocks.length=n)(mE:0<n)(lB:n<=100000)(ha:f.args=args)(oQ:args<=1000)(wi:∀ u∈fU args,dq u)(hb:∀ b∈f.blocks,oe n b)
 (tQ:∀ b x,f.blocks[b]? =some x->∀ y∈x.ins,y.op=19->y.args.length=(bh f.blocks n b).length/\∀ r∈y.args,0<=r/\r<1280):
 PCall prog 154 [.agg (aZ p q f)] (B (rP f.blocks args)):=by
 have aT:∀ a∈[D.agg (aZ p q f)],Tr a:=.cons (jK hp hq f) .nil;have vF:=vF hp hq eK eL hn mE lB ha oQ wi hb;have wo:=wo hp hq eK eL hn lB (fun b h=>(hb b h).fin.wh) (fun b h=>(hb b h).to);have MA:eB n (fK f.blocks args):=by subst hn;exact RF hb wi
 refine a7 Lk aT (.s _) ?_;rw[U6];refine au ?_;refine af ?_;refine ab (aJ (bj [(0,aZ p q f,133)] eH (l:=[(1,.pt (aZ p q f))]) eH) ?_);have jX:rP f.blocks args=(List.range n).all (nR f.blocks (fK f.blocks args)):=by rw[rP,hn]
 rw[jX];clear jX;generalize fK f.blocks args=R at vF MA ⊢;obtain⟨lw,lr,gV,rg⟩:=MA;have vF:PCall prog 197 [.agg (aZ p q f)] (.tup [.sl (b8 R.ws) n,c6 R.re]):=by unfold c6;rw[lr];exact vF
 show AW _ _ _ _ (scopeQ _) _;refine ws ?_;refine SS ?_;refine cl vF ?_;refine aR ?_;refine ab (au ?_);refine SS ?_;refine cl wo ?_;refine SS ?_;refine ab (aJ (eR (l:=[(1,.pt (aZ p q f)),(3,.sl (b8 R.ws) n),(4,c6 R.re),(5,bC (dI f.blocks))]) eH) (OW (aB (au ?_))));refine aR ?_
 refine ab (bZ (fun s=>(List.range n).all (nR f.blocks R)=true) (eN (α:=Nat×Nat)
  (fun k=>⟨ax [(1,.pt (aZ p q f)),(3,.sl (b8 R.ws) n),(4,c6 R.re),(5,bC (dI f.blocks)),(25,ew f.blocks),(26,I n),(27,I k.1)],fun _=>none,k.2⟩)
  (fun k=>k.1<=n/\(List.range k.1).all (nR f.blocks R)=true) (fun k=>n - k.1) (0,1) (eR ⟨rfl,rfl,rfl,rfl,rfl,congrArg (fun k:Nat=>I k) hn,rfl,trivial⟩) ⟨Nat.zero_le _,rfl⟩ ?_) ?_)
 .rintro⟨k,N⟩ ⟨hk,X⟩;dsimp only at hk X ⊢;refine SS ?_;refine ab ⟨_,rfl,fun h=>?_,fun h=>?_⟩
  .have al:k<n:=by simpa using h
   have hx:f.blocks[k]? =some f.blocks[k]:=aL oG;have bT:f.blocks[k]∈f.blocks:=bR _;generalize f.blocks[k]=x at hx bT;have gk:=hb x bT;have o5:=tQ k x hx;have hw:R.ws[k]? =some R.ws[k]:=aL oG;have ij:R.re[k]? =some R.re[k]:=aL oG;have jA:=gV _ (bR (h:=by omega):R.ws[k]∈R.ws)
   have M:nR f.blocks R k=(!R.re[k]||((gm x R.ws[k]).2&&(x.ins.takeWhile bG).all (qF f.blocks R k))):=by
    rw[nR,getD_some hw,getD_some ij,getD_some hx]
   generalize R.ws[k]=w at hw jA M;generalize R.re[k]=b at ij M;refine au ?_;refine bF ?_;refine ab (aJ (px (i:=N) (l:=[(1,.pt (aZ p q f)),(3,.sl (b8 R.ws) n),(4,c6 R.re),(5,bC (dI f.blocks)),(6,I k),(7,.pt (dS x)),(25,ew f.blocks),(26,I n),(27,I k)]) (up_same _ _ _) ⟨rfl,rfl,rfl,rfl,rfl,jl,rfl,rfl,rfl,trivial⟩) (aB (aj ?_)));refine aR ?_;refine ab (cy rfl (fun h=>nO (tu ?_)) fun h=>cu (aB (mR Qr ?_)))
   .have FF:b=false:=by simpa using h
    subst FF;refine af ?_;refine ab (aP (k+1,N+1) (eR eH) ⟨oM,iN X (by rw[M];rfl)⟩ oM)
   have wk:b=true:=by simpa using h
   subst wk;have kH:=kH jA gk.len gk.ins gk.fin gk.rl gk.rf;have qS:=BV x w;rw[jA] at qS;generalize gm x w=th at kH M qS;obtain⟨w1,ok⟩:=th;dsimp only at kH M qS;refine ap ?_;refine MB ?_;refine MC ?_;refine cl kH ?_;refine bF ?_;refine bf bg (aJ (eR (l:=[(1,.pt (aZ p q f)),(3,.sl (b8 R.ws) n),(4,c6 R.re),(5,bC (dI f.blocks)),(6,I k),(7,.pt (dS x)),(9,B ok),(25,ew f.blocks),(26,I n),(27,I k)]) eH) (aB (aj ?_)));refine af ?_;refine ab (cy rfl (fun h=>?_) fun h=>cu (au ?_))
   .have bS:ok=false:=by simpa using h
    subst bS;refine aB (aj ?_);refine SS ?_;refine ab (di (cq (aO (C' (aq (d:=B false) rfl ?_)))));rw[kT al (by rw[M];rfl)]
   have bS:ok=true:=by simpa using h
   subst bS;have M:nR f.blocks R k=(x.ins.takeWhile bG).all (qF f.blocks R k):=M;refine aN ?_;have gF:=gk.len
   refine ab (eN (α:=Nat×Nat)
    (fun j=>⟨ax [(1,.pt (aZ p q f)),(3,.sl (b8 R.ws) n),(4,c6 R.re),(5,bC (dI f.blocks)),(6,I k),(25,ew f.blocks),(26,I n),(27,I k),(49,fu x.ins),(50,I x.ins.length),(51,I j.1)],fun _=>none,j.2⟩)
    (fun j=>j.1<=x.ins.length/\(∀ y∈x.ins.take j.1,bG y=true)/\(x.ins.take j.1).all (qF f.blocks R k)=true) (fun j=>x.ins.length - j.1) (0,_) (eR eH) ⟨Nat.zero_le _,oS,oS⟩ ?_)
   rintro⟨j,N⟩ ⟨hj,vG,yr⟩;dsimp only at hj vG yr ⊢;refine SS ?_;refine ab ⟨_,rfl,fun h=>?_,fun h=>?_⟩
   .have cI:j<x.ins.length:=by simpa using h
    have hy:x.ins[j]? =some x.ins[j]:=aL cI;have rA:x.ins[j]∈x.ins:=bR cI;generalize x.ins[j]=y at hy rA;refine au ?_;refine aN ?_;refine ab (aJ (px (i:=N) (l:=[(1,.pt (aZ p q f)),(3,.sl (b8 R.ws) n),(4,c6 R.re),(5,bC (dI f.blocks)),(6,I k),(11,.pt (a8 y)),(25,ew f.blocks),(26,I n),(27,I k),(49,fu x.ins),(50,I x.ins.length),(51,I j)]) (up_same _ _ _) ⟨rfl,rfl,rfl,rfl,rfl,jl,rfl,rfl,rfl,rfl,rfl,rfl,trivial⟩) (aB (aj ?_)));refine ap ?_;refine ab (cy rfl (fun h=>nO (Uf oC oC (tu ?_))) fun h=>cu (au ?_))
    .have aI:y.op≠19:=by simpa using h
     refine af ?_;refine ab (aP (k+1,_) (eR eH) ⟨oM,iN X ?_⟩ oM);rw[M,takeWhile_eq vG (fun y' h'=>by rw[hy] at h';cases h';simpa[bG] using aI)];exact yr
    have dP:y.op=19:=by simpa using h
    obtain⟨uA,y8⟩:=o5 y rA dP;have hA:=GL hn al
    have y9:∀ p∈bh f.blocks n k,∃ C:Nat,p=C/\C<n:=fun p hp=>by
     obtain⟨b,h1,h2,_⟩:=B'.1 hp;exact⟨b,h1,h2⟩
    have FI:qF f.blocks R k y=(List.range (bh f.blocks n k).length).all (pz f.blocks R k y):=by rw[qF,hn]
    have J:∀ i,pz f.blocks R k y i=(!(R.re.getD ((bh f.blocks n k).getD i 0).toNat false)||jw (eW (f.blocks.getD ((bh f.blocks n k).getD i 0).toNat gM).fin k (gm (f.blocks.getD ((bh f.blocks n k).getD i 0).toNat gM) (R.ws.getD ((bh f.blocks n k).getD i 0).toNat [])).1) (y.args.getD i 0).toNat):=fun i=>by rw[pz,hn]
    have FJ:=Ca (fun b h=>(hb b h).fin.wh) n k;generalize bh f.blocks n k=A at uA hA y9 FI J FJ
    have TD:∀ i,i<A.length->pz f.blocks R k y i=false->(List.range n).all (nR f.blocks R)=false:=fun i hi he=>by
     refine kT al ?_;rw[M];refine Bool.eq_false_iff.2 fun ht=>?_
     have YG:y∈x.ins.takeWhile bG:=by
      have:x.ins.take (j+1)=x.ins.take j++[y]:=by rw[List.take_add_one,hy];rfl
      have h2:x.ins=x.ins.take (j+1)++x.ins.drop (j+1):=(List.take_append_drop _ _).symm;rw[h2,this,List.takeWhile_append_of_pos]
      .simp
      .intro z hz;rcases List.mem_append.1 hz with h|h
       .exact vG z h
       .rw[List.mem_singleton.1 h];simp[bG,dP]
     have:=br.1 ht y YG;rw[FI,kT hi he] at this;cases this
    refine bF ?_
    refine ab (eN (α:=Nat×Nat)
     (fun i=>⟨ax [(1,.pt (aZ p q f)),(3,.sl (b8 R.ws) n),(4,c6 R.re),(5,bC (dI f.blocks)),(6,I k),(11,.pt (a8 y)),(25,ew f.blocks),(26,I n),(27,I k),(49,fu x.ins),(50,I x.ins.length),(51,I j),(61,aC A),(62,I A.length),(63,I i.1)],fun _=>none,i.2⟩)
     (fun i=>i.1<=A.length/\(List.range i.1).all (pz f.blocks R k y)=true) (fun i=>A.length - i.1) (0,_) (eR eH) ⟨Nat.zero_le _,rfl⟩ ?_)
    rintro⟨i,N⟩ ⟨hi,D6⟩;dsimp only at hi D6 ⊢;refine SS ?_;refine ab ⟨_,rfl,fun h=>?_,fun h=>?_⟩
    .have nF:i<A.length:=by simpa using h
     have NF:A[i]? =some A[i]:=aL nF;obtain⟨C,za,jz⟩:=y9 _ (bR nF);rw[za] at NF;clear za;have qj:f.blocks[C]? =some f.blocks[C]:=aL oG;have mh:f.blocks[C]∈f.blocks:=bR _;have NG:R.ws[C]? =some R.ws[C]:=aL oG;have NH:R.re[C]? =some R.re[C]:=aL oG;have EL:=gV _ (bR (h:=by omega):R.ws[C]∈R.ws);have FK:y.args[i]? =some y.args[i]:=aL oG;have sQ:=y8 _ (bR (h:=by omega):y.args[i]∈y.args);have J:=J i;rw[getD_some NF,dg,getD_some qj,getD_some NG,getD_some NH,getD_some FK] at J;generalize f.blocks[C]=xp at qj mh J;generalize R.ws[C]=wp at NG EL J;generalize R.re[C]=rb at NH J;generalize y.args[i]=r at FK sQ J;obtain⟨rn,rfl⟩:=eC sQ.1;rw[dg] at J;have tR:=hb xp mh;have kH:=Go.Proofs.Tryz.K.kH EL tR.len tR.ins tR.fin tR.rl tR.rf;have yu:=BV xp wp;rw[EL] at yu;generalize gm xp wp=tp at kH J yu;obtain⟨w2,ok2⟩:=tp;dsimp only at kH J yu;have so:=so (x:=xp.fin) (b:=(k:Int)) (w:=w2) yu (by have:=tR.fin.wh;omega) (by have:=tR.fin.wr;omega);have lz:=GZ xp.fin k w2;rw[yu] at lz;generalize eW xp.fin k w2=w3 at so lz J;have jb:=jb (w:=w3) (m:=rn) lz oG;refine ws ?_;refine aR ?_;refine ab (mR Pn ?_);refine bH ?_;refine MB ?_;refine MC ?_;refine cl kH ?_;refine bF ?_;refine bf bg (aJ (px (i:=N) (l:=[(1,.pt (aZ p q f)),(3,.sl (b8 R.ws) n),(4,c6 R.re),(5,bC (dI f.blocks)),(6,I k),(11,.pt (a8 y)),(12,I i),(13,I C),(14,.pt (w2.map cm)),(25,ew f.blocks),(26,I n),(27,I k),(49,fu x.ins),(50,I x.ins.length),(51,I j),(61,aC A),(62,I A.length),(63,I i)]) (up_same _ _ _) ⟨rfl,rfl,rfl,rfl,rfl,rfl,rfl,rfl,jl,rfl,rfl,rfl,rfl,rfl,rfl,rfl,rfl,rfl,trivial⟩) (dz Po ?_))
     have pQ:∀ v:Bool,v=pz f.blocks R k y i->(v=false->(List.range n).all (nR f.blocks R)=false)/\(v=true->(List.range (i+1)).all (pz f.blocks R k y)=true):=fun v hv=>by
      subst hv;exact⟨TD i nF,fun h=>iN D6 h⟩
     cases rb with
     |false=>
      obtain⟨_,U⟩:=pQ true J.symm;have U:=U rfl;refine aQ ?_;refine bl rfl rfl (rU rfl rfl V.h V.h (uM) oN) (fun hc=>⟨ak,(rV V.h (uM) oN)⟩) ?_;refine ap ?_;refine bl rfl rfl (jI rfl V.h V.h (JQ (by first|rfl|exact bn rfl|(simp;done)|(simp;omega)|omega))) (fun hc=>⟨ak,(jJ V.h V.h (by first|rfl|exact bn rfl|(simp;done)|(simp;omega)|omega))⟩) ?_;refine gc so ?_;refine aR ?_;refine gc jb ?_;refine af ?_;refine bf bg (an rfl (fun h=>oH) fun h=>cD ?_);refine af ?_;refine ab (aP (i+1,_) (eR eH) ⟨oM,U⟩ oM)
     |true=>
      obtain⟨iL,U⟩:=pQ (jw w3 rn) J.symm;generalize jw w3 rn=hv at jb iL U;refine aQ ?_;refine bl rfl rfl (rU rfl rfl V.h V.h (uM) oN) (fun hc=>⟨ak,(rV V.h (uM) oN)⟩) ?_;refine ap ?_;refine bl rfl rfl (jI rfl V.h V.h (JQ (by first|rfl|exact bn rfl|(simp;done)|(simp;omega)|omega))) (fun hc=>⟨ak,(jJ V.h V.h (by first|rfl|exact bn rfl|(simp;done)|(simp;omega)|omega))⟩) ?_;refine gc so ?_;refine aR ?_;refine gc jb ?_;refine af ?_;refine bf bg (an rfl (fun h=>?_) fun h=>cD ?_)
      .have hf:hv=false:=by simpa using h
       refine ws ?_;refine SS ?_;refine ab (aU (cq (cq (cq (aO (C' (aq (d:=B false) rfl ?_)))))));rw[iL hf]
      .have ht:hv=true:=by simpa using h
       have U:=U ht;refine af ?_;refine ab (aP (i+1,_) (eR eH) ⟨oM,U⟩ oM)
    .have a9:¬ i<A.length:=by simpa using h
     have hiA:i=A.length:=by omega
     subst hiA;show AOps _ _ _ _ _ _ _ _ _;refine af ?_;refine ab (aP (j+1,_) (eR eH) ⟨oM,fun z hz=>?_,?_⟩ oM)
     .dsimp only at hz;rw[List.take_add_one,hy] at hz;rcases List.mem_append.1 hz with h|h
      .exact vG z h
      .rw[List.mem_singleton.1 h];simp[bG,dP]
     .dsimp only;rw[List.take_add_one,hy,List.all_append,yr];simpa[FI] using D6
   .have a9:¬ j<x.ins.length:=by simpa using h
    have yR:j=x.ins.length:=by omega
    subst yR;show AOps _ _ _ _ _ _ _ _ _;refine af ?_;refine ab (aP (k+1,_) (eR eH) ⟨oM,iN X ?_⟩ oM);rw[List.take_length] at vG yr;rw[M,takeWhile_eq (j:=x.ins.length) (by rw[List.take_length];exact vG) (fun y h=>by simp at h),List.take_length];exact yr
  .have a9:¬ k<n:=by simpa using h
   have:k=n:=by omega
   subst this;exact X
 .rintro⟨env,m,nx⟩ X;refine⟨_,.refl _,aj ?_⟩;refine SS ?_;refine ab (C' (aq (d:=B true) rfl ?_));rw[X]
end Go.Proofs.Tryz.K
namespace Go.Argus
theorem NI:∀ b1 b2 b3 b4 b5 b6:Bool,(if(if(if(if(if(!b1)=true then true else !b2)=true then true else !b3)=true then true else b4)=true then true else b5)=true then true else !b6)= !(b1&&(b2&&(b3&&(!b4&&(!b5&&b6))))):=by decide
theorem NK:∀ b1 b2 b3 b4 b5:Bool,(if(if(if(if(!b1)=true then true else !b2)=true then true else !b3)=true then true else b4)=true then true else b5)= !(b1&&(b2&&(b3&&(!b4&& !b5)))):=by decide
theorem hd3:∀ b1 b2 b3 b4:Bool,(if(if b1=true then true else b2)=true then true else if b3=true then !b4 else false)=(b1||(b2||(b3&& !b4))):=by decide
def j6(l:List Int):List (Value×D):=l.map fun a=>(.int .i64 a,B true)
theorem Dk(a:Int):∀ l:List Int,(lookD (.int .i64 a) (j6 l)).map (·.2)=if(l.any (·==a))=true then some (B true) else none
 |[]=>rfl
 |b::l=>by
  have ih:=Dk a l;unfold j6 at ih ⊢;simp only[List.map_cons,lookD,veq,veq1,List.any_cons,beq_self_eq_true,Bool.true_and] at ih ⊢;by_cases h:b=a
  .subst h;simp
  .have hb:(b==a)=false:=by simpa using h
   simp only[hb,Bool.false_eq_true,if_false,Option.map_map,Bool.false_or];exact ih
theorem TE{P:Program}{t:TypeId}(C:zeroD P (melP P t)=B false)(a:Int)(l:List Int):gotD P t false (lookD (.int .i64 a) (j6 l))=B (l.any (·==a)):=by
 have h:=Dk a l;cases h1:lookD (.int .i64 a) (j6 l) with
 |none=>
  rw[h1] at h;cases h2:l.any (·==a) with
  |true=>rw[h2] at h;simp at h
  |false=>simp[gotD,C]
 |some x=>
  rw[h1] at h;cases h2:l.any (·==a) with
  |false=>rw[h2] at h;simp at h
  |true=>rw[h2] at h;simp at h;simp[gotD,h]
theorem TF{a:Int}{l:List Int}(h:l.any (·==a)=false):putD (.int .i64 a) (B true) (j6 l)=j6 (l++[a]):=by
 have h1:=Dk a l;rw[h] at h1;unfold putD;cases h2:lookD (.int .i64 a) (j6 l) with
 |none=>simp[j6]
 |some x=>rw[h2] at h1;simp at h1
theorem Ir{P:Program}{kt:TypeId}(hk:P.underlying kt=some (.int .i64))(l:List Int):(j6 l).all (fun e=>keyP P kt e.1)=true:=by
 refine br.2 fun x hx=>?_;obtain⟨y,_,rfl⟩:=List.mem_map.1 hx;simp[keyP,hk]
theorem JR{P:Program}{kt:TypeId}(hk:P.underlying kt=some (.int .i64))(a:Int):keyP P kt (.int .i64 a)=true:=by simp[keyP,hk]
theorem SF{i sz:Nat}{C:List D}(l:List Int):Row.sub (fz0 i C sz) (.map (j6 l))=.map (j6 l):=by
 show Row.map ((j6 l).map _)=_;unfold j6;rw[List.map_map];rfl
theorem OL{bs:List bu}{k:Nat}{x:bu}(hx:bs[k]? =some x):iR bs (k+1)=if(x.fin.kind==7)=true then iR bs k++[x.fin.a] else iR bs k:=by
 unfold iR;rw[List.take_add_one,hx];by_cases h:(x.fin.kind==7)=true
 .simp[h]
 .simp[h]
end Go.Argus
namespace Go.Proofs.Tryz.K
set_option maxRecDepth 10000
theorem BB:prog.underlying 3=some (.int .i64):=kr
theorem U7:zeroD prog (melP prog 127)=B false:=kr
set_option maxHeartbeats 1000000 in
theorem EM{f:aA}:PCall prog 153 [.agg (ay f)] (B (iu f)):=by
 have aT:∀ a∈[D.agg (ay f)],Tr a:=.cons (.agg (fq f)) .nil;refine a7 Ll aT (.s _) ?_;rw[U9];refine au ?_;refine af ?_;refine ab (aJ (px (i:=0) (l:=[(1,.pt (ay f))]) rfl eH) (au ?_));have EN:=EN (f:=f);refine SS ?_;refine cl EN ?_;refine SS ?_;refine cE (fR (cs':=aZ _ _ _) rfl rfl rfl rfl) ak (dx V.h V.h (by first|(simp;done)|exact⟨rfl,bn rfl⟩|(simp;omega)) (by rfl)) ?_;refine ab (aJ (px (i:=1) (l:=[(1,.pt (ay f)),(3,.pt (aZ P0 Q0 f))]) rfl eH) (au ?_));refine aQ ?_;refine bH ?_;refine af ?_;refine ab (aJ (eR (l:=[(1,.pt (ay f)),(3,.pt (aZ P0 Q0 f)),(4,B (mW f))]) ⟨rfl,rfl,congrArg B (hd3 (f.result==1) (f.result==2) (f.result==0) f.iter),trivial⟩) (aB (aj ?_)));have YH:iu f=(kp f&&(m7 f&&(kq f&&((List.range f.blocks.length).all (gH f)&&(List.range f.blocks.length).all (nS f))))):=rfl;rw[YH];have X:kp f=(iX f.name&&(ct f.args 0 (if(f.ag.length:Int)<6 then(f.ag.length:Int) else 6)&&(mW f&&(!decide ((1200:Int)<f.ag.length)&&(!decide ((60:Int)<f.aK.length)&&ct f.blocks.length 1 1200))))):=rfl;generalize jX:mW f=NL at X ⊢;refine af ?_;refine cl oA ?_;refine dF ?_;refine bl rfl rfl (KB rfl rfl) (fun hc=>⟨ak,rfl⟩) ?_;refine gc jB ?_;refine aQ ?_;refine aQ ?_;refine aN ?_;refine gc jB ?_;refine af ?_;refine ab (cy rfl (fun h=>?_) fun h=>cu (aB (aj ?_)))
 .have h:=(NI _ _ _ _ _ _).symm.trans h;rw[<- X] at h;have h:kp f=false:=by simpa using h
  refine aB (aj ?_);refine SS ?_;refine ab (di (aq (d:=B false) rfl ?_));rw[h];rfl
 have h:=(NI _ _ _ _ _ _).symm.trans h;rw[<- X] at h;have J:kp f=true:=by simpa using h
 rw[J,Bool.true_and];rw[X] at J;simp only[aM,ir,Bool.not_eq_true',decide_eq_false_iff_not] at J;obtain⟨_,ha,hr,lA,U,cV⟩:=J;subst hr;clear h X
 have oQ:0<=f.args/\f.args<=f.ag.length/\f.args<=6:=by
  split at ha<;>omega
 have hK:m7 f=(dK f.ag 3&&(dK (f.ag.take f.args.toNat) 2&&(dK f.aK 2&&(!decide ((6:Int)<f.signals.length)&& !f.signals.any fun s=> !isName s)))):=rfl;have AU:=AU (l:=f.signals) (g:=193) (fs:=[]) (cs:=[]) (p:=fun s=> !isName s) (.fn oS oS) (fun x _=>YE);have ha2:0<=f.args/\f.args<=f.ag.length:=⟨oQ.1,oQ.2.1⟩
 refine af ?_;refine cl EK ?_;refine bF ?_;refine bl rfl rfl (RG rfl NM c5 rfl ME ha2) (fun hc=>⟨(by repeat' (first|exact trivial|exact hc|exact rfl|refine And.intro ?_ ?_)),trivial⟩) ?_;refine gc EK ?_;refine aR ?_;refine gc EK ?_;refine aQ ?_;refine af ?_;refine gc AU ?_;refine SS ?_;refine ab (cy rfl (fun h=>?_) fun h=>cu (aB (au ?_)))
 .have h:=(NK _ _ _ _ _).symm.trans h;rw[<- hK] at h;have h:m7 f=false:=by simpa using h
  refine aB (aj ?_);refine SS ?_;refine ab (di (aq (d:=B false) rfl ?_));rw[h];rfl
 have h:=(NK _ _ _ _ _).symm.trans h;rw[<- hK] at h;have J:m7 f=true:=by simpa using h
 rw[J,Bool.true_and];rw[hK] at J;simp only[aM,Bool.not_eq_true',decide_eq_false_iff_not] at J;obtain⟨_,_,sI,hsg,_⟩:=J;clear h hK AU;have hS:kq f=(List.range (f.signals.length - 1)).all (pA f.signals):=rfl;rw[hS];have fN:f.signals.length<=6:=by omega
 refine SS ?_;refine ab (bZ (fun s=>Ghost prog s ⟨ax [(1,.pt (ay f)),(3,.pt (aZ P0 Q0 f))],fun _=>none,2⟩/\(List.range (f.signals.length - 1)).all (pA f.signals)=true) (cP (α:=Nat) (fun k=>⟨ax [(1,.pt (ay f)),(3,.pt (aZ P0 Q0 f)),(5,I (k+1:Nat))],fun _=>none,2⟩) (fun k=>k<=f.signals.length - 1/\(List.range k).all (pA f.signals)=true) (fun k=>f.signals.length - k) 0 (eR eH) ⟨Nat.zero_le _,rfl⟩ ?_) ?_)
 .rintro k ⟨hk,C⟩;refine aR ?_;refine ab ⟨_,rfl,fun h=>?_,fun h=>?_⟩
  .have al:k+1<f.signals.length:=by have:((k+1:Nat):Int)<f.signals.length:=by simpa using h
                                    omega
   have h1:f.signals[k]? =some f.signals[k]:=aL oG;have h2:f.signals[k+1]? =some f.signals[k+1]:=aL oG;have U:pA f.signals k=Op.bytesLess f.signals[k].toList f.signals[k+1].toList:=by rw[pA,getD_some h1,getD_some h2]
   generalize f.signals[k]=s1 at h1 U;generalize f.signals[k+1]=s2 at h2 U;have ow:((k+1:Nat):Int) - 1=(k:Int)/\ -9223372036854775808<=(k:Int)/\(k:Int)<=9223372036854775807:=by omega
   refine dz Pp ?_;refine aQ ?_;refine af ?_;refine aD (Js rfl rfl) ak trivial ?_;refine bf bg (an rfl (fun h=>?_) fun h=>cD ?_)
   .have hf:pA f.signals k=false:=by rw[U];simpa using h
    refine ws ?_;refine SS ?_;refine ab (aU (cq (aO (aq (d:=B false) rfl ?_))));rw[kT oG hf];rfl
   .have ht:pA f.signals k=true:=by rw[U];simpa using h
    refine ap ?_;exact ab (aP (k+1) (eR eH) ⟨oG,iN C ht⟩ oG)
  .have a9:¬ k+1<f.signals.length:=by intro J;simp at h;omega
   have:k=f.signals.length - 1:=by omega
   subst this;exact⟨eR eH,C⟩
 rintro s ⟨hg,C⟩;rw[C,Bool.true_and];clear C hS;refine⟨_,hg,au ?_⟩;refine af ?_;refine ab (aJ (aH (l:=[(1,.pt (ay f)),(3,.pt (aZ P0 Q0 f)),(6,.mp 2)]) (ml:=[(2,.map (j6 []))]) eH eH) (aB (au ?_)));refine aN ?_;generalize hn:f.blocks.length=n at cV ⊢;refine ab (bZ (fun s=>∃ N,Ghost prog s ⟨ax [(1,.pt (ay f)),(3,.pt (aZ P0 Q0 f))],fun _=>none,N⟩/\(List.range n).all (gH f)=true) (eN (α:=Nat×Nat) (fun k=>⟨ax [(1,.pt (ay f)),(3,.pt (aZ P0 Q0 f)),(6,.mp 2),(123,ew f.blocks),(124,I n),(125,I k.1)],bc [(2,.map (j6 (iR f.blocks k.1)))],k.2⟩) (fun k=>k.1<=n/\(List.range k.1).all (gH f)=true/\3<=k.2) (fun k=>n - k.1) (0,3) (aH eH eH) ⟨Nat.zero_le _,rfl,bE _⟩ ?_) ?_)
 .rintro⟨k,N⟩ ⟨hk,C,hN⟩;dsimp only at hk C hN ⊢;refine SS ?_;refine ab ⟨_,rfl,fun h=>?_,fun h=>?_⟩
  .have al:k<n:=by simpa using h
   have hx:f.blocks[k]? =some f.blocks[k]:=aL oG;generalize f.blocks[k]=x at hx;have M:gH f k=(gI f x.fin&&(!decide ((200:Int)<x.ins.length)&& !(x.fin.kind==7&&(iR f.blocks k).any (·==x.fin.a)))):=by rw[gH,getD_some hx]
   have lH:=OL hx;have AZ:=AZ (f:=f) (x:=x.fin);generalize iR f.blocks k=l at M lH;refine au ?_;refine aN ?_;refine ab (aJ (mU (i:=N) (l:=[(1,.pt (ay f)),(3,.pt (aZ P0 Q0 f)),(6,.mp 2),(8,.pt (dS x)),(123,ew f.blocks),(124,I n),(125,I k)]) (ml:=[(2,.map (j6 l))]) (up_same _ _ _) ⟨rfl,rfl,rfl,jl,rfl,rfl,rfl,trivial⟩ ⟨s9 oG (aw oG (aw oG rfl)) (SF l),trivial⟩) (aB (aj ?_)));generalize gI f x.fin=e at AZ M;refine ap ?_;refine cl AZ ?_;refine dF ?_;refine ab (cy rfl (fun h=>?_) fun h=>cu (aj ?_))
   .have hf:gH f k=false:=by
     rw[M];cases e with
     |false=>rfl
     |true=>have:decide ((200:Int)<x.ins.length)=true:=by simpa using h
            rw[this];rfl
    refine aB (aj ?_);refine SS ?_;refine ab (di (cq (aO (aq (d:=B false) rfl ?_))));rw[kT al hf];rfl
   have M:gH f k= !(x.fin.kind==7&&l.any (·==x.fin.a)):=by
    rw[M];cases e with
    |false=>simp at h
    |true=>have:decide ((200:Int)<x.ins.length)=false:=by simpa using h
           rw[this];rfl
   refine aN ?_;refine ab (an rfl (fun h7=>?_) fun h7=>cD ?_)
   .rw[h7] at M lH;refine aB (aj ?_);refine aN ?_;refine aD (Q7 rfl rfl rfl D7 (TE U7 _ _)) cY ⟨D8,JR BB _,Ir BB _⟩ ?_;refine ab (cy rfl (fun h=>?_) fun h=>cu (fJ ?_))
    .have hf:gH f k=false:=by rw[M,h];rfl
     refine aB (aj ?_);refine SS ?_;refine ab (di (cq (aO (aq (d:=B false) rfl ?_))));rw[kT al hf];rfl
    .have ht:gH f k=true:=by rw[M,h];rfl
     refine aN ?_;refine cE (Tm rfl rfl rfl rfl D7) cY ⟨D8,JR BB _,Ir BB _⟩ ?_;refine ab ?_;refine af ?_;refine ab (aP (k+1,_) (aH eH ⟨?_,trivial⟩) ⟨oM,iN C ht,oM⟩ oM);dsimp only;rw[lH,if_pos rfl, <- TF h];exact up_same _ _ _
   .rw[h7] at M lH;refine af ?_;refine ab (aP (k+1,_) (aH eH ⟨?_,trivial⟩) ⟨oM,iN C M,oM⟩ oM);dsimp only;rw[lH,if_neg oS];rfl
  .have a9:¬ k<n:=by simpa using h
   have:k=n:=by omega
   subst this;exact⟨N,eR eH,C⟩
 rintro s ⟨N,hg,C⟩;rw[C,Bool.true_and]
 have hE:∀ x∈f.blocks,AH f x.fin:=fun x hx=>by
  obtain⟨k,hk⟩:=dh hx;have al:k<n:=by rw[<- hn];exact(bA.1 hk).1
  have:=br.1 C k (by simpa using al);rw[gH,getD_some hk] at this;simp only[aM] at this;exact CK oG jX this.1
 have wo:=wo (f:=f) jo jq rfl rfl hn oG (fun b h=>by have:=(hE b h).wh;omega) (fun b h t ht=>hn▸(hE b h).to t (zv.1 ht));refine⟨_,hg,aj ?_⟩;refine SS ?_;refine cl wo ?_;refine SS ?_;refine ab (aB (au ?_));refine aN ?_;refine ab (bZ (fun s=>(List.range n).all (nS f)=true) (eN (α:=Nat×Nat) (fun k=>⟨ax [(1,.pt (ay f)),(3,.pt (aZ P0 Q0 f)),(9,bC (dI f.blocks)),(157,ew f.blocks),(158,I n),(159,I k.1)],fun _=>none,k.2⟩) (fun k=>k.1<=n/\(List.range k.1).all (nS f)=true) (fun k=>n - k.1) (0,N) (eR ⟨rfl,rfl,rfl,rfl,congrArg (fun k:Nat=>I k) hn,rfl,trivial⟩) ⟨Nat.zero_le _,rfl⟩ ?_) ?_)
 .rintro⟨k,N⟩ ⟨hk,C⟩;dsimp only at hk C ⊢;refine SS ?_;refine ab ⟨_,rfl,fun h=>?_,fun h=>?_⟩
  .have al:k<n:=by simpa using h
   have hx:f.blocks[k]? =some f.blocks[k]:=aL oG;have bT:f.blocks[k]∈f.blocks:=bR _;generalize f.blocks[k]=x at hx bT;have hA:=GL hn al;have lG:nS f k=(List.range x.ins.length).all (qp f k x.ins):=by rw[nS,getD_some hx]
   have lC:∀ j,qp f k x.ins j=gq f k (x.ins.getD j dc) ((x.ins.take (j+1)).all bG) (bh f.blocks n k).length:=fun j=>by rw[qp,hn]
   generalize bh f.blocks n k=A at hA lC;refine au ?_;refine bF ?_;refine ab (aJ (px (i:=N) (l:=[(1,.pt (ay f)),(3,.pt (aZ P0 Q0 f)),(9,bC (dI f.blocks)),(10,I k),(11,.pt (dS x)),(157,ew f.blocks),(158,I n),(159,I k)]) (up_same _ _ _) ⟨rfl,rfl,rfl,rfl,jl,rfl,rfl,rfl,trivial⟩) (aj ?_));refine SS ?_;refine ab (au ?_);refine aN ?_
   have fy:x.ins.length<=200:=by
    have:=br.1 ‹(List.range n).all (gH f)=true› k (by simpa using al);rw[gH,getD_some hx] at this;simp only[aM,Bool.not_eq_true',decide_eq_false_iff_not] at this;omega
   refine ab (eN (α:=Nat×Nat) (fun j=>⟨ax [(1,.pt (ay f)),(3,.pt (aZ P0 Q0 f)),(9,bC (dI f.blocks)),(10,I k),(12,B ((x.ins.take j.1).all bG)),(157,ew f.blocks),(158,I n),(159,I k),(165,fu x.ins),(166,I x.ins.length),(167,I j.1)],fun _=>none,j.2⟩) (fun j=>j.1<=x.ins.length/\(List.range j.1).all (qp f k x.ins)=true) (fun j=>x.ins.length - j.1) (0,N+1) (eR eH) ⟨Nat.zero_le _,rfl⟩ ?_);rintro⟨j,N⟩ ⟨hj,D9⟩;dsimp only at hj D9 ⊢;refine SS ?_;refine ab ⟨_,rfl,fun h=>?_,fun h=>?_⟩
   .have cI:j<x.ins.length:=by simpa using h
    have hy:x.ins[j]? =some x.ins[j]:=aL cI;generalize x.ins[j]=y at hy;have rv:(x.ins.take (j+1)).all bG=((x.ins.take j).all bG&&bG y):=by rw[List.take_add_one,hy,List.all_append];simp
    have lC:=lC j;rw[getD_some hy] at lC;generalize (x.ins.take j).all bG=ph at rv;refine au ?_;refine aN ?_;refine ab (aJ (px (i:=N) (l:=[(1,.pt (ay f)),(3,.pt (aZ P0 Q0 f)),(9,bC (dI f.blocks)),(10,I k),(12,B ph),(14,.pt (a8 y)),(157,ew f.blocks),(158,I n),(159,I k),(165,fu x.ins),(166,I x.ins.length),(167,I j)]) (up_same _ _ _) ⟨rfl,rfl,rfl,rfl,rfl,jl,rfl,rfl,rfl,rfl,rfl,rfl,trivial⟩) (au ?_));refine dF ?_;refine ab (aJ (eR (l:=[(1,.pt (ay f)),(3,.pt (aZ P0 Q0 f)),(9,bC (dI f.blocks)),(10,I k),(12,B ((x.ins.take (j+1)).all bG)),(14,.pt (a8 y)),(157,ew f.blocks),(158,I n),(159,I k),(165,fu x.ins),(166,I x.ins.length),(167,I j)]) ⟨rfl,rfl,rfl,rfl,?_,rfl,rfl,rfl,rfl,rfl,rfl,rfl,trivial⟩) (dz Pq ?_))
    .rw[rv];cases ph<;>rfl
    have A0:=A0 (f:=f) (b:=(k:Int)) (ahead:=(A.length:Int)) (x:=y) (phis:=(x.ins.take (j+1)).all bG);rw[<- lC] at A0;refine aQ ?_;refine cl A0 ?_;refine SS ?_;refine bf bg (an rfl (fun h=>?_) fun h=>cD ?_)
    .have hf:qp f k x.ins j=false:=by simpa using h
     refine ws ?_;refine SS ?_;refine ab (aU (cq (cq (aO (aq (d:=B false) rfl ?_)))));rw[kT al (by rw[lG];exact kT cI hf)]
    .have ht:qp f k x.ins j=true:=by simpa using h
     refine af ?_;exact ab (aP (j+1,_) (eR eH) ⟨oM,iN D9 ht⟩ oM)
   .have a9:¬ j<x.ins.length:=by simpa using h
    have yR:j=x.ins.length:=by omega
    subst yR;show AOps _ _ _ _ _ _ _ _ _;refine af ?_;exact ab (aP (k+1,_) (eR eH) ⟨oM,iN oN (lG.trans D9)⟩ oM)
  .have a9:¬ k<n:=by simpa using h
   have:k=n:=by omega
   subst this;show(List.range k).all (nS f)=true
   assumption
 .rintro⟨env,m,nx⟩ C;refine⟨_,.refl _,aj ?_⟩;refine SS ?_;refine ab (aq (d:=B true) rfl ?_);rw[C]
theorem sU{f:aA}:PCall prog 95 [.agg (ay f)] (I (dV f)):=by
 have M:∀ a∈[D.agg (ay f)],Tr a:=.cons (.agg (fq f)) .nil;refine a7 MF M (.s _) ?_;rw[YJ];have EM:=EM (f:=f);refine au ?_;refine af ?_;refine ab (aJ (px (i:=0) (l:=[(1,.pt (ay f))]) rfl eH) (kf (aj ?_)));refine SS ?_;refine cl EM ?_;refine af ?_;refine ab (an rfl (fun h=>aj ?_) fun h=>aj ?_)
 .have hf:iu f=false:=by simpa using h
  refine SS ?_;refine ab (aU (bk (aO (aq (d:=I 80) rfl ?_))));rw[dV,if_neg (by simp[hf])]
 .have hf:iu f=true:=by simpa using h
  have C:=Al hf;obtain⟨args,ha⟩:=eC C.args.1;have X:=C.args.2;have AY:=AY (p:=.s (.map none)) (q:=.s (.map none)) (f:=f) (.s _) (.s _) rfl rfl rfl C.pos (by have:=C.qh;omega) ha oG (zy args) C.blk (fun b x hx y hy U=>C.BD hx hy U);have J:dV f=if rP f.blocks args=true then 0 else 81:=by rw[dV,if_pos hf,ha,dg]
  generalize rP f.blocks args=r at AY J;refine SS ?_;refine MG ?_;refine cl AY ?_;refine af ?_;refine ab (an rfl (fun h=>aj ?_) fun h=>jN (aj ?_))
  .have hr:r=false:=by simpa using h
   refine SS ?_;refine ab (aU (bk (aO (aq (d:=I 81) rfl ?_))));rw[J,hr];rfl
  .have hr:r=true:=by simpa using h
   refine SS ?_;refine ab (aU (aq (d:=I 0) rfl ?_));rw[J,hr];rfl
end Go.Proofs.Tryz.K
namespace Go.Argus
def Lm(a b:Int):Int:=intBitsV .andNot .u64 a b
def AI(w:List Int)(m:Nat):List Int:=w.set (m / 64) (Lm (w.getD (m / 64) 0) (IntKind.u64.wrap (1*2 ^ (min (m % 64) 64))))
def xY(w:List Int)(n:Int):List Int:=if 0<=n then AI w n.toNat else w
def sc(w v:List Int):Nat->List Int
 |0=>w
 |k+1=>(sc w v k).set k (uB ((sc w v k).getD k 0) (v.getD k 0))
def U'(w v:List Int):List Int:=sc w v 19
@[simp] theorem abN (w : List Int) (m : Nat) : (AI w m).length = w.length := by simp [AI]
@[simp] theorem abO (w : List Int) (n : Int) : (xY w n).length = w.length := by unfold xY; split <;> simp
@[simp] theorem G8 (w v : List Int) : ∀ k, (sc w v k).length = w.length
 |0=>rfl
 |k+1=>by simp[sc,G8 w v k]
@[simp] theorem abP (w v : List Int) : (U' w v).length = w.length := G8 w v 19
def ep(x:End):List Int:=if x.kind≠3/\x.kind≠4 then [x.to] else []
def j8(x:End):List Int:=if x.kind=2\/x.kind=8 then ep x++[x.eD] else ep x
def cG(x:End)(k:Nat):List Int:=j8 x++(x.az.take k).map (·.to)
def cX(x:End):List Int:=if 0<=x.b7 then cG x x.az.length++[x.b7] else cG x x.az.length
theorem HS{x:End}{k:Nat}{w:hP}(h:x.az[k]? =some w):cG x (k+1)=cG x k++[w.to]:=by
 unfold cG;rw[List.take_add_one,h,List.map_append,List.append_assoc];rfl
theorem wW(x:End):(j8 x).length<=2:=by unfold j8 ep;repeat' split<;>simp
theorem wF(x:End):(cX x).length<=x.az.length+3:=by
 have:=wW x;unfold cX cG;split<;>simp<;>omega
end Go.Argus
end
namespace Go.Argus
open Go Go.Abs
theorem Ov(v:BitVec 64)(i:Nat):(IntKind.u64.wrap (v.toNat:Int)).toNat.testBit i=v.getLsbD i:=by
 rw[wrap_u64 v.isLt,dg,BitVec.testBit_toNat]
theorem BT{a:Int}(ha:dq a)(i:Nat):(BitVec.ofInt 64 a).getLsbD i=a.toNat.testBit i:=by
 obtain⟨n,rfl⟩:=eC ha.1;have h:=ha.2;rw[<- BitVec.testBit_toNat,BitVec.toNat_ofInt];congr 1;omega
theorem Xf{a b:Int}(ha:dq a)(hb:dq b)(i:Nat):(uB a b).toNat.testBit i=(a.toNat.testBit i||b.toNat.testBit i):=by
 have:uB a b=IntKind.u64.wrap (((BitVec.ofInt 64 a||| BitVec.ofInt 64 b).toNat:Nat):Int):=rfl;rw[this,Ov,BitVec.getLsbD_or,BT ha,BT hb]
theorem Kq{a b:Int}(ha:dq a)(hb:dq b)(i:Nat):(mg a b).toNat.testBit i=(a.toNat.testBit i&&b.toNat.testBit i):=by
 have:mg a b=IntKind.u64.wrap (((BitVec.ofInt 64 a&&& BitVec.ofInt 64 b).toNat:Nat):Int):=rfl;rw[this,Ov,BitVec.getLsbD_and,BT ha,BT hb]
theorem Cs(v:BitVec 64):dq (IntKind.u64.wrap (v.toNat:Int)):=by
 rw[wrap_u64 v.isLt];have:=v.isLt;unfold dq;omega
theorem PQ(a b:Int):dq (Lm a b):=Cs (BitVec.ofInt 64 a&&& ~~~ BitVec.ofInt 64 b)
theorem QZ(a b:Int):dq (uB a b):=Cs (BitVec.ofInt 64 a||| BitVec.ofInt 64 b)
theorem S8{k:Nat}(hk:k<64):IntKind.u64.wrap (1*2 ^ (min k 64))=((2 ^ k:Nat):Int):=by
 have h1:min k 64=k:=by omega
 have h2:(2:Nat) ^ k<2 ^ 64:=Nat.pow_lt_pow_right oG hk;rw[h1,Int.one_mul, <- wrap_u64 h2]
 norm_cast
def dD(w:List Int)(r:Nat):Bool:=(w.getD (r / 64) 0).toNat.testBit (r % 64)
def eP(w:List Int):Prop:=∀ u∈w,dq u
theorem eP.get{w:List Int}(h:eP w)(i:Nat):dq (w.getD i 0):=by
 rw[bD];cases hx:w[i]? with
 |none=>exact⟨oS,oS⟩
 |some u=>exact h u (cg hx)
theorem Sd{k:Nat}(hk:k<64):dq ((2 ^ k:Nat):Int):=by
 have h2:(2:Nat) ^ k<2 ^ 64:=Nat.pow_lt_pow_right oG hk;generalize (2:Nat) ^ k=z at h2;unfold dq;omega
theorem CT{w:List Int}(h:eP w)(m:Nat):jw w m=dD w m:=by
 have C:=h.get (m / 64);unfold jw dD;generalize w.getD (m / 64) 0=u at C;have hk:min (m % 64) 64=m % 64:=by omega
 rw[hk];obtain⟨n,rfl⟩:=eC C.1
 have e:((n:Int).fdiv (2 ^ (m % 64)))=((n / 2 ^ (m % 64):Nat):Int):=by
  rw[Int.fdiv_eq_ediv_of_nonneg _ (Int.le_of_lt (Int.pow_pos oG)),Int.natCast_ediv,Int.natCast_pow];rfl
 rw[e];have hd:n / 2 ^ (m % 64)<=n:=Nat.div_le_self _ _
 have hq:dq ((n / 2 ^ (m % 64):Nat):Int):=by
  have:=C.2;revert hd;generalize n / 2 ^ (m % 64)=z;intro hd;unfold dq;omega
 have h1:dq 1:=by unfold dq;omega
 have hb:∀ i,(mg ((n / 2 ^ (m % 64):Nat):Int) 1).toNat.testBit i=(n.testBit (m % 64)&&decide (i=0)):=fun i=>by
  rw[Kq hq h1,dg];by_cases hi:i=0
  .subst hi;simp[Nat.testBit_eq_decide_div_mod_eq]
  .have:(1:Int).toNat.testBit i=false:=by
    show Nat.testBit 1 i=false;cases i with
    |zero=>omega
    |succ j=>simp[Nat.testBit_succ]
   rw[this];simp[hi]
 have hp:dq (mg ((n / 2 ^ (m % 64):Nat):Int) 1):=Cs (BitVec.ofInt 64 _&&& BitVec.ofInt 64 1);generalize mg ((n / 2 ^ (m % 64):Nat):Int) 1=z at hb hp;obtain⟨q,rfl⟩:=eC hp.1;simp only[dg] at hb ⊢;cases hn:n.testBit (m % 64) with
 |false=>
  have:q=0:=Nat.eq_of_testBit_eq fun i=>by rw[hb i,hn];simp
  subst this;rfl
 |true=>
  have:q=1:=Nat.eq_of_testBit_eq fun i=>by
   rw[hb i,hn];cases i with
   |zero=>simp
   |succ j=>simp[Nat.testBit_succ]
  subst this;rfl
theorem Jh{w:List Int}{i:Nat}{u:Int}(hi:i<w.length)(r:Nat):dD (w.set i u) r=if r / 64=i then u.toNat.testBit (r % 64) else dD w r:=by
 unfold dD;simp only[bD,List.getElem?_set];split
 .rename_i h;subst h;simp[hi]
 .rename_i h;rw[if_neg fun e=>h e.symm]
theorem R8{w:List Int}(h:eP w){m:Nat}(hm:m / 64<w.length)(r:Nat):dD (tF w m) r=(dD w r||decide (r=m)):=by
 have hk:m % 64<64:=by omega
 unfold tF;rw[S8 hk,Jh hm];split
 .rename_i e;rw[Xf (h.get _) (Sd hk),dg,Nat.testBit_two_pow,dD,e];congr 1;apply decide_eq_decide.2;omega
 .rename_i e;have:¬ r=m:=fun h=>e (by rw[h]);simp[this]
theorem eP.set{w:List Int}(h:eP w){i:Nat}{u:Int}(C:dq u):eP (w.set i u):=fun x hx=>by
 rcases List.mem_or_eq_of_mem_set hx with h1|h1
 .exact h x h1
 .subst h1;exact C
theorem eP.less{w:List Int}(h:eP w)(m:Nat):eP (AI w m):=h.set (PQ _ _)
theorem eP.xY{w:List Int}(h:eP w)(n:Int):eP (xY w n):=by
 unfold Argus.xY;split
 .exact h.less _
 .exact h
theorem eP.sc{w v:List Int}(h:eP w):∀ k,eP (sc w v k)
 |0=>h
 |k+1=>(eP.sc h k).set (QZ _ _)
theorem Hs{w v:List Int}(h:eP w)(hv:eP v)(hl:w.length=v.length)(he:∀ r,dD w r=dD v r):w=v:=by
 apply List.ext_getElem hl;intro i h1 h2;have e1:w.getD i 0=w[i]:=by simp[bD,aL h1]
 have e2:v.getD i 0=v[i]:=by simp[bD,aL h2]
 have a:=h w[i] oS;have b:=hv v[i] oS
 have:w[i].toNat=v[i].toNat:=Nat.eq_of_testBit_eq fun k=>by
  by_cases hk:k<64
  .have:=he (i*64+k);unfold dD at this;rw[show(i*64+k) / 64=i by omega,show(i*64+k) % 64=k by omega,e1,e2] at this;exact this
  .have h2:2 ^ 64<=2 ^ k:=Nat.pow_le_pow_right oG oG;unfold dq at a b;rw[Nat.testBit_lt_two_pow oG,Nat.testBit_lt_two_pow oG]
 unfold dq at a b;omega
theorem Sa(n r:Nat):dD (List.replicate n 0) r=false:=by
 unfold dD;rw[bD,List.getElem?_replicate];split<;>simp
section
variable(beh:Nat->List Int)(ZT:Nat->Bool->Int)(ent:Nat->Nat->Int)
variable{beh ZT ent}{YL:Nat->Bool}{wIn:Nat->Bool->Bool}
end
def pS(s:List Bool)(c:Int):Bool:=s.getD c.toNat false
def cR(beh:Nat->List Int)(w:Int):Nat->List Bool×List Int->Nat->List Bool×List Int
 |0,s,_=>s
 |k+1,s,b=>
  let r:=(beh b).foldl (fun s c=>if pS s.1 c=false/\c≠w then cR beh w k s c.toNat else s) (s.1.set b true,s.2)
  (r.1,r.2++[(b:Int)])
def cb(beh:Nat->List Int)(w:Int)(k:Nat)(s:List Bool×List Int)(l:List Int):List Bool×List Int:=
 l.foldl (fun s c=>if pS s.1 c=false/\c≠w then cR beh w k s c.toNat else s) s
theorem rN(beh:Nat->List Int)(w:Int)(k:Nat)(s:List Bool×List Int)(b:Nat):
 cR beh w (k+1) s b=((cb beh w k (s.1.set b true,s.2) (beh b)).1,(cb beh w k (s.1.set b true,s.2) (beh b)).2++[(b:Int)]):=rfl
theorem zH(beh:Nat->List Int)(w:Int)(k:Nat)(s:List Bool×List Int)(l:List Int)(c:Int):
 cb beh w k s (l++[c])=(if pS (cb beh w k s l).1 c=false/\c≠w then cR beh w k (cb beh w k s l) c.toNat else cb beh w k s l):=by
 rw[cb,List.foldl_append];rfl
theorem S9{α:Type}{p:List α->Prop}(h0:p [])(h1:∀ l a,p l->p (l++[a]))(l:List α):p l:=by
 have h:∀ l:List α,p l.reverse:=fun l=>by
  induction l with
  |nil=>exact h0
  |cons a l ih=>rw[List.reverse_cons];exact h1 _ _ ih
 have:=h l.reverse
 rwa[List.reverse_reverse] at this
theorem BW{l:List Bool}{b:Nat}:(l.set b true).count false<=l.count false:=by
 induction l generalizing b with
 |nil=>simp
 |cons x l ih=>
  cases b with
  |zero=>cases x<;>simp
  |succ b=>simp only[List.set_cons_succ,List.count_cons];have:=ih (b:=b);omega
theorem pg{l:List Bool}{b:Nat}(h:l[b]? =some false):(l.set b true).count false+1=l.count false:=by
 induction l generalizing b with
 |nil=>simp at h
 |cons x l ih=>
  cases b with
  |zero=>simp at h;subst h;simp
  |succ b=>simp only[List.set_cons_succ,List.count_cons];have:=ih (b:=b) (by simpa using h);omega
structure qb(beh:Nat->List Int)(w:Int)(s s':List Bool×List Int):Prop where
 len:s'.1.length=s.1.length
 cnt:s'.1.count false<=s.1.count false
 mono:∀ i,s.1.getD i false=true->s'.1.getD i false=true
 out:∃ l:List Int,s'.2=s.2++l/\l.Nodup/\∀ x,x∈l↔0<=x/\s'.1.getD x.toNat false=true/\s.1.getD x.toNat false=false
theorem qb.refl{beh:Nat->List Int}{w:Int}(s:List Bool×List Int):qb beh w s s:=⟨rfl,bE _,fun _ h=>h,[],oS,List.nodup_nil,fun x=>by
 constructor
 .intro h;simp at h
 .rintro⟨_,h1,h2⟩;rw[h1] at h2;cases h2⟩
theorem qb.trans{beh:Nat->List Int}{w:Int}{s t u:List Bool×List Int}(h1:qb beh w s t)(h2:qb beh w t u):qb beh w s u:=by
 refine⟨h2.len.trans h1.len,Nat.le_trans h2.cnt h1.cnt,fun i h=>h2.mono i (h1.mono i h),?_⟩;obtain⟨U,a1,b1,C⟩:=h1.out;obtain⟨X,a2,b2,J⟩:=h2.out;refine⟨U++X,by rw[a2,a1,List.append_assoc],?_,fun x=>?_⟩
 .rw[List.nodup_append];refine⟨b1,b2,fun a ha b hb e=>?_⟩;subst e;have:=((C a).1 ha).2.1;rw[((J a).1 hb).2.2] at this;cases this
 .rw[List.mem_append,C,J];constructor
  .rintro(⟨h0,h,h'⟩|⟨h0,h,h'⟩)
   .exact⟨h0,h2.mono _ h,h'⟩
   .refine⟨h0,h,?_⟩;cases M:s.1.getD x.toNat false with
    |false=>rfl
    |true=>rw[h1.mono _ M] at h';cases h'
  .rintro⟨h0,h,h'⟩;cases ht:t.1.getD x.toNat false with
   |true=>exact .inl ⟨h0,rfl,h'⟩
   |false=>exact .inr ⟨h0,h,rfl⟩
theorem getD_set_true{l:List Bool}{b i:Nat}(hb:b<l.length):(l.set b true).getD i false=(decide (i=b)||l.getD i false):=by
 simp only[bD,List.getElem?_set];split
 .rename_i h;subst h;simp[hb]
 .rename_i h;have:¬ i=b:=fun e=>h e.symm;simp[this]
section
variable{beh:Nat->List Int}{w:Int}{n:Nat}(hb:∀ b,∀ c∈beh b,0<=c/\c.toNat<n)
theorem pj{l:List Bool}{c:Nat}(h:l.getD c false=false)(hc:c<l.length):l[c]? =some false:=by
 rw[bD,aL hc] at h;rw[aL hc];simpa using h
include hb in
theorem Ia:∀ (k:Nat) (s:List Bool×List Int) (b:Nat),s.1.length=n->b<n->s.1.count false<=k->s.1.getD b false=false->
 qb beh w s (cR beh w k s b)/\(cR beh w k s b).1.getD b false=true/\
 (∀ x,(cR beh w k s b).1.getD x false=true->s.1.getD x false=false->∀ c∈beh x,c≠w->(cR beh w k s b).1.getD c.toNat false=true)
 |0,s,b,hn,NP,hk,hs=>by
  have:=pg (pj hs oG);omega
 |k+1,s,b,hn,NP,hk,hs=>by
  have h0:qb beh w s (s.1.set b true,s.2++[(b:Int)]):=by
   refine⟨oS,BW,fun i h=>?_,[(b:Int)],rfl,oS,fun x=>?_⟩
   .simp only;rw[getD_set_true oG,h,Bool.or_true]
   .simp only[getD_set_true (show b<s.1.length by omega),List.mem_singleton];constructor
    .rintro rfl;simp[<- List.getD_eq_getElem?_getD,hs]
    .rintro⟨h1,h2,h3⟩;rw[h3,Bool.or_false,decide_eq_true_eq] at h2;omega
  have hF:∀ l:List Int,(∀ c∈l,0<=c/\c.toNat<n)->∀ o,let r:=cb beh w k (s.1.set b true,o) l
   qb beh w (s.1.set b true,o) r/\(∀ c∈l,c≠w->r.1.getD c.toNat false=true)/\
   (∀ x,r.1.getD x false=true->(s.1.set b true).getD x false=false->∀ c∈beh x,c≠w->r.1.getD c.toNat false=true):=by
   intro l
   induction l using S9 with
   |h0=>intro _ o;exact⟨.refl _,fun c h=>by simp at h,fun x h h'=>by rw[show(cb beh w k (s.1.set b true,o) []).1=s.1.set b true from rfl,h'] at h;cases h⟩
   |h1 l c ih=>
    intro hl o;obtain⟨C,U,X⟩:=ih (fun c h=>hl c (by simp[h])) o;simp only;rw[zH];generalize cb beh w k (s.1.set b true,o) l=t at C U X;have hc:=hl c oS;have c8:t.1.length=n:=by rw[C.len];simp[hn]
    split
    .rename_i nH;have mB:t.1.getD c.toNat false=false:=nH.1
     have tO:t.1.count false<=k:=by
      have a1:=C.cnt;have a2:=pg (pj hs oG);simp only at a1;omega
     obtain⟨q1,q2,q3⟩:=Ia k t c.toNat c8 hc.2 tO mB;refine⟨C.trans q1,fun M h' J=>?_,fun x h1 h2 M vY J=>?_⟩
     .rw[List.mem_append] at h';rcases h' with h'|h'
      .exact q1.mono _ (U M h' J)
      .simp at h';subst h';exact q2
     .cases ht:t.1.getD x false with
      |true=>exact q1.mono _ (X x ht h2 M vY J)
      |false=>exact q3 x h1 ht M vY J
    .rename_i nH;refine⟨C,fun M h' J=>?_,X⟩;rw[List.mem_append] at h';rcases h' with h'|h'
     .exact U M h' J
     .simp at h';subst h';cases ht:t.1.getD M.toNat false with
      |true=>rfl
      |false=>exact absurd ⟨ht,J⟩ nH
  rw[rN];obtain⟨C,U,X⟩:=hF (beh b) (hb b) s.2;generalize cb beh w k (s.1.set b true,s.2) (beh b)=t at C U X;have wk:t.1.getD b false=true:=C.mono b (by simp only;rw[getD_set_true oG];simp);refine⟨⟨by have:=C.len;simp at this;exact this,Nat.le_trans C.cnt BW,fun i h=>C.mono i (by simp only;rw[getD_set_true oG,h,Bool.or_true]),?_⟩,wk,fun x h1 h2 c hc J=>?_⟩
  .obtain⟨l,e,nd,hm⟩:=C.out;simp only at e hm;refine⟨l++[(b:Int)],by simp only;rw[e,List.append_assoc],?_,fun x=>?_⟩
   .rw[List.nodup_append];refine⟨nd,oS,fun a ha b' j3 e=>?_⟩;simp at j3;subst j3 e;have:=((hm _).1 ha).2.2;rw[getD_set_true oG] at this;simp at this
   .rw[List.mem_append,hm,getD_set_true oG,List.mem_singleton];simp only;constructor
    .rintro(⟨h0,h1,h2⟩|rfl)
     .simp only[Bool.or_eq_false_iff] at h2;exact⟨h0,h1,h2.2⟩
     .exact⟨oG,by simpa using wk,by simpa using hs⟩
    .rintro⟨h0,h1,h2⟩;by_cases hx:x=(b:Int)
     .exact .inr hx
     .refine .inl ⟨h0,h1,?_⟩;rw[h2];have:¬ x.toNat=b:=by omega
      simp[this]
  .simp only at h1 ⊢;by_cases hx:x=b
   .subst hx;exact U c hc J
   .exact X x h1 (by rw[getD_set_true oG,h2];simp[hx]) c hc J
end
def dH(beh:Nat->List Int)(n:Nat)(w:Int):List Bool:=if w=0 then List.replicate n false else(cR beh w n (List.replicate n false,[]) 0).1
def ky(beh:Nat->List Int)(n:Nat):List Int:=(cR beh (-1) n (List.replicate n false,[]) 0).2.reverse
section
variable{beh:Nat->List Int}{n:Nat}(hb:∀ b,∀ c∈beh b,0<=c/\c.toNat<n)(hn:0<n)
include hb hn
theorem E1(w:Int):qb beh w (List.replicate n false,[]) (cR beh w n (List.replicate n false,[]) 0)/\(cR beh w n (List.replicate n false,[]) 0).1.getD 0 false=true/\
 (∀ x,(cR beh w n (List.replicate n false,[]) 0).1.getD x false=true->∀ c∈beh x,c≠w->(cR beh w n (List.replicate n false,[]) 0).1.getD c.toNat false=true):=by
 have C:∀ i,(List.replicate n false).getD i false=false:=fun i=>by
  rw[bD,List.getElem?_replicate];split<;>rfl
 obtain⟨h1,h2,h3⟩:=Ia (w:=w) hb n (List.replicate n false,[]) 0 oS hn oS (C 0);exact⟨h1,h2,fun x hx=>h3 x hx (C x)⟩
theorem wG(w:Int):(dH beh n w).length=n:=by
 unfold dH;split
 .simp
 .rw[(E1 hb hn w).1.len];simp
theorem Qy{x:Int}:x∈ky beh n↔0<=x/\(dH beh n (-1)).getD x.toNat false=true:=by
 obtain⟨h1,_,_⟩:=E1 hb hn (-1);obtain⟨l,e,_,hm⟩:=h1.out;unfold ky dH;rw[if_neg oG,List.mem_reverse,e];simp only[List.nil_append];rw[hm]
 have C:(List.replicate n false).getD x.toNat false=false:=by
  rw[bD,List.getElem?_replicate];split<;>rfl
 simp only[C,and_true]
end
end Go.Argus
section
open Go Go.Abs Go.Proofs Go.Argus
namespace Go.Proofs.Tryz.K
set_option maxRecDepth 10000
def sV(x:Argus.End)(l:List Int)(s:St):Prop:=∃ r m nx,r<nx/\m r=some (.cells (l.map I) 3)/\Ghost prog s ⟨ax [(1,.pt (aW x)),(3,.rs r 0 l.length)],m,nx⟩
theorem yv{x:Argus.End}(hlen:x.az.length<=100000):OCall prog 115 [.agg (aW x)] ((cX x).map I) (cX x).length 3:=by
 have aT:∀ a∈[D.agg (aW x)],Tr a:=.cons (.agg (iQ x)) .nil;refine uy Ln aT (.map fun _=>.s _) ?_;rw[Va];refine au ?_;refine af ?_;refine ab (aJ (bj [(0,aW x,69)] eH (l:=[(1,.pt (aW x))]) eH) (au ?_));refine SS ?_;refine ab ⟨_,.nilrow _ _ _ 3 3 rfl,?_⟩;refine dA (sV x (ep x)) (aj ?_) fun s C=>?_
 .have yes:x.kind≠3/\x.kind≠4->ep x=[x.to]:=fun h=>by rw[ep,if_pos h]
  have no:¬ (x.kind≠3/\x.kind≠4)->ep x=[]:=fun h=>by rw[ep,if_neg h]
  have av:up (fun _=>(none:Option Row)) 1 (some (.cells [] 3)) 1=some (.cells [] 3):=up_same _ _ _;by_cases h3:x.kind=3
  .have ja:(x.kind !=3)=false:=by simp[h3]
   refine aN ?_;(iterate 3 refine z fun _ _=>?_);refine SS ?_;refine ab (an rfl (fun h=>oH) fun h=>aV ?_);rw[no (by simp[h3])];exact⟨_,_,_,Nat.lt_succ_self _,up_same _ _ _,ao eH⟩
  .by_cases h4:x.kind=4
   .have ja:(x.kind !=3)=true:=by simp[h4]
    have D':(x.kind !=4)=false:=by simp[h4]
    refine bH ?_;refine ab (an rfl (fun h=>(by simp[h4] at h)) fun h=>aV ?_);rw[no (by simp[h4])];exact⟨_,_,_,Nat.lt_succ_self _,up_same _ _ _,ao eH⟩
   .have ja:(x.kind !=3)=true:=by simp[h3]
    have D':(x.kind !=4)=true:=by simp[h4]
    refine bH ?_;refine ab (an rfl (fun h=>?_) fun h=>(by simp[h4] at h));refine fw ?_;refine bF ?_;refine ab ?_;rw[yes ⟨h3,h4⟩];exact⟨_,_,_,Nat.lt_succ_self _,up_same _ _ _,ao eH⟩
 obtain⟨r,m,nx,hr,av,hg⟩:=C;refine⟨_,hg,dA (sV x (j8 x)) (aj ?_) fun s C=>?_⟩
 .have J:j8 x=if x.kind=2\/x.kind=8 then ep x++[x.eD] else ep x:=rfl
  have M:(ep x).length<=1:=by unfold ep;split<;>simp
  generalize ep x=l at av J M;have X:(l.map I).length=l.length:=by simp
  by_cases h2:x.kind=2\/x.kind=8
  .rw[if_pos h2] at J;refine bH ?_;refine ab (an rfl (fun h=>fw ?_) fun h=>(by rcases h2 with h2|h2<;>simp[h2] at h));refine bF ?_;refine ab ?_;rw[J];refine⟨_,_,_,Nat.lt_succ_self _,(up_same _ _ _).trans (by rw[List.map_append];rfl),ao ⟨rfl,?_,trivial⟩⟩;show D.rs _ 0 _=D.rs _ 0 _;rw[List.length_append];rfl
  .rw[if_neg h2] at J;refine bH ?_;refine ab (an rfl (fun h=>(by exfalso;apply h2;revert h;by_cases e2:x.kind=2<;>by_cases e8:x.kind=8<;>simp[e2,e8])) fun h=>aV ?_);rw[J];exact⟨r,m,nx,hr,av,ao eH⟩
 clear hg hr av;obtain⟨r,m,nx,hr,av,hg⟩:=C;refine⟨_,hg,dA (sV x (cG x x.az.length)) (au ?_) fun s C=>?_⟩
 .refine aN ?_
  refine ab (eN (α:=Nat×Nat×Mem×Nat) (fun s=>⟨ax [(1,.pt (aW x)),(3,.rs s.2.1 0 (cG x s.1).length),(33,lN x.az),(34,I x.az.length),(35,I s.1)],s.2.2.1,s.2.2.2⟩)
   (fun s=>s.1<=x.az.length/\s.2.1<s.2.2.2/\s.2.2.1 s.2.1=some (.cells ((cG x s.1).map I) 3)) (fun s=>x.az.length - s.1) (0,r,m,nx) (ao ⟨rfl,?_,rfl,rfl,rfl,trivial⟩) ⟨Nat.zero_le _,hr,?_⟩ ?_)
  .show D.rs r 0 _=D.rs r 0 _;simp[cG]
  .show m r=_;rw[av];simp[cG]
  clear hg hr av;rintro⟨j,r,m,nx⟩ ⟨hj,hr,av⟩;dsimp only at hj hr av ⊢;refine SS ?_;refine ab ⟨_,rfl,fun h=>?_,fun h=>?_⟩
  .have cI:j<x.az.length:=by simpa using h
   have hy:x.az[j]? =some x.az[j]:=aL cI;generalize x.az[j]=w at hy;have U:=HS hy;have sR:(cG x (j+1)).length=(cG x j).length+1:=by rw[U];simp
   have X:((cG x j).map I).length=(cG x j).length:=by simp
   have M:(cG x j).length<=2+j:=by have:=wW x;unfold cG;simp;omega
   generalize cG x j=l at av U X sR M;refine ws ?_;refine aN ?_;refine ab (fJ ?_);refine af ?_;refine Mn ?_;refine SS ?_;refine tN (tt rfl (aw oG (aw oG (aw oG av))) rfl V.h V.h (uO (up_same _ _ _) rfl) rfl) ak ⟨V.h,rfl,(by first|omega|exact bn rfl|(simp;done)|(simp;omega)),oC,(by first|rfl|(simp;done)|(simp;omega)),(by unfold maxLen;first|omega|(simp;omega)),(by rw[b3];first|omega|(simp;omega)),(by first|(simp;done)|(simp;omega))⟩ ?_;refine SS ?_;refine ab ?_;refine af ?_;refine ab (aP (j+1,nx+1+1,_,_) (ao ⟨rfl,?_,rfl,rfl,rfl,trivial⟩) ⟨oM,oM,?_⟩ oM)
   .show D.rs _ 0 _=D.rs _ 0 _;rw[sR]
   .dsimp only;rw[U,List.map_append];exact up_same _ _ _
  .have a9:¬ j<x.az.length:=by simpa using h
   have:j=x.az.length:=by omega
   subst this;exact⟨r,m,nx,hr,av,ao eH⟩
 clear hg hr av;obtain⟨r,m,nx,hr,av,hg⟩:=C;refine⟨_,hg,dA (sV x (cX x)) (aj ?_) fun s C=>?_⟩
 .have hd:cX x=if 0<=x.b7 then cG x x.az.length++[x.b7] else cG x x.az.length:=rfl
  have M:(cG x x.az.length).length<=2+x.az.length:=by have:=wW x;unfold cG;simp;omega
  generalize cG x x.az.length=l at av hd M;have X:(l.map I).length=l.length:=by simp
  refine ap ?_;refine ab (an rfl (fun h=>fw ?_) fun h=>aV ?_)
  .rw[if_pos (by simpa using h)] at hd;refine bF ?_;refine ab ?_;rw[hd];refine⟨_,_,_,Nat.lt_succ_self _,(up_same _ _ _).trans (by rw[List.map_append];rfl),ao ⟨rfl,?_,trivial⟩⟩;show D.rs _ 0 _=D.rs _ 0 _;rw[List.length_append];rfl
  .rw[if_neg (by simpa using h)] at hd;rw[hd];exact⟨r,m,nx,hr,av,ao eH⟩
 clear hg hr av;obtain⟨r,m,nx,hr,av,hg⟩:=C;refine⟨_,hg,aj ?_⟩;refine af ?_;exact ab (aq rfl ⟨r,rfl,av⟩)
end Go.Proofs.Tryz.K
namespace Go.Argus
def eS(f:aA)(beh ahd:List (List Int))(c:D):List D:=[S f.name,B f.iter,I f.args,U8 f.result,io f.ag,io f.aK,mY f.signals,ew f.blocks,bC beh,bC ahd,c]
theorem Cn{f:aA}{beh ahd:List (List Int)}{c:D}(hc:Tr c):∀ a∈eS f beh ahd c,Tr a:=.cons (.s _) (.cons (.s _) (.cons (.s _) (.cons (.s _) (.cons (mV _) (.cons (mV _) (.cons (td _) (.cons (zJ _) (.cons (uQ _) (.cons (uQ _) (.cons hc .nil))))))))))
theorem HT{f:aA}{beh ahd:List (List Int)}{c:D}(hc:Tr c):Tr (.pt (eS f beh ahd c)):=.pt (Cn hc)
@[simp] theorem abD (f : aA) (beh ahd : List (List Int)) (c : D) : (eS f beh ahd c).length = 11 := rfl
def xZ(x:bu):List bd:=x.ins.takeWhile bG
def TG(A:List Int)(a:Int)(x:bu):List Int:=(xZ x).map fun y=>y.args.getD (nu (fun y=>a==y) A).toNat 0
def YK(b:Int)(l:List Int):Nat:=l.countP fun y=>y==b
def TH(x:End)(b:Int):Bool:=if((YK b (cX x):Int)==1)=true then x.to==b else false
def zV(x:End)(b:Int):Int:=if TH x b=true then dw x else -1
def YL(y:bu)(r:Int):Bool:=(xZ y).any fun z=>z.to==r
def SH(n:Nat)(b:Int):Bool:=if decide (0<=b)=true then decide (b<(n:Int)) else false
end Go.Argus
namespace Go.Proofs.Tryz.K
set_option maxRecDepth 10000
section
variable{f:aA}{beh ahd:List (List Int)}{c:D}(hc:Tr c)(iL:c.one=true)
include hc iL
end
section
variable{f:aA}{beh ahd:List (List Int)}{c:D}(hc:Tr c)(iL:c.one=true)
include hc iL
end
end Go.Proofs.Tryz.K
namespace Go.Argus
def sd(l:List bd):List (List D):=(List.range l.length).map fun i=>[I ((l.length - 1 - i:Nat):Int),.agg (a8 (l.getD (l.length - 1 - i) dc))]
@[simp] theorem Qs (l : List bd) : (sd l).length = l.length := by simp [sd]
theorem Qt{l:List bd}{i:Nat}{x:bd}(hi:i<l.length)(hx:l[l.length - 1 - i]? =some x):(sd l)[i]? =some [I ((l.length - 1 - i:Nat):Int),.agg (a8 x)]:=by
 unfold sd;rw[List.getElem?_map,List.getElem?_range hi];simp[bD,hx]
def bw(beh:List (List Int))(b:Nat):List Int:=beh.getD b []
theorem HU{beh:List (List Int)}{b:Nat}(h:b<beh.length):beh[b]? =some (bw beh b):=by
 unfold bw;rw[bD,aL h];rfl
theorem G9(beh:Nat->List Int)(w:Int)(k:Nat)(s:List Bool×List Int)(c:Int)(l:List Int):
 cb beh w k s (c::l)=cb beh w k (if pS s.1 c=false/\c≠w then cR beh w k s c.toNat else s) l:=rfl
theorem wV{beh:Nat->List Int}{w:Int}:∀ (k:Nat),(∀ s b,(cR beh w k s b).1.length=s.1.length/\(cR beh w k s b).1.count false<=s.1.count false)/\
 (∀ l s,(cb beh w k s l).1.length=s.1.length/\(cb beh w k s l).1.count false<=s.1.count false):=by
 have key:∀ k,(∀ s b,(cR beh w k s b).1.length=s.1.length/\(cR beh w k s b).1.count false<=s.1.count false)->
  (∀ l s,(cb beh w k s l).1.length=s.1.length/\(cb beh w k s l).1.count false<=s.1.count false):=fun k h l=>by
  induction l with
  |nil=>exact fun s=>⟨rfl,bE _⟩
  |cons c l ih=>
   intro s;rw[G9];split
   .obtain⟨a1,a2⟩:=ih (cR beh w k s c.toNat);obtain⟨b1,b2⟩:=h s c.toNat;exact⟨a1.trans b1,Nat.le_trans a2 b2⟩
   .exact ih s
 intro k
 induction k with
 |zero=>exact⟨fun s b=>⟨rfl,bE _⟩,key 0 fun s b=>⟨rfl,bE _⟩⟩
 |succ k ih=>
  have h:∀ s b,(cR beh w (k+1) s b).1.length=s.1.length/\(cR beh w (k+1) s b).1.count false<=s.1.count false:=fun s b=>by
   rw[rN];obtain⟨a1,a2⟩:=ih.2 (beh b) (s.1.set b true,s.2);refine⟨a1.trans oS,Nat.le_trans a2 BW⟩
  exact⟨h,key (k+1) h⟩
theorem TI{beh:Nat->List Int}{w:Int}{k:Nat}{s:List Bool×List Int}{b:Nat}:(cR beh w (k+1) s b).2≠[]:=by
 rw[rN];simp
theorem YO{l c:List Int}{n k:Nat}(hl:l.length=n)(hc:c.length=n)(h:∀ p,p<n->c.getD p 0=if p<k\/n<=p+k then l.getD (n - 1 - p) 0 else l.getD p 0)(hk:n<=2*k+1):c=l.reverse:=by
 apply List.ext_getElem (by simp[hl,hc]);intro p h1 h2;rw[List.getElem_reverse];have hp:=h p oG;rw[show c.getD p 0=c[p] by simp[bD,aL h1]] at hp;rw[hp];have e:∀ (i j:Nat) (h:i=j) (hj:j<l.length),l.getD i 0=l[j]:=fun i j h hj=>by subst h;simp[bD,aL hj]
 split
 .exact e _ _ oG _
 .exact e _ _ oG _
end Go.Argus
namespace Go.Proofs.Tryz.K
set_option maxRecDepth 10000
section
variable{f:aA}{beh ahd:List (List Int)}{c:D}(hc:Tr c)(iL:c.one=true)
include hc iL
end
theorem YM{l:List bd}(hlen:l.length<=100000):SeqA prog 176 [] [.pt [fu l]] (sd l):=by
 refine Du mixed Lo kr fun L J Stop m nx hI U h0=>?_;rw[Vb];refine au ?_;refine aN ?_
 refine ab (cP (α:=Nat×Mem×Nat) (fun k=>⟨ax [(0,.fn (.yield L) [] []),(1,.pt [fu l]),(3,I ((l.length:Int) - 1 - k.1))],k.2.1,k.2.2⟩)
  (fun k=>k.1<=l.length/\J k.1 k.2.1 k.2.2) (fun k=>l.length - k.1) (0,m,nx) (ao ⟨rfl,rfl,congrArg (fun z:Int=>I z) (show(l.length:Int) - 1=(l.length:Int) - 1 - ((0:Nat):Int) by omega),trivial⟩) ⟨oG,h0⟩ ?_)
 rintro⟨k,m,nx⟩ ⟨hk,C⟩;dsimp only at hk C ⊢;refine af ?_;refine ab ⟨_,rfl,fun h=>?_,fun h=>?_⟩
 .have al:k<l.length:=by have h:(0:Int)<=(l.length:Int) - 1 - k:=by simpa using h
                         omega
  have hx:l[l.length - 1 - k]? =some l[l.length - 1 - k]:=aL oG;generalize l[l.length - 1 - k]=x at hx;have hy:=Qt al hx;have M:(l.length:Int) - 1 - k=((l.length - 1 - k:Nat):Int):=by omega
  rw[M];refine ws ?_;refine bF ?_;refine Ew rfl rfl cY ⟨rfl,k,hy,C,fun d m' nx' hp=>?_⟩;rcases hp with⟨rfl,hp⟩|⟨rfl,hp⟩
  .refine SS ?_;refine ab (an rfl (fun h=>oH) fun h=>cD ?_);refine ap ?_;exact ab (aP (k+1,m',nx') (ao ⟨rfl,rfl,congrArg (fun z:Int=>I z) (show((l.length - 1 - k:Nat):Int) - 1=(l.length:Int) - 1 - ((k+1:Nat):Int) by omega),trivial⟩) ⟨by simp only;omega,hp⟩ (by simp only;omega))
  .refine SS ?_;exact ab (an rfl (fun h=>aU (cq (qA (.inr hp)))) fun h=>oH)
 .have X:¬ k<l.length:=by
   intro al;simp at h;omega
  have:k=l.length:=by omega
  subst this;exact pG (.inl (by rw[Qs];exact C))
section
variable{f:aA}{beh ahd:List (List Int)}{c:D}(hc:Tr c)(iL:c.one=true)
include hc iL
theorem A2{n:Nat}{w:Int}(hn:beh.length=n)(iC:∀ b,∀ t∈bw beh b,0<=t/\t.toNat<n)(cV:∀ b,(bw beh b).length<=100000){i5 i6 r:Nat}(X:i5≠i6)(ze:i5≠r)(NO:i6≠r):∀ (k:Nat) (m:Mem) (nx:Nat) (seen:List Bool) (o:List Int) (b:Nat),
 i5<nx->i6<nx->r<nx->m i5=some (.cells [.rs r 0 n] 52)->m i6=some (.cells [.fn (.func 168) [] [.rp i5 0,.pt [.pt (eS f beh ahd c)],.pt [I w],.rp i6 0]] 128)->m r=some (.cells (seen.map B) 4)->
 seen.length=n->b<n->seen.count false<=k->seen.getD b false=false->
 ACalls prog 168 [I b,.rp i5 0,.pt [.pt (eS f beh ahd c)],.pt [I w],.rp i6 0] m nx (fun d m' nx'=>d=.tup []/\nx'=nx/\m'=up m r (some (.cells ((cR (bw beh) w k (seen,o) b).1.map B) 4)))
 |0,m,nx,seen,o,b,h5,h6,hr,FM,qY,ud,eg,hb,tO,mI=>by
  have _:=hc;have _:=iL;have:=pg (pj mI oG);omega
 |k+1,m,nx,seen,o,b,h5,h6,hr,FM,qY,ud,eg,hb,tO,mI=>by
  have ww:=HU (beh:=beh) (b:=b) oG;have cB:=iC b;have gF:=cV b;have mB:=pg (pj mI oG);have IH:=A2 (w:=w) hn iC cV X ze NO k;refine sO Lp ?_;rw[Vc];have av:=FM;have eO:=ud;rw[rN];generalize bw beh b=l at ww cB gF;refine ws ?_;refine ap ?_;refine MH ?_;refine ab (au ?_);refine aQ ?_
  refine ab (eN (α:=Nat) (fun j=>⟨ax [(1,.rp i5 0),(3,.pt [I w]),(4,.rp i6 0),(17,aC l),(18,I l.length),(19,I j)],up m r (some (.cells ((cb (bw beh) w k (seen.set b true,o) (l.take j)).1.map B) 4)),nx⟩)
   (fun j=>j<=l.length) (fun j=>l.length - j) 0 (ki eH ?_) (Nat.zero_le _) ?_)
  .rw[List.take_zero];show up m r _=up m r (some (.cells ((seen.set b true).map B) 4));rw[List.map_set]
  intro j hj;obtain⟨cl,cc⟩:=(wV (beh:=bw beh) (w:=w) k).2 (l.take j) (seen.set b true,o)
  have bL:∀ t,l[j]? =some t->cb (bw beh) w k (seen.set b true,o) (l.take (j+1))=if pS (cb (bw beh) w k (seen.set b true,o) (l.take j)).1 t=false/\t≠w then cR (bw beh) w k (cb (bw beh) w k (seen.set b true,o) (l.take j)) t.toNat else cb (bw beh) w k (seen.set b true,o) (l.take j):=fun t ht=>by
   rw[List.take_add_one,ht];exact zH (bw beh) w k (seen.set b true,o) (l.take j) t
  have fC:j=l.length->cb (bw beh) w k (seen.set b true,o) (l.take j)=cb (bw beh) w k (seen.set b true,o) l:=fun e=>by rw[e,List.take_length]
  generalize cb (bw beh) w k (seen.set b true,o) (l.take j)=s at cl cc bL fC;simp only[List.length_set] at cl cc;have av:up m r (some (.cells (s.1.map B) 4)) i5=some (.cells [.rs r 0 n] 52):=aw ze FM;have eO:up m r (some (.cells (s.1.map B) 4)) r=some (.cells (s.1.map B) 4):=up_same _ _ _;have lY:up m r (some (.cells (s.1.map B) 4)) i6=some (.cells [.fn (.func 168) [] [.rp i5 0,.pt [.pt (eS f beh ahd c)],.pt [I w],.rp i6 0]] 128):=aw NO qY;have jC:∀ v,up (up m r (some (.cells (s.1.map B) 4))) r v=up m r v:=fun v=>lj _ _ _ _;generalize hM:up m r (some (.cells (s.1.map B) 4))=M at av eO lY jC;refine SS ?_;refine ab ⟨_,rfl,fun h=>?_,fun h=>?_⟩
  .have al:j<l.length:=by simpa using h
   have hx:l[j]? =some l[j]:=aL al;have mD:=cB _ (bR al);generalize l[j]=t at hx mD;have J:=bL t hx;obtain⟨C,rfl⟩:=eC mD.1;have yZ:C<n:=mD.2;have hv:s.1[C]? =some s.1[C]:=aL oG;have lD:s.1.getD C false=s.1[C]:=by simp[bD,hv]
   have oW:pS s.1 (C:Int)=s.1[C]:=lD;generalize s.1[C]=v at hv lD oW;have kd:=fZ (f:=B) hv;refine ws ?_;refine ap ?_;refine er ?_;refine bH ?_;refine af ?_;refine ab (an rfl (fun hp=>?_) fun hp=>?_)
   .have U:v=false/\(C:Int)≠w:=by
     revert hp;cases v<;>simp
    have J:=J.trans (if_pos ⟨oW.trans U.1,U.2⟩);refine fJ ?_;refine aD (gd rfl lY rfl V.h) ak (gf V.h V.h rfl) ?_;refine SS ?_;refine lh (IH M nx s.1 s.2 C h5 h6 hr av lY eO (cl.trans eg) yZ oG (lD.trans U.1)) rfl cY fun d m' nx' hp=>?_;obtain⟨rfl,rfl,rfl⟩:=hp;refine ab ?_;refine af ?_;refine ab (aP (j+1) (ki eH ?_) oG oG);rw[jC,J];rfl
   .have U:¬ (v=false/\(C:Int)≠w):=by
     revert hp;cases v<;>simp
    have J:=J.trans (if_neg fun hh=>U ⟨oW.symm.trans hh.1,hh.2⟩);refine cD ?_;refine af ?_;refine ab (aP (j+1) (ki eH ?_) oG oG);rw[J];exact hM.symm
  .have a9:¬ j<l.length:=by simpa using h
   refine pG ⟨rfl,rfl,?_⟩;rw[<- fC oG];exact hM.symm
end
theorem k84{m:Mem}{nx i n:Nat}{l:List Int}(hi:i<nx)(hm:m i=some (.cells (l.map I) 3))(hl:l.length=n)(hn:n<=100000):
 ACalls prog 84 [.rs i 0 n] m nx (fun r m' nx'=>r=.tup []/\nx'=nx/\m'=up m i (some (.cells (l.reverse.map I) 3))):=by
 refine sO MI ?_;rw[YP]
 have we:up m i (some (.cells (l.map I) 3))=m:=by
  funext j;simp only[up];split
  .rename_i e;rw[e,hm]
  .rfl
 have av:=hm;refine au ?_;refine aR ?_
 refine ab (cP (α:=List Int×Nat) (fun s=>⟨ax [(0,.rs i 0 n),(2,I s.2),(3,I ((n:Int) - 1 - s.2))],up m i (some (.cells (s.1.map I) 3)),nx⟩)
  (fun s=>s.1.length=n/\s.2<=n/\∀ p,p<n->s.1.getD p 0=if p<s.2\/n<=p+s.2 then l.getD (n - 1 - p) 0 else l.getD p 0) (fun s=>n - s.2) (l,0) (ki ⟨rfl,rfl,congrArg (fun z:Int=>I z) (show(n:Int) - 1=(n:Int) - 1 - ((0:Nat):Int) by omega),trivial⟩ we.symm) ⟨hl,Nat.zero_le _,fun p hp=>by rw[if_neg (by simp only;omega)]⟩ ?_)
 rintro⟨d,k⟩ ⟨hd,hk,hinv⟩;dsimp only at hd hk hinv ⊢;have av:up m i (some (.cells (d.map I) 3)) i=some (.cells (d.map I) 3):=up_same _ _ _;refine ap ?_;refine ab ⟨_,rfl,fun h=>?_,fun h=>?_⟩
 .have al:(k:Int)<(n:Int) - 1 - k:=by simpa using h
  obtain⟨j,hj⟩:∃ j:Nat,(n:Int) - 1 - k=j/\j=n - 1 - k:=⟨n - 1 - k,oG,rfl⟩
  have ha:d[k]? =some d[k]:=aL oG;have hb:d[j]? =some d[j]:=aL oG;have J:d.getD k 0=d[k]:=by simp[bD,ha]
  have M:d.getD j 0=d[j]:=by simp[bD,hb]
  have kd:=fZ (f:=I) hb;have C:=fZ (f:=I) ha;generalize U:d[k]=a at ha J C;generalize X:d[j]=b at hb M kd;clear U X;rw[hj.1];refine kX RI ?_;refine aQ ?_;refine af ?_;refine aD (gd rfl av C V.h) ak (gf V.h V.h C) ?_;refine SS ?_;refine cE (gl (d:=.s (.int _ _)) (cs':=_) rfl rfl av rfl rfl) ak (dx V.h V.h (by first|(simp;done)|exact⟨rfl,bn rfl⟩|(simp;omega)) rfl) ?_;refine af ?_;refine bf bg ?_;refine bF ?_;refine ab (aP ((d.set k b).set j a,k+1) (ki ⟨rfl,rfl,congrArg (fun z:Int=>I z) (show(j:Int) - 1=(n:Int) - 1 - ((k+1:Nat):Int) by omega),trivial⟩ ?_) ⟨by simp[hd],by simp only;omega,fun p hp=>?_⟩ (by simp only;omega))
  .rw[lj,lj];simp only[List.map_set]
  .simp only
   have e:((d.set k b).set j a).getD p 0=if p=j then a else if p=k then b else d.getD p 0:=by
    simp only[bD,List.getElem?_set];by_cases e1:j=p
    .subst e1;simp[hd,hp]
    .rw[if_neg e1,if_neg (show ¬ p=j from fun e=>e1 e.symm)];by_cases e2:k=p
     .subst e2;simp[hd,hp]
     .rw[if_neg e2,if_neg (show ¬ p=k from fun e=>e2 e.symm)]
   rw[e];have h1:=hinv p hp;by_cases e1:p=j
   .subst e1;rw[if_pos rfl,if_pos oG];have:=hinv k oG;rw[if_neg oG,J] at this;rw[this,show n - 1 - p=k by omega]
   .rw[if_neg e1];by_cases e2:p=k
    .subst e2;rw[if_pos rfl,if_pos oG];have:=hinv j oG;rw[if_neg oG,M] at this;rw[this,show n - 1 - p=j by omega]
    .rw[if_neg e2,h1];by_cases e3:p<k\/n<=p+k
     .rw[if_pos e3,if_pos oG]
     .rw[if_neg e3,if_neg oG]
 .have a9:¬ (k:Int)<(n:Int) - 1 - k:=by simpa using h
  refine pG ⟨rfl,rfl,?_⟩;rw[YO hl hd hinv oG]
section
variable{f:aA}{beh ahd:List (List Int)}{c:D}(hc:Tr c)(iL:c.one=true)
include hc iL
theorem A4{n:Nat}{w:Int}(hn:beh.length=n)(sy:f.blocks.length=n)(mE:0<n)(lB:n<=100000)(X:∀ b,∀ t∈bw beh b,0<=t/\t.toNat<n)(U:∀ b,(bw beh b).length<=100000):
 OCall prog 116 [.pt (eS f beh ahd c),I w] ((dH (bw beh) n w).map B) n 4:=by
 refine uy Ls (.cons (HT hc) (.cons (.s _) .nil)) (.map fun _=>.s _) ?_;rw[Vi];refine au ?_;refine fW (Ah (d:=.pt _) rfl rfl) ak rfl ?_;refine af ?_;refine ab (aJ (bj [(0,[.pt (eS f beh ahd c)],79),(1,[I w],3)] eH (l:=[(2,.pt [.pt (eS f beh ahd c)]),(3,.pt [I w])]) eH) (au ?_));have J:((f.blocks.length:Nat):Int).toNat=n:=sy;refine bH ?_;refine MJ ?_;refine ab (aJ (aH (l:=[(2,.pt [.pt (eS f beh ahd c)]),(3,.pt [I w]),(5,.rp 3 0)]) (ml:=[(2,.cells ((List.replicate n false).map B) 4),(3,.cells [.rs 2 0 n] 52)]) eH ⟨?_,?_,trivial⟩) (aB (aj ?_)))
 .exact congrArg (fun c=>some (Row.cells c 4)) ((congrArg (fun k=>replD k [B false]) J).trans (qu n false))
 .exact congrArg (fun k=>some (Row.cells [D.rs 2 0 k] 52)) J
 refine af ?_;refine ab (cy rfl (fun h=>?_) fun h=>cu (aj ?_))
 .have C:w=0:=by simpa using h
  refine aB (au ?_);refine af ?_;refine ab (aJ (.refl _) (di (aq rfl ⟨2,rfl,?_⟩)));rw[dH,if_pos C];rfl
 .have C:¬ w=0:=by simpa using h
  refine SS ?_;refine er ?_;refine SS ?_;refine cE (gl (d:=.fn _ _ _) (cs':=[_]) rfl rfl rfl rfl rfl) ak (dx V.h V.h (by first|(simp;done)|exact⟨rfl,bn rfl⟩|(simp;omega)) rfl) ?_;refine ab (au ?_);have A2:=A2 (f:=f) (beh:=beh) (ahd:=ahd) (w:=w) hc iL hn X U (i5:=3) (i6:=4) (r:=2) oC oC oC n;have hR:dH (bw beh) n w=(cR (bw beh) w n (List.replicate n false,[]) 0).1:=by rw[dH,if_neg C]
  have M:=(wV (beh:=bw beh) (w:=w) n).1 (List.replicate n false,[]) 0;rw[<- hR] at M;refine SS ?_;refine lh (A2 _ _ (List.replicate n false) [] 0 oG oG oG rfl rfl rfl oS mE oS (by rw[bD,List.getElem?_replicate];split<;>rfl)) rfl cY fun d m' nx' hp=>?_;obtain⟨rfl,rfl,rfl⟩:=hp;rw[<- hR];generalize dH (bw beh) n w=R at M hR ⊢;refine ab (aJ (aH (l:=[(5,.rp 3 0)]) (ml:=[(2,.cells (R.map B) 4),(3,.cells [.rs 2 0 n] 52)]) eH eH) (au ?_));refine af ?_;exact ab (aJ (.refl _) (aq rfl ⟨2,rfl,rfl⟩))
end
end Go.Proofs.Tryz.K
end
