/- Part 3. -/
import Derived.Test.YtnagfmlifobdiaaGreatDoorTells2
import Derived.Below
import Derived.Carry
import Derived.ChangeOld
import Derived.MakeChecks
import Derived.OpenShut
set_option linter.all false
set_option maxHeartbeats 4000000
set_option maxRecDepth 10000
open List(replicate)
namespace Go.Proofs.Tryz.K
open Go.Abs
def zf(i:Nat):Code->Option (Array Oper)
 | .region j o _=>bif Nat.beq i j then some o else none
 | .seq a b=>match zf i a with
  |some x=>some x
  |none=>zf i b
 | .cond _ a b=>match zf i a with
  |some x=>some x
  |none=>zf i b
 | .block _ b=>zf i b
 | .loop b=>zf i b
 | .scope b=>zf i b
 | .rangeFunc _ _ a b=>match zf i a with
  |some x=>some x
  |none=>zf i b
 |_=>none
def Z(b:Code)(i:Nat):Array Oper:=(zf i b).getD #[]
abbrev G(i:Nat)(o:Array Oper):Code:=.region i o false
abbrev G1(b:Code)(i:Nat):Code:=.region i (Z b i) false
abbrev G2(b:Code)(i:Nat):Code:=.region i (Z b i) true
abbrev S1(a b:Code):Code:=.seq a b
abbrev C1(n:Nat)(a b:Code):Code:=.cond (.tmp n) a b
abbrev B1(n:Nat)(a:Code):Code:=.block n a
abbrev X1(n:Nat):Code:=.exit n
abbrev K1:Code:=.skip
theorem ajp:fy=(S1 (G1 fy 0) (S1 (S1 (G1 fy 1) (B1 0 (.loop (S1 (S1 (G1 fy 2) (C1 13 K1 (X1 0))) (S1 (B1 1 (S1 (G1 fy 4) (S1 (S1 (G1 fy 5) (C1 47 (S1 (G1 fy 6) .ret) K1)) (S1 (S1 (G1 fy 7) (B1 2 (.loop (S1 (S1 (G1 fy 8) (C1 52 K1 (X1 2))) (S1 (B1 3 (S1 (G1 fy 10) (C1 61 (S1 (G1 fy 11) .ret) K1))) (G1 fy 9)))))) (S1 (G1 fy 12) (B1 4 (.loop (S1 (S1 (G1 fy 13) (C1 66 K1 (X1 4))) (S1 (B1 5 (S1 (G1 fy 15) (S1 (S1 (G1 fy 16) (C1 106 (S1 (G1 fy 17) .ret) K1)) (S1 (S1 (G1 fy 18) (B1 6 (.loop (S1 (S1 (G1 fy 19) (C1 111 K1 (X1 6))) (S1 (B1 7 (S1 (G1 fy 21) (C1 121 (S1 (G1 fy 22) .ret) K1))) (G1 fy 20)))))) (S1 (G1 fy 23) (B1 8 (.loop (S1 (S1 (G1 fy 24) (C1 127 K1 (X1 8))) (S1 (B1 9 (S1 (G1 fy 26) (C1 138 (S1 (G1 fy 27) .ret) K1))) (G1 fy 25)))))))))) (G1 fy 14)))))))))) (G1 fy 3)))))) (S1 (G1 fy 28) .ret))):=kr
theorem ajG:my=(S1 (G1 my 0) (S1 (G1 my 1) (S1 (G1 my 2) (S1 (G1 my 3) (S1 (G1 my 4) (S1 (G1 my 5) (S1 (G1 my 6) (S1 (G1 my 7) (S1 (G1 my 8) (S1 (G1 my 9) (S1 (S1 (G1 my 10) (C1 107 (S1 (G1 my 11) .ret) K1)) (S1 (G1 my 12) (S1 (G1 my 13) .ret))))))))))))):=kr
theorem T':xH=(S1 (G1 xH 0) (S1 (G1 xH 1) (S1 (S1 (G1 xH 2) (C1 12 (S1 (G1 xH 3) .ret) K1)) (S1 (G1 xH 4) .ret)))):=kr
theorem Zi:bR (Z ej 29)=some []:=kr
theorem Ub:ej=(S1 (G1 ej 0) (S1 (G1 ej 1) (S1 (S1 (G1 ej 2) (C1 26 (S1 (G1 ej 3) .ret) K1)) (S1 (G1 ej 4) (S1 (G1 ej 5) (S1 (S1 (G1 ej 6) (B1 0 (.loop (S1 (G1 ej 7) (S1 (C1 32 K1 (X1 0)) (S1 (B1 1 (S1 (G1 ej 8) (S1 (S1 (G1 ej 9) (C1 45 (S1 (G1 ej 10) .ret) K1)) (S1 (G1 ej 11) (S1 (G1 ej 12) (B1 2 (.loop (S1 (G1 ej 13) (S1 (C1 52 K1 (X1 2)) (S1 (B1 3 (S1 (G1 ej 14) (S1 (S1 (G1 ej 15) (S1 (G1 ej 16) (C1 85 (S1 (G1 ej 17) .ret) K1))) (G1 ej 18)))) (G1 ej 19))))))))))) (G1 ej 20))))))) (S1 (S1 (G1 ej 21) (C1 95 (S1 (G1 ej 22) .ret) K1)) (S1 (S1 (G1 ej 23) (B1 4 (.loop (S1 (G1 ej 24) (S1 (C1 99 K1 (X1 4)) (S1 (B1 5 (S1 (G1 ej 25) (S1 (G1 ej 26) (B1 6 (.loop (S1 (G1 ej 27) (S1 (C1 106 K1 (X1 6)) (S1 (B1 7 (S1 (G1 ej 28) (S1 (G2 ej 29) (C1 138 (S1 (G1 ej 30) .ret) K1)))) (G1 ej 31))))))))) (G1 ej 32))))))) (S1 (G1 ej 33) .ret))))))))):=kr
theorem aa6:bR (Z pN 6)=some []:=kr
theorem aju:pN=(S1 (G1 pN 0) (S1 (S1 (G1 pN 1) (C1 10 (S1 (G1 pN 2) .ret) K1)) (S1 (S1 (G1 pN 3) (B1 0 (.loop (S1 (S1 (G1 pN 4) (C1 14 K1 (X1 0))) (S1 (B1 1 (S1 (G2 pN 6) (C1 26 (S1 (G1 pN 7) .ret) K1))) (G1 pN 5)))))) (S1 (G1 pN 8) .ret)))):=kr
theorem aa3:bR (Z jj 9)=some []:=kr
theorem ajf:jj=(S1 (G1 jj 0) (S1 (G1 jj 1) (S1 (S1 (G1 jj 2) (C1 23 (S1 (G1 jj 3) .ret) K1)) (S1 (G1 jj 4) (S1 (G1 jj 5) (S1 (S1 (G1 jj 6) (B1 0 (.loop (S1 (G1 jj 7) (S1 (C1 37 K1 (X1 0)) (S1 (B1 1 (S1 (G1 jj 8) (G2 jj 9))) (G1 jj 10))))))) (S1 (G1 jj 11) (S1 (S1 (G1 jj 12) (B1 2 (.loop (S1 (G1 jj 13) (S1 (C1 54 K1 (X1 2)) (S1 (B1 3 (S1 (G1 jj 14) (S1 (G1 jj 15) (C1 61 (G1 jj 16) K1)))) (G1 jj 17))))))) (S1 (G1 jj 18) .ret))))))))):=kr
theorem ajb:vD=(S1 (G1 vD 0) (S1 (G1 vD 1) (S1 (S1 (G1 vD 2) (C1 17 (S1 (G1 vD 3) .ret) K1)) (S1 (G1 vD 4) (S1 (G1 vD 5) .ret))))):=kr
theorem aa7:bR (Z pO 6)=some []:=kr
theorem ajw:pO=(S1 (G1 pO 0) (S1 (S1 (G1 pO 1) (C1 10 (S1 (G1 pO 2) .ret) K1)) (S1 (S1 (G1 pO 3) (B1 0 (.loop (S1 (S1 (G1 pO 4) (C1 14 K1 (X1 0))) (S1 (B1 1 (S1 (G2 pO 6) (C1 25 (S1 (G1 pO 7) .ret) K1))) (G1 pO 5)))))) (S1 (G1 pO 8) .ret)))):=kr
theorem ajo:pP=(S1 (G1 pP 0) (S1 (S1 (G1 pP 1) (B1 0 (.loop (S1 (S1 (G1 pP 2) (C1 10 K1 (X1 0))) (S1 (B1 1 (S1 (G1 pP 4) (B1 2 (.loop (S1 (S1 (G1 pP 5) (C1 19 K1 (X1 2))) (S1 (B1 3 (S1 (G1 pP 7) (C1 30 (S1 (G1 pP 8) .ret) K1))) (G1 pP 6))))))) (G1 pP 3)))))) (S1 (G1 pP 9) .ret))):=kr
theorem aaL:bR (Z jk 9)=some []:=kr
theorem ah5:jk=(S1 (G1 jk 0) (S1 (S1 (G1 jk 1) (C1 11 (S1 (G1 jk 2) .ret) K1)) (S1 (S1 (G1 jk 3) (B1 0 (.loop (S1 (G1 jk 4) (S1 (C1 15 K1 (X1 0)) (S1 (B1 1 (S1 (G1 jk 5) (S1 (S1 (G1 jk 6) (S1 (G1 jk 7) (C1 22 (S1 (G1 jk 8) .ret) K1))) (S1 (G2 jk 9) (C1 37 (S1 (G1 jk 10) .ret) K1))))) (G1 jk 11))))))) (S1 (S1 (G1 jk 12) (B1 2 (.loop (S1 (G1 jk 13) (S1 (C1 43 K1 (X1 2)) (S1 (B1 3 (S1 (G1 jk 14) (S1 (G1 jk 15) (C1 51 (S1 (G1 jk 16) .ret) K1)))) (G1 jk 17))))))) (S1 (G1 jk 18) .ret))))):=kr
theorem aaX:bR (Z o8 7)=some []:=kr
theorem aiV:o8=(S1 (G1 o8 0) (S1 (G1 o8 1) (S1 (S1 (G1 o8 2) (C1 21 (S1 (G1 o8 3) .ret) K1)) (S1 (S1 (G1 o8 4) (B1 0 (.rangeFunc (.tmp 27) #[28,29] (S1 (G1 o8 5) (G1 o8 6)) (B1 1 (S1 (G2 o8 7) (C1 42 (S1 (G1 o8 8) .ret) K1)))))) (S1 (G1 o8 9) .ret))))):=kr
theorem aaY:bR (Z lL 7)=some []:=kr
theorem aaZ:bR (Z lL 9)=some []:=kr
theorem Zn:bR (Z lL 11)=some []:=kr
theorem aiW:lL=(S1 (G1 lL 0) (S1 (G1 lL 1) (S1 (S1 (G1 lL 2) (C1 22 (S1 (G1 lL 3) .ret) K1)) (S1 (S1 (G1 lL 4) (B1 0 (.loop (S1 (G1 lL 5) (S1 (C1 27 K1 (X1 0)) (S1 (B1 1 (S1 (G1 lL 6) (S1 (S1 (G2 lL 7) (C1 54 (S1 (G1 lL 8) .ret) K1)) (G2 lL 9)))) (G1 lL 10))))))) (S1 (G2 lL 11) .ret))))):=kr
theorem ajt:Gp=(S1 (G1 Gp 0) (S1 (G1 Gp 1) .ret)):=kr
theorem Zb:bR (Z gC 20)=some [(0,3),(1,3),(3,6),(4,6),(5,6),(3,7),(4,7),(5,7),(9,11),(10,11)]:=kr
theorem air:gC=(S1 (G1 gC 0) (S1 (S1 (G1 gC 1) (S1 (G1 gC 2) (C1 21 (S1 (G1 gC 3) .ret) K1))) (S1 (G1 gC 4) (S1 (S1 (G1 gC 5) (B1 0 (.loop (S1 (G1 gC 6) (S1 (C1 28 K1 (X1 0)) (S1 (B1 1 (S1 (G1 gC 7) (G1 gC 8))) (G1 gC 9))))))) (S1 (G1 gC 10) (S1 (S1 (G1 gC 11) (B1 2 (.loop (S1 (G1 gC 12) (S1 (C1 42 K1 (X1 2)) (S1 (B1 3 (S1 (G1 gC 13) (S1 (G1 gC 14) (S1 (S1 (G1 gC 15) (B1 4 (.loop (S1 (G1 gC 16) (S1 (C1 49 K1 (X1 4)) (S1 (B1 5 (S1 (G1 gC 17) (G1 gC 18))) (G1 gC 19))))))) (G2 gC 20))))) (G1 gC 21))))))) (S1 (G1 gC 22) .ret))))))):=kr
theorem aiu:jD=(S1 (G1 jD 0) (.scope (S1 (G1 jD 1) (S1 (.label 0) (S1 (B1 0 (.loop (B1 1 (S1 (G1 jD 2) (S1 (S1 (G1 jD 3) (B1 2 (.loop (S1 (G1 jD 4) (S1 (C1 21 K1 (X1 2)) (S1 (B1 3 (S1 (G1 jD 5) (S1 (G1 jD 6) (S1 (S1 (G1 jD 7) (B1 4 (.loop (S1 (G1 jD 8) (S1 (C1 35 K1 (X1 4)) (S1 (B1 5 (S1 (G1 jD 9) (G1 jD 10))) (G1 jD 11))))))) (G1 jD 12))))) (G1 jD 13))))))) (S1 (G1 jD 14) (S1 (G1 jD 15) (S1 (S1 (G1 jD 16) (C1 60 (X1 0) K1)) (G1 jD 17))))))))) (S1 (G1 jD 18) .ret)))))):=kr
theorem aiw:pQ=(S1 (G1 pQ 0) (S1 (G1 pQ 1) (S1 (S1 (G1 pQ 2) (B1 0 (.loop (S1 (G1 pQ 3) (S1 (C1 10 K1 (X1 0)) (S1 (B1 1 (S1 (G1 pQ 4) (S1 (S1 (G1 pQ 5) (C1 17 (G1 pQ 6) K1)) (G1 pQ 7)))) (G1 pQ 8))))))) (S1 (G1 pQ 9) .ret)))):=kr
theorem aif:Gq=(S1 (G1 Gq 0) (S1 (G1 Gq 1) .ret)):=kr
theorem aiE:o9=(S1 (G1 o9 0) (S1 (S1 (G1 o9 1) (C1 14 (S1 (G1 o9 2) .ret) K1)) (S1 (S1 (G1 o9 3) (B1 0 (.loop (S1 (G1 o9 4) (S1 (C1 18 K1 (X1 0)) (S1 (B1 1 (S1 (G1 o9 5) (S1 (G1 o9 6) (S1 (G1 o9 7) (C1 30 (S1 (G1 o9 8) .ret) K1))))) (G1 o9 9))))))) (S1 (G1 o9 10) .ret)))):=kr
theorem aiC:Gr=(S1 (G1 Gr 0) (S1 (G1 Gr 1) .ret)):=kr
theorem ai4:nq=(S1 (G1 nq 0) (S1 (G1 nq 1) (S1 (S1 (G1 nq 2) (C1 16 (S1 (G1 nq 3) .ret) K1)) (S1 (S1 (G1 nq 4) (C1 21 (S1 (G1 nq 5) .ret) K1)) (S1 (S1 (G1 nq 6) (B1 0 (.loop (S1 (G1 nq 7) (S1 (C1 26 K1 (X1 0)) (S1 (B1 1 (S1 (G1 nq 8) (S1 (G1 nq 9) (C1 32 (S1 (G1 nq 10) .ret) K1)))) (G1 nq 11))))))) (S1 (G1 nq 12) .ret)))))):=kr
theorem Zq:bR (Z gl 10)=some [(0,10)]:=kr
theorem Zs:bR (Z gl 14)=some []:=kr
theorem ai8:gl=(S1 (G1 gl 0) (S1 (G1 gl 1) (S1 (G1 gl 2) (S1 (S1 (G1 gl 3) (B1 0 (.loop (S1 (G1 gl 4) (S1 (C1 28 K1 (X1 0)) (S1 (B1 1 (S1 (G1 gl 5) (S1 (G1 gl 6) (S1 (S1 (G1 gl 7) (B1 2 (.loop (S1 (G1 gl 8) (S1 (C1 34 K1 (X1 2)) (S1 (B1 3 (S1 (G1 gl 9) (S1 (G2 gl 10) (G1 gl 11)))) (G1 gl 12))))))) (S1 (S1 (G1 gl 13) (C1 58 (G2 gl 14) K1)) (S1 (G1 gl 15) (S1 (G1 gl 16) (B1 4 (.loop (S1 (G1 gl 17) (S1 (C1 73 K1 (X1 4)) (S1 (B1 5 (S1 (G1 gl 18) (G1 gl 19))) (G1 gl 20))))))))))))) (G1 gl 21))))))) (S1 (G1 gl 22) .ret))))):=kr
theorem aaM:bR (Z gD 3)=some [(2,3),(2,4),(2,6),(5,6),(2,7),(5,7),(5,9),(8,9)]:=kr
theorem Za:bR (Z gD 16)=some [(3,4),(3,5),(3,6),(3,8),(7,8),(3,9),(7,9),(3,10),(7,10),(3,11),(7,11),(7,13),(12,13),(7,14),(12,14)]:=kr
theorem aim:gD=(S1 (G1 gD 0) (S1 (G1 gD 1) (S1 (G1 gD 2) (S1 (G2 gD 3) (S1 (G1 gD 4) (S1 (S1 (G1 gD 5) (B1 0 (.loop (S1 (G1 gD 6) (S1 (C1 33 K1 (X1 0)) (S1 (B1 1 (S1 (G1 gD 7) (S1 (G1 gD 8) (S1 (G1 gD 9) (S1 (S1 (G1 gD 10) (B1 2 (.loop (S1 (G1 gD 11) (S1 (C1 42 K1 (X1 2)) (S1 (B1 3 (S1 (G1 gD 12) (S1 (G1 gD 13) (G1 gD 14)))) (G1 gD 15))))))) (S1 (G2 gD 16) (S1 (S1 (G1 gD 17) (C1 85 (G1 gD 18) K1)) (G1 gD 19)))))))) (G1 gD 20))))))) (S1 (G1 gD 21) .ret))))))):=kr
theorem ajd:Gs=(S1 (G1 Gs 0) (S1 (G1 Gs 1) .ret)):=kr
theorem aj2:vE=(S1 (G1 vE 0) (S1 (B1 0 (S1 (G1 vE 1) (C1 3 (S1 (G1 vE 2) .ret) (S1 (G1 vE 3) (C1 7 (S1 (G1 vE 4) .ret) K1))))) (S1 (G1 vE 5) .ret))):=kr
theorem Jl:bR (Z dP 8)=some []:=kr
theorem EM:bR (Z dP 15)=some []:=kr
theorem ah3:dP=(S1 (G1 dP 0) (S1 (S1 (G1 dP 1) (B1 0 (.loop (S1 (G1 dP 2) (S1 (C1 17 K1 (X1 0)) (S1 (B1 1 (S1 (G1 dP 3) (S1 (G1 dP 4) (S1 (G1 dP 5) (S1 (G1 dP 6) (B1 2 (S1 (G1 dP 7) (C1 31 (S1 (G2 dP 8) (C1 63 (S1 (G1 dP 9) .ret) K1)) (S1 (G1 dP 10) (C1 64 (S1 (G1 dP 11) (C1 80 (S1 (G1 dP 12) .ret) K1)) (S1 (G1 dP 13) (C1 81 (S1 (G1 dP 14) (S1 (G2 dP 15) (C1 103 (S1 (G1 dP 16) .ret) K1))) K1)))))))))))) (G1 dP 17))))))) (S1 (G1 dP 18) .ret))):=kr
theorem ah7:o6=(S1 (G1 o6 0) (S1 (G1 o6 1) (S1 (S1 (G1 o6 2) (B1 0 (.loop (S1 (G1 o6 3) (S1 (C1 10 K1 (X1 0)) (S1 (B1 1 (S1 (G1 o6 4) (S1 (G1 o6 5) (C1 22 (G1 o6 6) K1)))) (G1 o6 7))))))) (S1 (G1 o6 8) .ret)))):=kr
theorem aip:CK=(S1 (G1 CK 0) (S1 (G1 CK 1) (S1 (G1 CK 2) .ret))):=kr
theorem aiR:xI=(S1 (G1 xI 0) (S1 (G1 xI 1) (S1 (S1 (G1 xI 2) (C1 36 (G1 xI 3) K1)) (S1 (G1 xI 4) .ret)))):=kr
theorem aiK:Gt=(S1 (G1 Gt 0) (S1 (G1 Gt 1) .ret)):=kr
theorem aa5:bR (Z pR 6)=some []:=kr
theorem ajr:pR=(S1 (G1 pR 0) (S1 (S1 (G1 pR 1) (C1 10 (S1 (G1 pR 2) .ret) K1)) (S1 (S1 (G1 pR 3) (B1 0 (.loop (S1 (S1 (G1 pR 4) (C1 14 K1 (X1 0))) (S1 (B1 1 (S1 (G2 pR 6) (C1 25 (S1 (G1 pR 7) .ret) K1))) (G1 pR 5)))))) (S1 (G1 pR 8) .ret)))):=kr
theorem ajQ:Gu=(S1 (G1 Gu 0) (S1 (G1 Gu 1) .ret)):=kr
theorem ahZ:xJ=(S1 (G1 xJ 0) (S1 (G1 xJ 1) (S1 (S1 (G1 xJ 2) (C1 11 (S1 (G1 xJ 3) .ret) K1)) (S1 (G1 xJ 4) .ret)))):=kr
theorem ahQ:Gv=(S1 (G1 Gv 0) (S1 (G1 Gv 1) .ret)):=kr
theorem aik:nr=(S1 (G1 nr 0) (S1 (G1 nr 1) (S1 (G1 nr 2) (S1 (S1 (G1 nr 3) (B1 0 (.loop (S1 (G1 nr 4) (S1 (C1 14 K1 (X1 0)) (S1 (B1 1 (S1 (G1 nr 5) (S1 (G1 nr 6) (S1 (S1 (G1 nr 7) (C1 24 (S1 (G1 nr 8) (G1 nr 9)) K1)) (G1 nr 10))))) (G1 nr 11))))))) (S1 (G1 nr 12) .ret))))):=kr
theorem aii:sy=(S1 (G1 sy 0) (S1 (G1 sy 1) (S1 (S1 (G1 sy 2) (B1 0 (.loop (S1 (G1 sy 3) (S1 (C1 9 K1 (X1 0)) (S1 (B1 1 (S1 (G1 sy 4) (G1 sy 5))) (G1 sy 6))))))) (S1 (G1 sy 7) .ret)))):=kr
theorem ai2:Gw=(S1 (G1 Gw 0) (S1 (G1 Gw 1) .ret)):=kr
theorem ai0:Gx=(S1 (G1 Gx 0) (S1 (G1 Gx 1) .ret)):=kr
theorem aiY:Gy=(S1 (G1 Gy 0) (S1 (G1 Gy 1) .ret)):=kr
theorem ahO:sF=(S1 (G1 sF 0) (S1 (S1 (G1 sF 1) (B1 0 (.loop (S1 (G1 sF 2) (S1 (C1 9 K1 (X1 0)) (S1 (B1 1 (S1 (G1 sF 3) (S1 (G1 sF 4) (C1 16 (S1 (G1 sF 5) .ret) K1)))) (G1 sF 6))))))) (S1 (G1 sF 7) .ret))):=kr
theorem ai6:Gz=(S1 (G1 Gz 0) (S1 (G1 Gz 1) .ret)):=kr
theorem ah9:Ak=(S1 (G1 Ak 0) (S1 (S1 (G1 Ak 1) (C1 4 (S1 (G1 Ak 2) .ret) K1)) (S1 (G1 Ak 3) .ret))):=kr
theorem aia:Al=(S1 (G1 Al 0) (S1 (S1 (G1 Al 1) (C1 4 (S1 (G1 Al 2) .ret) K1)) (S1 (G1 Al 3) .ret))):=kr
theorem aj8:xG=(S1 (G1 xG 0) (S1 (S1 (G1 xG 1) (C1 4 (S1 (G1 xG 2) .ret) K1)) (S1 (G1 xG 3) .ret))):=kr
theorem aic:Am=(S1 (G1 Am 0) (S1 (S1 (G1 Am 1) (C1 4 (S1 (G1 Am 2) .ret) K1)) (S1 (G1 Am 3) .ret))):=kr
theorem ZK:bR (Z dQ 10)=some []:=kr
theorem ZL:bR (Z dQ 32)=some []:=kr
theorem aj0:dQ=(S1 (G1 dQ 0) (S1 (G1 dQ 1) (S1 (G1 dQ 2) (S1 (S1 (G1 dQ 3) (C1 71 (S1 (G1 dQ 4) .ret) K1)) (S1 (S1 (G1 dQ 5) (C1 101 (S1 (G1 dQ 6) .ret) K1)) (S1 (S1 (G1 dQ 7) (B1 0 (.loop (S1 (S1 (G1 dQ 8) (C1 106 K1 (X1 0))) (S1 (B1 1 (S1 (G2 dQ 10) (C1 120 (S1 (G1 dQ 11) .ret) K1))) (G1 dQ 9)))))) (S1 (G1 dQ 12) (S1 (S1 (G1 dQ 13) (B1 2 (.loop (S1 (G1 dQ 14) (S1 (C1 126 K1 (X1 2)) (S1 (B1 3 (S1 (G1 dQ 15) (S1 (S1 (G1 dQ 16) (C1 139 (S1 (G1 dQ 17) .ret) K1)) (S1 (G1 dQ 18) (C1 143 (S1 (S1 (G1 dQ 19) (C1 148 (S1 (G1 dQ 20) .ret) K1)) (G1 dQ 21)) K1))))) (G1 dQ 22))))))) (S1 (G1 dQ 23) (S1 (S1 (G1 dQ 24) (B1 4 (.loop (S1 (G1 dQ 25) (S1 (C1 160 K1 (X1 4)) (S1 (B1 5 (S1 (G1 dQ 26) (S1 (G1 dQ 27) (S1 (G1 dQ 28) (B1 6 (.loop (S1 (G1 dQ 29) (S1 (C1 168 K1 (X1 6)) (S1 (B1 7 (S1 (G1 dQ 30) (S1 (G1 dQ 31) (S1 (G2 dQ 32) (C1 187 (S1 (G1 dQ 33) .ret) K1))))) (G1 dQ 34)))))))))) (G1 dQ 35))))))) (S1 (G1 dQ 36) .ret))))))))))):=kr
theorem abo:bR (Z fT 7)=some []:=kr
theorem ZI:bR (Z fT 17)=some []:=kr
theorem ZJ:bR (Z fT 18)=some [(14,15),(14,16),(14,18),(14,19)]:=kr
theorem ajX:fT=(S1 (G1 fT 0) (.scope (S1 (G1 fT 1) (S1 (G1 fT 2) (S1 (.label 0) (S1 (S1 (G1 fT 3) (B1 0 (.loop (S1 (G1 fT 4) (S1 (C1 28 K1 (X1 0)) (S1 (B1 1 (S1 (G1 fT 5) (S1 (S1 (G1 fT 6) (C1 36 (X1 1) K1)) (S1 (S1 (G2 fT 7) (S1 (G1 fT 8) (C1 47 (S1 (G1 fT 9) .ret) K1))) (S1 (G1 fT 10) (B1 2 (.loop (S1 (G1 fT 11) (S1 (C1 52 K1 (X1 2)) (S1 (B1 3 (S1 (G1 fT 12) (S1 (S1 (G1 fT 13) (C1 57 (X1 1) K1)) (S1 (G1 fT 14) (B1 4 (.loop (S1 (G1 fT 15) (S1 (C1 64 K1 (X1 4)) (S1 (B1 5 (S1 (G1 fT 16) (S1 (G2 fT 17) (S1 (G2 fT 18) (C1 104 (S1 (G1 fT 19) .ret) K1))))) (G1 fT 20)))))))))) (G1 fT 21))))))))))) (G1 fT 22))))))) (S1 (G1 fT 23) .ret))))))):=kr
theorem aaI:bR (Z pa 6)=some []:=kr
theorem ah1:pa=(S1 (G1 pa 0) (S1 (S1 (G1 pa 1) (C1 13 (S1 (G1 pa 2) .ret) K1)) (S1 (S1 (G1 pa 3) (B1 0 (.loop (S1 (G1 pa 4) (S1 (C1 17 K1 (X1 0)) (S1 (B1 1 (S1 (G1 pa 5) (S1 (G2 pa 6) (C1 32 (S1 (G1 pa 7) .ret) K1)))) (G1 pa 8))))))) (S1 (G1 pa 9) .ret)))):=kr
theorem aeU:rX=(S1 (G1 rX 0) (S1 (S1 (G1 rX 1) (B1 0 (.loop (S1 (G1 rX 2) (S1 (C1 15 K1 (X1 0)) (S1 (B1 1 (S1 (G1 rX 3) (S1 (G1 rX 4) (C1 28 (S1 (G1 rX 5) .ret) K1)))) (G1 rX 6))))))) (S1 (G1 rX 7) .ret))):=kr
theorem Y4:bR (Z dH 8)=some [(1,6),(2,6),(6,7),(6,8),(6,9),(1,10),(2,10)]:=kr
theorem XW:bR (Z dH 30)=some [(1,5),(2,5)]:=kr
theorem Tc:dH=(S1 (G1 dH 0) (S1 (S1 (G1 dH 1) (S1 (G1 dH 2) (C1 17 (S1 (G1 dH 3) .ret) K1))) (S1 (G1 dH 4) (S1 (G1 dH 5) (S1 (S1 (G1 dH 6) (C1 22 (G1 dH 7) K1)) (S1 (G2 dH 8) (S1 (G1 dH 9) (S1 (G1 dH 10) (S1 (G1 dH 11) (S1 (S1 (G1 dH 12) (B1 0 (.loop (S1 (G1 dH 13) (S1 (C1 56 K1 (X1 0)) (S1 (B1 1 (S1 (G1 dH 14) (S1 (G1 dH 15) (S1 (S1 (G1 dH 16) (B1 2 (.loop (S1 (G1 dH 17) (S1 (C1 66 K1 (X1 2)) (S1 (B1 3 (S1 (G1 dH 18) (G1 dH 19))) (G1 dH 20))))))) (S1 (G1 dH 21) (S1 (G1 dH 22) (S1 (S1 (G1 dH 23) (C1 96 (G1 dH 24) K1)) (S1 (S1 (G1 dH 25) (C1 104 (G1 dH 26) K1)) (S1 (G1 dH 27) (B1 4 (.loop (S1 (G1 dH 28) (S1 (C1 113 K1 (X1 4)) (S1 (B1 5 (S1 (G1 dH 29) (G2 dH 30))) (G1 dH 31))))))))))))))) (G1 dH 32))))))) (S1 (G1 dH 33) .ret))))))))))):=kr
theorem ae1:Fu=(S1 (G1 Fu 0) (S1 (G1 Fu 1) .ret)):=kr
theorem Zk:bR (Z ko 6)=some []:=kr
theorem XZ:bR (Z ko 13)=some [(1,13)]:=kr
theorem afi:ko=(S1 (G1 ko 0) (S1 (G1 ko 1) (B1 0 (.loop (S1 (S1 (G1 ko 2) (C1 16 K1 (X1 0))) (S1 (B1 1 (S1 (G1 ko 4) (S1 (S1 (G1 ko 5) (C1 28 .ret K1)) (S1 (S1 (G2 ko 6) (C1 43 (X1 1) K1)) (S1 (G1 ko 7) (B1 2 (.loop (S1 (G1 ko 8) (S1 (C1 53 K1 (X1 2)) (S1 (B1 3 (S1 (G1 ko 9) (S1 (G1 ko 10) (S1 (G1 ko 11) (C1 77 (S1 (G1 ko 12) (G2 ko 13)) K1))))) (G1 ko 14))))))))))) (G1 ko 3))))))):=kr
theorem aeS:rY=(S1 (G1 rY 0) (S1 (S1 (G1 rY 1) (B1 0 (.loop (S1 (G1 rY 2) (S1 (C1 9 K1 (X1 0)) (S1 (B1 1 (S1 (G1 rY 3) (S1 (G1 rY 4) (C1 16 (S1 (G1 rY 5) .ret) K1)))) (G1 rY 6))))))) (S1 (G1 rY 7) .ret))):=kr
theorem aeQ:Fv=(S1 (G1 Fv 0) (S1 (G1 Fv 1) .ret)):=kr
theorem aez:z6=(S1 (G1 z6 0) (S1 (G1 z6 1) (S1 (G1 z6 2) (S1 (G1 z6 3) .ret)))):=kr
theorem Y3:bR (Z Co 1)=some [(4,6),(4,7),(4,8),(4,9)]:=kr
theorem aeO:Co=(S1 (G1 Co 0) (S1 (G2 Co 1) .ret)):=kr
theorem afl:rZ=(S1 (G1 rZ 0) (S1 (S1 (G1 rZ 1) (B1 0 (.loop (S1 (G1 rZ 2) (S1 (C1 9 K1 (X1 0)) (S1 (B1 1 (S1 (G1 rZ 3) (S1 (G1 rZ 4) (C1 16 (S1 (G1 rZ 5) .ret) K1)))) (G1 rZ 6))))))) (S1 (G1 rZ 7) .ret))):=kr
theorem agu:Cp=(S1 (G1 Cp 0) (S1 (G1 Cp 1) (S1 (G1 Cp 2) .ret))):=kr
theorem afY:Fw=(S1 (G1 Fw 0) (S1 (G1 Fw 1) .ret)):=kr
theorem af6:Fx=(S1 (G1 Fx 0) (S1 (G1 Fx 1) .ret)):=kr
theorem aek:Fy=(S1 (G1 Fy 0) (S1 (G1 Fy 1) .ret)):=kr
theorem af2:Fz=(S1 (G1 Fz 0) (S1 (G1 Fz 1) .ret)):=kr
theorem af0:FA=(S1 (G1 FA 0) (S1 (G1 FA 1) .ret)):=kr
theorem Yj:bR (Z eO 11)=some [(3,4),(3,5),(3,6)]:=kr
theorem Yk:bR (Z eO 28)=some [(7,8),(7,9),(7,10)]:=kr
theorem agA:eO=(S1 (G1 eO 0) (S1 (G1 eO 1) (S1 (G1 eO 2) (S1 (S1 (G1 eO 3) (B1 0 (S1 (G1 eO 4) (C1 13 (G1 eO 5) (S1 (G1 eO 6) (C1 20 (G1 eO 7) (S1 (G1 eO 8) (C1 42 (S1 (G1 eO 9) (S1 (G1 eO 10) (C1 57 (G2 eO 11) K1))) (S1 (G1 eO 12) (C1 66 (G1 eO 13) (S1 (G1 eO 14) (C1 72 (S1 (G1 eO 15) (S1 (G1 eO 16) (G1 eO 17))) (S1 (G1 eO 18) (C1 107 (S1 (G1 eO 19) (G1 eO 20)) (S1 (G1 eO 21) (C1 153 (S1 (G1 eO 22) (G1 eO 23)) (S1 (G1 eO 24) (C1 187 (S1 (G1 eO 25) (G1 eO 26)) (S1 (G1 eO 27) (C1 224 (G2 eO 28) K1)))))))))))))))))))) (S1 (G1 eO 29) .ret))))):=kr
theorem afS:n6=(S1 (G1 n6 0) (S1 (G1 n6 1) (S1 (S1 (G1 n6 2) (B1 0 (.loop (S1 (G1 n6 3) (S1 (C1 18 K1 (X1 0)) (S1 (B1 1 (S1 (G1 n6 4) (S1 (G1 n6 5) (B1 2 (.loop (S1 (G1 n6 6) (S1 (C1 28 K1 (X1 2)) (S1 (B1 3 (S1 (G1 n6 7) (G1 n6 8))) (G1 n6 9))))))))) (G1 n6 10))))))) (S1 (G1 n6 11) .ret)))):=kr
theorem agy:mu=(S1 (G1 mu 0) (S1 (S1 (G1 mu 1) (B1 0 (S1 (G1 mu 2) (C1 17 (S1 (G1 mu 3) .ret) (S1 (G1 mu 4) (C1 45 (S1 (G1 mu 5) .ret) (S1 (G1 mu 6) (C1 69 (S1 (G1 mu 7) .ret) (S1 (G1 mu 8) (C1 93 (S1 (G1 mu 9) (S1 (G1 mu 10) (S1 (G1 mu 11) .ret))) K1)))))))))) (S1 (G1 mu 12) (S1 (G1 mu 13) .ret)))):=kr
theorem ZF:bR (Z eA 1)=some [(4,5),(4,6),(4,7),(4,8)]:=kr
theorem Yc:bR (Z eA 20)=some []:=kr
theorem Ye:bR (Z eA 24)=some [(2,8),(3,8)]:=kr
theorem Yf:bR (Z eA 25)=some []:=kr
theorem afQ:eA=(S1 (G1 eA 0) (S1 (G2 eA 1) (S1 (S1 (G1 eA 2) (B1 0 (.loop (S1 (G1 eA 3) (S1 (C1 29 K1 (X1 0)) (S1 (B1 1 (S1 (G1 eA 4) (G1 eA 5))) (G1 eA 6))))))) (S1 (G1 eA 7) (S1 (S1 (G1 eA 8) (B1 2 (.loop (S1 (G1 eA 9) (S1 (C1 45 K1 (X1 2)) (S1 (B1 3 (S1 (G1 eA 10) (G1 eA 11))) (G1 eA 12))))))) (S1 (S1 (G1 eA 13) (B1 4 (.loop (S1 (S1 (G1 eA 14) (C1 55 K1 (X1 4))) (B1 5 (S1 (G1 eA 15) (S1 (G1 eA 16) (B1 6 (.loop (S1 (G1 eA 17) (S1 (C1 61 K1 (X1 6)) (S1 (B1 7 (S1 (G1 eA 18) (S1 (S1 (G1 eA 19) (C1 69 (X1 7) K1)) (S1 (G2 eA 20) (S1 (G1 eA 21) (B1 8 (.loop (S1 (G1 eA 22) (S1 (C1 85 K1 (X1 8)) (S1 (B1 9 (S1 (G1 eA 23) (S1 (G2 eA 24) (S1 (G2 eA 25) (C1 110 (G1 eA 26) K1))))) (G1 eA 27))))))))))) (G1 eA 28))))))))))))) (S1 (G1 eA 29) .ret))))))):=kr
theorem IB:bR (Z jd 10)=some [(6,9)]:=kr
theorem afI:jd=(S1 (G1 jd 0) (S1 (G1 jd 1) (S1 (S1 (G1 jd 2) (B1 0 (.loop (S1 (G1 jd 3) (S1 (C1 17 K1 (X1 0)) (S1 (B1 1 (S1 (G1 jd 4) (S1 (S1 (G1 jd 5) (B1 2 (.loop (S1 (G1 jd 6) (S1 (C1 24 K1 (X1 2)) (S1 (B1 3 (S1 (G1 jd 7) (G1 jd 8))) (G1 jd 9))))))) (S1 (G2 jd 10) (G1 jd 11))))) (G1 jd 12))))))) (S1 (S1 (G1 jd 13) (B1 4 (.loop (S1 (G1 jd 14) (S1 (C1 56 K1 (X1 4)) (S1 (B1 5 (S1 (G1 jd 15) (G1 jd 16))) (G1 jd 17))))))) (S1 (G1 jd 18) .ret))))):=kr
theorem ZC:bR (Z xt 2)=some [(0,2)]:=kr
theorem afG:xt=(S1 (G1 xt 0) (S1 (S1 (G1 xt 1) (C1 9 (S1 (G2 xt 2) .ret) K1)) (S1 (G1 xt 3) .ret))):=kr
theorem aep:FC=(S1 (G1 FC 0) (S1 (G1 FC 1) .ret)):=kr
theorem Y2:bR (Z FD 0)=some [(1,4),(2,4)]:=kr
theorem aeI:FD=(G2 FD 0):=kr
theorem aeK:J0=(G1 J0 0):=kr
theorem aeF:FE=(S1 (G1 FE 0) (S1 (G1 FE 1) .ret)):=kr
theorem aeM:FF=(S1 (G1 FF 0) (G1 FF 1)):=kr
theorem ags:z7=(S1 (G1 z7 0) (S1 (G1 z7 1) (S1 (G1 z7 2) (S1 (G1 z7 3) .ret)))):=kr
theorem aeh:FG=(S1 (G1 FG 0) (S1 (G1 FG 1) .ret)):=kr
theorem afU:FH=(S1 (G1 FH 0) (S1 (G1 FH 1) .ret)):=kr
theorem af4:FI=(S1 (G1 FI 0) (S1 (G1 FI 1) .ret)):=kr
theorem aei:r3=(S1 (G1 r3 0) (S1 (S1 (G1 r3 1) (B1 0 (.loop (S1 (G1 r3 2) (S1 (C1 9 K1 (X1 0)) (S1 (B1 1 (S1 (G1 r3 3) (S1 (G1 r3 4) (C1 16 (S1 (G1 r3 5) .ret) K1)))) (G1 r3 6))))))) (S1 (G1 r3 7) .ret))):=kr
theorem afW:FJ=(S1 (G1 FJ 0) (S1 (G1 FJ 1) .ret)):=kr
theorem af8:FK=(S1 (G1 FK 0) (S1 (G1 FK 1) .ret)):=kr
theorem af9:z8=(S1 (G1 z8 0) (S1 (S1 (G1 z8 1) (C1 12 (S1 (G1 z8 2) .ret) K1)) (S1 (G1 z8 3) .ret))):=kr
theorem agi:o3=(S1 (G1 o3 0) (S1 (G1 o3 1) (S1 (S1 (G1 o3 2) (C1 20 (G1 o3 3) K1)) (S1 (G1 o3 4) (S1 (S1 (G1 o3 5) (B1 0 (S1 (G1 o3 6) (C1 31 (G1 o3 7) (S1 (G1 o3 8) (C1 43 (G1 o3 9) K1)))))) (S1 (G1 o3 10) .ret)))))):=kr
theorem agq:r4=(S1 (G1 r4 0) (S1 (S1 (G1 r4 1) (B1 0 (.loop (S1 (G1 r4 2) (S1 (C1 11 K1 (X1 0)) (S1 (B1 1 (S1 (G1 r4 3) (S1 (G1 r4 4) (C1 33 (S1 (G1 r4 5) .ret) K1)))) (G1 r4 6))))))) (S1 (G1 r4 7) .ret))):=kr
theorem agc:FL=(S1 (G1 FL 0) (S1 (G1 FL 1) .ret)):=kr
theorem agn:FM=(S1 (G1 FM 0) (S1 (G1 FM 1) .ret)):=kr
theorem afE:FN=(S1 (G1 FN 0) (S1 (G1 FN 1) .ret)):=kr
theorem aeW:FP=(S1 (G1 FP 0) (S1 (G1 FP 1) .ret)):=kr
theorem Pz:bR (Z Cq 1)=some [(10,11),(10,12),(10,13),(10,15),(10,16)]:=kr
theorem agd:Cq=(S1 (G1 Cq 0) (S1 (G2 Cq 1) .ret)):=kr
theorem ZN:bR (Z Cr 1)=some [(2,3)]:=kr
theorem agw:Cr=(S1 (G1 Cr 0) (S1 (G2 Cr 1) .ret)):=kr
theorem YY:bR (Z xu 2)=some []:=kr
theorem aer:xu=(S1 (G1 xu 0) (S1 (S1 (G1 xu 1) (C1 6 (G2 xu 2) K1)) (S1 (G1 xu 3) .ret))):=kr
theorem YZ:bR (Z r5 4)=some []:=kr
theorem aet:r5=(S1 (G1 r5 0) (S1 (S1 (G1 r5 1) (B1 0 (.loop (S1 (G1 r5 2) (S1 (C1 7 K1 (X1 0)) (S1 (B1 1 (S1 (G1 r5 3) (G2 r5 4))) (G1 r5 5))))))) (S1 (G1 r5 6) .ret))):=kr
theorem agK:eS=(S1 (G1 eS 0) (S1 (S1 (G1 eS 1) (B1 0 (S1 (S1 (G1 eS 2) (C1 5 K1 (S1 (G1 eS 3) (C1 5 K1 (S1 (G1 eS 4) (C1 5 K1 (S1 (G1 eS 5) (C1 5 K1 (S1 (G1 eS 6) (C1 5 K1 (S1 (G1 eS 7) (C1 5 K1 (S1 (G1 eS 8) (C1 5 K1 (S1 (G1 eS 9) (C1 5 K1 (G1 eS 10))))))))))))))))) (C1 5 (S1 (G1 eS 11) .ret) (S1 (S1 (G1 eS 12) (C1 18 K1 (S1 (G1 eS 13) (C1 18 K1 (S1 (G1 eS 14) (C1 18 K1 (S1 (G1 eS 15) (C1 18 K1 (S1 (G1 eS 16) (C1 18 K1 (S1 (G1 eS 17) (C1 18 K1 (S1 (G1 eS 18) (C1 18 K1 (S1 (G1 eS 19) (C1 18 K1 (S1 (G1 eS 20) (C1 18 K1 (S1 (G1 eS 21) (C1 18 K1 (S1 (G1 eS 22) (C1 18 K1 (S1 (G1 eS 23) (C1 18 K1 (G1 eS 24))))))))))))))))))))))))) (C1 18 (S1 (G1 eS 25) .ret) (S1 (G1 eS 26) (C1 37 (S1 (G1 eS 27) .ret) (S1 (G1 eS 28) (C1 42 (S1 (G1 eS 29) .ret) K1)))))))))) (S1 (G1 eS 30) .ret))):=kr
theorem agE:FQ=(S1 (G1 FQ 0) (S1 (G1 FQ 1) .ret)):=kr
theorem Y1:bR (Z vt 2)=some [(0,3)]:=kr
theorem Y0:bR (Z vt 3)=some [(0,2)]:=kr
theorem aev:vt=(S1 (G1 vt 0) (S1 (S1 (G1 vt 1) (C1 7 (S1 (G2 vt 2) .ret) K1)) (S1 (G2 vt 3) .ret))):=kr
theorem agM:lG=(S1 (G1 lG 0) (S1 (S1 (G1 lG 1) (B1 0 (S1 (S1 (G1 lG 2) (C1 5 K1 (S1 (G1 lG 3) (C1 5 K1 (G1 lG 4))))) (C1 5 (S1 (G1 lG 5) .ret) (S1 (G1 lG 6) (C1 12 (S1 (G1 lG 7) (C1 16 (S1 (G1 lG 8) .ret) K1)) (S1 (G1 lG 9) (C1 20 (S1 (G1 lG 10) .ret) (S1 (S1 (G1 lG 11) (C1 25 K1 (G1 lG 12))) (C1 25 (S1 (G1 lG 13) .ret) K1)))))))))) (S1 (G1 lG 14) .ret))):=kr
theorem ae7:tO=(S1 (G1 tO 0) (S1 (G1 tO 1) (S1 (S1 (G1 tO 2) (B1 0 (.rangeFunc (.tmp 8) #[9] (G1 tO 3) (B1 1 (S1 (G1 tO 4) (C1 12 (G1 tO 5) K1)))))) (S1 (G1 tO 6) .ret)))):=kr
theorem agI:pG=(S1 (G1 pG 0) (S1 (S1 (G1 pG 1) (B1 0 (S1 (G1 pG 2) (C1 5 (S1 (G1 pG 3) .ret) (S1 (S1 (G1 pG 4) (C1 10 K1 (G1 pG 5))) (C1 10 (S1 (G1 pG 6) .ret) (S1 (G1 pG 7) (C1 15 (S1 (G1 pG 8) .ret) K1)))))))) (S1 (G1 pG 9) .ret))):=kr
theorem aeA:r6=(S1 (G1 r6 0) (S1 (G1 r6 1) (S1 (S1 (G1 r6 2) (B1 0 (.loop (S1 (G1 r6 3) (S1 (C1 11 K1 (X1 0)) (S1 (B1 1 (S1 (G1 r6 4) (G1 r6 5))) (G1 r6 6))))))) (S1 (G1 r6 7) .ret)))):=kr
theorem aeB:r7=(S1 (G1 r7 0) (S1 (G1 r7 1) (S1 (S1 (G1 r7 2) (B1 0 (.loop (S1 (G1 r7 3) (S1 (C1 11 K1 (X1 0)) (S1 (B1 1 (S1 (G1 r7 4) (G1 r7 5))) (G1 r7 6))))))) (S1 (G1 r7 7) .ret)))):=kr
theorem aeD:FR=(S1 (G1 FR 0) (S1 (G1 FR 1) .ret)):=kr
theorem ael:r8=(S1 (G1 r8 0) (S1 (S1 (G1 r8 1) (B1 0 (.loop (S1 (G1 r8 2) (S1 (C1 9 K1 (X1 0)) (S1 (B1 1 (S1 (G1 r8 3) (S1 (G1 r8 4) (C1 16 (S1 (G1 r8 5) .ret) K1)))) (G1 r8 6))))))) (S1 (G1 r8 7) .ret))):=kr
theorem aef:r9=(S1 (G1 r9 0) (S1 (S1 (G1 r9 1) (B1 0 (.loop (S1 (G1 r9 2) (S1 (C1 9 K1 (X1 0)) (S1 (B1 1 (S1 (G1 r9 3) (S1 (G1 r9 4) (C1 16 (S1 (G1 r9 5) .ret) K1)))) (G1 r9 6))))))) (S1 (G1 r9 7) .ret))):=kr
theorem agf:n7=(S1 (G1 n7 0) (S1 (G1 n7 1) (S1 (S1 (G1 n7 2) (B1 0 (S1 (G1 n7 3) (C1 14 (S1 (G1 n7 4) .ret) (S1 (G1 n7 5) (C1 18 (S1 (G1 n7 6) .ret) (S1 (G1 n7 7) (C1 22 (S1 (G1 n7 8) .ret) (S1 (G1 n7 9) (C1 26 (S1 (G1 n7 10) .ret) K1)))))))))) (S1 (G1 n7 11) .ret)))):=kr
theorem aen:FT=(S1 (G1 FT 0) (S1 (G1 FT 1) .ret)):=kr
theorem agp:FU=(S1 (G1 FU 0) (S1 (G1 FU 1) .ret)):=kr
theorem aga:FV=(S1 (G1 FV 0) (S1 (G1 FV 1) .ret)):=kr
theorem agl:FW=(S1 (G1 FW 0) (S1 (G1 FW 1) .ret)):=kr
theorem ZB:bR (Z jB 6)=some []:=kr
theorem Ya:bR (Z jB 11)=some []:=kr
theorem afA:jB=(S1 (G1 jB 0) (S1 (S1 (G1 jB 1) (C1 8 (S1 (G1 jB 2) .ret) K1)) (S1 (S1 (G1 jB 3) (B1 0 (.loop (S1 (S1 (G1 jB 4) (C1 13 K1 (X1 0))) (S1 (B1 1 (S1 (G2 jB 6) (C1 25 (S1 (G1 jB 7) (S1 (S1 (G1 jB 8) (B1 2 (.loop (S1 (S1 (G1 jB 9) (C1 32 K1 (X1 2))) (S1 (B1 3 (S1 (G2 jB 11) (C1 44 (S1 (G1 jB 12) (G1 jB 13)) K1))) (G1 jB 10)))))) (S1 (G1 jB 14) (S1 (G1 jB 15) .ret)))) K1))) (G1 jB 5)))))) (S1 (G1 jB 16) .ret)))):=kr
theorem afC:Aa=(S1 (G1 Aa 0) (S1 (G1 Aa 1) (S1 (G1 Aa 2) (S1 (G1 Aa 3) .ret)))):=kr
theorem aeY:qS=(S1 (S1 (G1 qS 0) (C1 19 .ret K1)) (S1 (S1 (G1 qS 1) (C1 34 .ret K1)) (S1 (S1 (G1 qS 2) (B1 0 (.loop (S1 (G1 qS 3) (S1 (C1 39 K1 (X1 0)) (S1 (B1 1 (S1 (G1 qS 4) (S1 (G1 qS 5) (C1 46 .ret K1)))) (G1 qS 6))))))) (S1 (G1 qS 7) (C1 65 (G1 qS 8) K1))))):=kr
theorem agG:fS=(S1 (G1 fS 0) (S1 (S1 (G1 fS 1) (B1 0 (S1 (S1 (G1 fS 2) (C1 5 K1 (S1 (G1 fS 3) (C1 5 K1 (S1 (G1 fS 4) (C1 5 K1 (S1 (G1 fS 5) (C1 5 K1 (S1 (G1 fS 6) (C1 5 K1 (S1 (G1 fS 7) (C1 5 K1 (S1 (G1 fS 8) (C1 5 K1 (S1 (G1 fS 9) (C1 5 K1 (S1 (G1 fS 10) (C1 5 K1 (S1 (G1 fS 11) (C1 5 K1 (S1 (G1 fS 12) (C1 5 K1 (S1 (G1 fS 13) (C1 5 K1 (S1 (G1 fS 14) (C1 5 K1 (S1 (G1 fS 15) (C1 5 K1 (G1 fS 16))))))))))))))))))))))))))))) (C1 5 (S1 (G1 fS 17) .ret) (S1 (S1 (G1 fS 18) (C1 23 K1 (S1 (G1 fS 19) (C1 23 K1 (S1 (G1 fS 20) (C1 23 K1 (S1 (G1 fS 21) (C1 23 K1 (S1 (G1 fS 22) (C1 23 K1 (S1 (G1 fS 23) (C1 23 K1 (G1 fS 24))))))))))))) (C1 23 (S1 (G1 fS 25) .ret) K1)))))) (S1 (G1 fS 26) .ret))):=kr
theorem afa:FX=(S1 (G1 FX 0) (S1 (G1 FX 1) .ret)):=kr
theorem afx:FY=(S1 (G1 FY 0) (G1 FY 1)):=kr
theorem ae9:xv=(S1 (G1 xv 0) (S1 (S1 (G1 xv 1) (B1 0 (.rangeFunc (.tmp 6) #[7] (G1 xv 2) (B1 1 (G1 xv 3))))) (S1 (G1 xv 4) .ret))):=kr
theorem afv:eT=(S1 (G1 eT 0) (S1 (G1 eT 1) (B1 0 (.loop (B1 1 (S1 (G1 eT 2) (S1 (S1 (G1 eT 3) (C1 23 (S1 (G1 eT 4) .ret) K1)) (S1 (S1 (G1 eT 5) (C1 29 (S1 (G1 eT 6) .ret) K1)) (S1 (S1 (G1 eT 7) (C1 35 (S1 (G1 eT 8) (G1 eT 9)) K1)) (S1 (G1 eT 10) (S1 (S1 (G1 eT 11) (C1 50 (S1 (G1 eT 12) (S1 (G1 eT 13) (G1 eT 14))) K1)) (S1 (S1 (G1 eT 15) (C1 68 (S1 (G1 eT 16) (C1 72 .ret K1)) K1)) (S1 (S1 (G2 eT 17) (C1 87 (S1 (G1 eT 18) (S1 (G1 eT 19) (X1 1))) K1)) (S1 (G1 eT 20) (S1 (G1 eT 21) (S1 (G1 eT 22) (S1 (G1 eT 23) (S1 (G1 eT 24) (C1 113 (S1 (G1 eT 25) (S1 (G1 eT 26) (G1 eT 27))) (S1 (G1 eT 28) (S1 (G1 eT 29) (G1 eT 30)))))))))))))))))))))):=kr
theorem Zw:bR (Z qT 4)=some []:=kr
theorem Zx:bR (Z qT 6)=some []:=kr
theorem aft:qT=(S1 (G1 qT 0) (B1 0 (.loop (S1 (S1 (G1 qT 1) (C1 12 K1 (X1 0))) (S1 (B1 1 (S1 (G1 qT 3) (B1 2 (.loop (S1 (S1 (G2 qT 4) (C1 30 K1 (X1 2))) (S1 (B1 3 (G2 qT 6)) (G1 qT 5))))))) (G1 qT 2)))))):=kr
theorem afr:FZ=(S1 (G1 FZ 0) (S1 (G1 FZ 1) .ret)):=kr
theorem afp:F0=(S1 (G1 F0 0) (S1 (G1 F0 1) .ret)):=kr
end Go.Proofs.Tryz.K
namespace Go.Abs
open Go.Argus
class V{α:Type}(x:α)(y:outParam α):Prop where h:x=y
section
variable{P:Program}{Y:eb}{ops:Array Oper}{dr:Bool}{cf:List (Nat×Nat)}{Q:Exit->St->Prop}{r:List Oper}{v:Env}{m:Mem}{n:Nat}{q:jN}{x:Oper}{s:St}{e:List Nat×List Nat}
variable{t:Option Nat}{u:Nat}{ty:TypeId}{pos:String}{after:Array Edge}{j:Nat}{b c:Bool}{op:Op}
def SO(P:Program)(Y:eb)(ops:Array Oper)(dr:Bool)(o:Oper)(v:Env)(m:Mem)(n:Nat)(s:St)(e:List Nat×List Nat):Prop:=
 ∀ cf Q r q,av P Y ops dr cf Q r s (q++[e])->av P Y ops dr cf Q (o::r) ⟨v,m,n⟩ q
theorem ak{l:List Operand}(h:fN v l:=by repeat' (first|exact trivial|exact hc|exact rfl|refine And.intro ?_ ?_)):fN v l:=h
theorem z(K:∀ (x:D) rd,av P Y ops dr cf Q r (St.put ⟨v,m,n⟩ t (.cw false x)) (q++[(rd,[])]))(hj:(ops[j]?).bind (·.dst)=some u:=by exact rfl)(hg:jV (v u) b=some false:=by exact rfl):
 av P Y ops dr cf Q (⟨t,op,ty,pos,after,some (j,b)⟩::r) ⟨v,m,n⟩ q:=SX hj hg K
theorem cl{f:FuncId}{gs:List D}{d:D}{t:Nat}(h:aD P f gs d)(K:av P Y ops dr cf Q r ⟨up v t d,m,n⟩ (q++[([],[])]))(hc:dI (aZ v op) op=some (f,gs):=by exact rfl)(ha:fN v op.operands.toList:=by exact ak):
 av P Y ops dr cf Q (⟨some t,op,ty,pos,after,none⟩::r) ⟨v,m,n⟩ q:=nu h hc ha K
theorem gc{f:FuncId}{gs:List D}{d:D}{t:Nat}(h:aD P f gs d)(K:av P Y ops dr cf Q r ⟨up v t (.cw c d),m,n⟩ (q++[([],[])]))(hj:(ops[j]?).bind (·.dst)=some u:=by exact rfl)(hg:jV (v u) b=some c:=by exact rfl)(hl:dI (aZ v op) op=some (f,gs):=by exact rfl)(ha:c=true->fN v op.operands.toList:=by exact fun hc=>ak):
 av P Y ops dr cf Q (⟨some t,op,ty,pos,after,some (j,b)⟩::r) ⟨v,m,n⟩ q:=tU hj hg hl (fun hc=>⟨ha hc,h⟩) K
theorem Uz(K:av P Y ops dr cf Q r s (q++[e]))(h:SO P Y ops dr x v m n s e:=by intro _ _ _ _ k;exact bw rfl rfl (Sa rfl rfl sN) (fun hc=>⟨ak,rfl⟩) k):av P Y ops dr cf Q (x::r) ⟨v,m,n⟩ q:=h _ _ _ _ K
theorem Uw(K:av P Y ops dr cf Q r s (q++[e]))(h:SO P Y ops dr x v m n s e:=by intro _ _ _ _ k;exact bw rfl rfl (dO (v:=.z) rfl) (fun hc=>⟨ak,trivial⟩) k):av P Y ops dr cf Q (x::r) ⟨v,m,n⟩ q:=h _ _ _ _ K
theorem Ux(K:av P Y ops dr cf Q r s (q++[e]))(h:SO P Y ops dr x v m n s e:=by intro _ _ _ _ k;exact bw rfl rfl (ac7 rfl) (fun hc=>⟨ak,V.h⟩) k):av P Y ops dr cf Q (x::r) ⟨v,m,n⟩ q:=h _ _ _ _ K
variable{rf:Bool}{W:Exit->St->Prop}{o:Array Oper}{B:Code}{i:Nat}{k:St}
theorem ws[dA Y](h:av P Y o false [] (eQ fun k=>AW P Y rf B W k) o.toList k []):AW P Y rf (.seq (.region i o false) B) W k:=aj h
theorem er[dA Y](h:av P Y o false [] (eQ fun k=>AW P Y rf B W k) o.toList k []):av P Y ops dr [] (eQ fun k=>AW P Y rf (.seq (.region i o false) B) W k) [] k q:=af (aj h)
end
end Go.Abs
theorem eH{p:Prop}(h:p:=by repeat' (first|exact trivial|exact rfl|refine And.intro ?_ ?_)):p:=h
namespace Go.Proofs.Tryz.K
open Go.Abs
theorem kR{α:Sort _}{a b:α}(h:a=b:=by kernel_rfl):a=b:=h
instance:V (prog.cellsOf 1) 1:=⟨c1⟩
instance:V (bl prog 1) false:=⟨a1⟩
instance:V (aI prog 1) true:=⟨t1⟩
instance:V (prog.bytesOf 1) 8:=⟨b1⟩
instance:V (prog.cellsOf 2) 1:=⟨kR⟩
instance:V (prog.bytesOf 2) 8:=⟨b2⟩
instance:V (bl prog 2) false:=⟨a2⟩
instance:V (aI prog 2) true:=⟨t2⟩
instance:V (a7 prog 2) [.s (.int .i64 0)]:=⟨z2⟩
instance:V (prog.cellsOf 3) 1:=⟨c3⟩
instance:V (prog.bytesOf 3) 8:=⟨b3⟩
instance:V (bl prog 3) false:=⟨a3⟩
instance:V (aI prog 3) true:=⟨t3⟩
instance:V (a7 prog 3) [.s (.int .i64 0)]:=⟨z3⟩
instance:V (prog.cellsOf 4) 1:=⟨c4⟩
instance:V (prog.bytesOf 4) 1:=⟨b4⟩
instance:V (bl prog 4) false:=⟨a4⟩
instance:V (aI prog 4) true:=⟨t4⟩
instance:V (a7 prog 4) [.s (.bool false)]:=⟨z4⟩
instance:V (sU prog 4) true:=⟨kR⟩
instance:V (prog.cellsOf 5) 1:=⟨c5⟩
instance:V (prog.bytesOf 5) 1:=⟨b5⟩
instance:V (bl prog 5) false:=⟨a5⟩
instance:V (aI prog 5) true:=⟨t5⟩
instance:V (a7 prog 5) [.s (.int .u8 0)]:=⟨z5⟩
instance:V (prog.bytesOf 6) 1:=⟨b6⟩
instance:V (prog.bytesOf 7) 24:=⟨b7⟩
instance:V (prog.bytesOf 8) 24:=⟨b8⟩
instance:V (prog.cellsOf 9) 1:=⟨c9⟩
instance:V (prog.bytesOf 9) 16:=⟨b9⟩
instance:V (bl prog 9) false:=⟨a9⟩
instance:V (aI prog 9) true:=⟨t9⟩
instance:V (a7 prog 9) [.s (.string "".toUTF8)]:=⟨z9⟩
instance:V (fO prog 9) true:=⟨kR⟩
instance:V (prog.bytesOf 10) 16:=⟨lu⟩
instance:V (aF prog 15) 321:=⟨NJ⟩
instance:V (aF prog 16) 324:=⟨NK⟩
instance:V (aF prog 17) 331:=⟨NE⟩
instance:V (prog.cellsOf 22) 1:=⟨kR⟩
instance:V (bl prog 22) false:=⟨kR⟩
instance:V (aI prog 22) true:=⟨kR⟩
instance:V (aF prog 22) 48:=⟨H5⟩
instance:V (bg prog 22) true:=⟨Hl⟩
instance:V (prog.cellsOf 23) 1:=⟨kR⟩
instance:V (bl prog 23) false:=⟨kR⟩
instance:V (aI prog 23) true:=⟨kR⟩
instance:V (aF prog 23) 43:=⟨Vl⟩
instance:V (bg prog 23) true:=⟨T9⟩
instance:V (prog.cellsOf 27) 1:=⟨BC⟩
instance:V (bl prog 27) false:=⟨HX⟩
instance:V (aI prog 27) true:=⟨t27⟩
instance:V (a7 prog 27) [.s (.int .i64 0)]:=⟨kR⟩
instance:V (bl prog 31) false:=⟨a31⟩
instance:V (aI prog 31) true:=⟨t31⟩
instance:V (a7 prog 31) [.s .nilFunc]:=⟨z31⟩
instance:V (prog.cellsOf 34) 1:=⟨kR⟩
instance:V (bl prog 34) false:=⟨kR⟩
instance:V (aI prog 34) true:=⟨kR⟩
instance:V (aF prog 34) 9:=⟨rI⟩
instance:V (bg prog 34) true:=⟨uu⟩
instance:V (bl prog 37) false:=⟨a37⟩
instance:V (aI prog 37) true:=⟨t37⟩
instance:V (a7 prog 37) [.s .nilFunc]:=⟨z37⟩
instance:V (prog.cellsOf 43) 1:=⟨s8⟩
instance:V (prog.bytesOf 43) 24:=⟨D8⟩
instance:V (bl prog 43) false:=⟨HW⟩
instance:V (aI prog 43) true:=⟨t43⟩
instance:V (a7 prog 43) [.z]:=⟨kR⟩
instance:V (aF prog 43) 3:=⟨Bs⟩
instance:V (bg prog 43) true:=⟨AQ⟩
instance:V (prog.cellsOf 45) 1:=⟨kR⟩
instance:V (bl prog 45) false:=⟨kR⟩
instance:V (aI prog 45) true:=⟨kR⟩
instance:V (aF prog 45) 5:=⟨HM⟩
instance:V (bg prog 45) true:=⟨AT⟩
instance:V (prog.cellsOf 46) 1:=⟨kR⟩
instance:V (bl prog 46) false:=⟨a46⟩
instance:V (aI prog 46) true:=⟨t46⟩
instance:V (a7 prog 46) [.z]:=⟨z46⟩
instance:V (aF prog 46) 59:=⟨M5⟩
instance:V (bg prog 46) true:=⟨LM⟩
instance:V (prog.cellsOf 48) 8:=⟨oO⟩
instance:V (prog.bytesOf 48) 136:=⟨Nh⟩
instance:V (bl prog 48) true:=⟨za⟩
instance:V (aI prog 48) true:=⟨t48⟩
instance:V (a7 prog 48) [.s (.string "".toUTF8),.s (.bool false),.s (.int .i64 0),.s (.int .u8 0),.z,.z,.z,.z]:=⟨kR⟩
instance:V (cg prog 48 0) (some (0,9)):=⟨kR⟩
instance:V (cg prog 48 1) (some (1,4)):=⟨kR⟩
instance:V (cg prog 48 2) (some (2,3)):=⟨kR⟩
instance:V (cg prog 48 3) (some (3,5)):=⟨kR⟩
instance:V (cg prog 48 4) (some (4,45)):=⟨kR⟩
instance:V (cg prog 48 5) (some (5,45)):=⟨kR⟩
instance:V (cg prog 48 6) (some (6,34)):=⟨kR⟩
instance:V (cg prog 48 7) (some (7,46)):=⟨kR⟩
instance:V (bl prog 51) false:=⟨a51⟩
instance:V (aI prog 51) true:=⟨t51⟩
instance:V (a7 prog 51) [.s .nilFunc]:=⟨z51⟩
instance:V (prog.cellsOf 52) 1:=⟨kR⟩
instance:V (bl prog 52) false:=⟨kR⟩
instance:V (aI prog 52) true:=⟨kR⟩
instance:V (aF prog 52) 54:=⟨Vh⟩
instance:V (bg prog 52) true:=⟨T8⟩
instance:V (bl prog 53) true:=⟨a53⟩
instance:V (aI prog 53) true:=⟨t53⟩
instance:V (a7 prog 53) [.s (.int .u8 0),.s (.int .i64 0),.s (.int .i64 0),.s (.int .i64 0),.s (.int .i64 0),.z]:=⟨z53⟩
instance:V (prog.cellsOf 54) 6:=⟨M3⟩
instance:V (prog.bytesOf 54) 64:=⟨M1⟩
instance:V (bl prog 54) true:=⟨kR⟩
instance:V (aI prog 54) true:=⟨kR⟩
instance:V (a7 prog 54) [.s (.int .u8 0),.s (.int .i64 0),.s (.int .i64 0),.s (.int .i64 0),.s (.int .i64 0),.z]:=⟨kR⟩
instance:V (cg prog 54 0) (some (0,5)):=⟨kR⟩
instance:V (cg prog 54 1) (some (1,3)):=⟨kR⟩
instance:V (cg prog 54 2) (some (2,3)):=⟨kR⟩
instance:V (cg prog 54 3) (some (3,3)):=⟨kR⟩
instance:V (cg prog 54 4) (some (4,3)):=⟨kR⟩
instance:V (cg prog 54 5) (some (5,43)):=⟨kR⟩
instance:V (prog.cellsOf 55) 1:=⟨kR⟩
instance:V (bl prog 55) false:=⟨kR⟩
instance:V (aI prog 55) true:=⟨kR⟩
instance:V (aF prog 55) 79:=⟨MY⟩
instance:V (bg prog 55) true:=⟨Dw⟩
instance:V (prog.cellsOf 57) 15:=⟨kR⟩
instance:V (bl prog 57) true:=⟨kR⟩
instance:V (aI prog 57) true:=⟨kR⟩
instance:V (a7 prog 57) [.s (.int .u8 0),.s (.int .i64 0),.s (.int .i64 0),.s (.int .i64 0),.s (.int .i64 0),.s (.string "".toUTF8),.s (.int .u8 0),.s (.int .i64 0),.s (.int .i64 0),.s (.int .i64 0),.s (.int .i64 0),.z,.z,.z,.s (.int .i64 0)]:=⟨kR⟩
instance:V (cg prog 57 0) (some (0,5)):=⟨kR⟩
instance:V (cg prog 57 1) (some (1,3)):=⟨kR⟩
instance:V (cg prog 57 2) (some (2,3)):=⟨kR⟩
instance:V (cg prog 57 3) (some (3,3)):=⟨kR⟩
instance:V (cg prog 57 4) (some (4,3)):=⟨kR⟩
instance:V (cg prog 57 5) (some (5,9)):=⟨kR⟩
instance:V (cg prog 57 6) (some (6,54)):=⟨kR⟩
instance:V (cg prog 57 7) (some (12,43)):=⟨kR⟩
instance:V (cg prog 57 8) (some (13,55)):=⟨kR⟩
instance:V (cg prog 57 9) (some (14,3)):=⟨kR⟩
instance:V (prog.cellsOf 59) 16:=⟨HO⟩
instance:V (prog.bytesOf 59) 200:=⟨M4⟩
instance:V (bl prog 59) true:=⟨kR⟩
instance:V (aI prog 59) true:=⟨kR⟩
instance:V (a7 prog 59) [.z,.s (.int .u8 0),.s (.int .i64 0),.s (.int .i64 0),.s (.int .i64 0),.s (.int .i64 0),.s (.string "".toUTF8),.s (.int .u8 0),.s (.int .i64 0),.s (.int .i64 0),.s (.int .i64 0),.s (.int .i64 0),.z,.z,.z,.s (.int .i64 0)]:=⟨z59⟩
instance:V (cg prog 59 0) (some (0,52)):=⟨kR⟩
instance:V (cg prog 59 1) (some (1,57)):=⟨kR⟩
instance:V (bl prog 70) true:=⟨a70⟩
instance:V (aI prog 70) true:=⟨t70⟩
instance:V (a7 prog 70) [.s (.int .u8 0),.s (.int .i64 0)]:=⟨z70⟩
instance:V (bl prog 72) true:=⟨a72⟩
instance:V (aI prog 72) true:=⟨t72⟩
instance:V (a7 prog 72) [.s (.int .u8 0),.s (.string "".toUTF8),.s (.int .u8 0),.s (.int .i64 0),.z,.s (.int .i64 0)]:=⟨z72⟩
instance:V (bl prog 75) false:=⟨a75⟩
instance:V (aI prog 75) true:=⟨t75⟩
instance:V (a7 prog 75) [.s .nilFunc]:=⟨z75⟩
instance:V (bl prog 76) false:=⟨a76⟩
instance:V (aI prog 76) true:=⟨t76⟩
instance:V (a7 prog 76) [.s .nilFunc]:=⟨z76⟩
instance:V (prog.cellsOf 79) 2:=⟨HN⟩
instance:V (prog.bytesOf 79) 24:=⟨Vg⟩
instance:V (bl prog 79) true:=⟨kR⟩
instance:V (aI prog 79) true:=⟨kR⟩
instance:V (a7 prog 79) [.s (.string "".toUTF8),.s (.int .i64 0)]:=⟨kR⟩
instance:V (cg prog 79 0) (some (0,9)):=⟨kR⟩
instance:V (cg prog 79 1) (some (1,3)):=⟨kR⟩
instance:V (prog.cellsOf 82) 3:=⟨mh⟩
instance:V (bl prog 82) true:=⟨s7⟩
instance:V (aI prog 82) true:=⟨t82⟩
instance:V (a7 prog 82) [.z,.z,.z]:=⟨kR⟩
instance:V (cg prog 82 0) (some (0,22)):=⟨kR⟩
instance:V (cg prog 82 1) (some (1,34)):=⟨kR⟩
instance:V (cg prog 82 2) (some (2,23)):=⟨kR⟩
instance:V (prog.cellsOf 86) 4:=⟨wO⟩
instance:V (bl prog 86) true:=⟨Bx⟩
instance:V (aI prog 86) true:=⟨t86⟩
instance:V (a7 prog 86) [.z,.z,.z,.z]:=⟨kR⟩
instance:V (cg prog 86 0) (some (0,82)):=⟨kR⟩
instance:V (cg prog 86 1) (some (3,43)):=⟨kR⟩
instance:V (prog.cellsOf 92) 1:=⟨kR⟩
instance:V (bl prog 92) false:=⟨kR⟩
instance:V (aI prog 92) true:=⟨kR⟩
instance:V (a7 prog 92) [.z]:=⟨kR⟩
instance:V (aF prog 92) 4:=⟨Ee⟩
instance:V (bg prog 92) true:=⟨Dx⟩
instance:V (prog.cellsOf 93) 1:=⟨kR⟩
instance:V (bl prog 93) false:=⟨kR⟩
instance:V (aI prog 93) true:=⟨kR⟩
instance:V (a7 prog 93) [.s (.map none)]:=⟨kR⟩
instance:V (prog.cellsOf 105) 1:=⟨kR⟩
instance:V (bl prog 105) false:=⟨kR⟩
instance:V (aI prog 105) true:=⟨kR⟩
instance:V (a7 prog 105) [.s (.map none)]:=⟨kR⟩
instance:V (prog.cellsOf 111) 1:=⟨kR⟩
instance:V (bl prog 111) false:=⟨kR⟩
instance:V (aI prog 111) true:=⟨kR⟩
instance:V (prog.cellsOf 113) 10:=⟨UH⟩
instance:V (bl prog 113) true:=⟨UG⟩
instance:V (aI prog 113) true:=⟨t113⟩
instance:V (a7 prog 113) [.s (.string "".toUTF8),.s (.bool false),.s (.int .i64 0),.s (.int .u8 0),.z,.z,.z,.z,.s (.map none),.s (.map none)]:=⟨kR⟩
instance:V (cg prog 113 0) (some (0,48)):=⟨kR⟩
instance:V (cg prog 113 1) (some (8,111)):=⟨kR⟩
instance:V (cg prog 113 2) (some (9,111)):=⟨kR⟩
instance:V (prog.cellsOf 121) 2:=⟨LQ⟩
instance:V (bl prog 121) true:=⟨kR⟩
instance:V (aI prog 121) true:=⟨t121⟩
instance:V (a7 prog 121) [.s (.int .i64 0),.s (.int .i64 0)]:=⟨Hh⟩
instance:V (cg prog 121 0) (some (0,3)):=⟨kR⟩
instance:V (cg prog 121 1) (some (1,3)):=⟨kR⟩
instance:V (bl prog 127) false:=⟨a127⟩
instance:V (aI prog 127) true:=⟨t127⟩
instance:V (a7 prog 127) [.s .nilFunc]:=⟨z127⟩
instance:V (bl prog 164) false:=⟨a164⟩
instance:V (aI prog 164) true:=⟨t164⟩
instance:V (a7 prog 164) [.s .nilFunc]:=⟨z164⟩
instance:V (bl prog 171) false:=⟨a171⟩
instance:V (aI prog 171) true:=⟨t171⟩
instance:V (a7 prog 171) [.s .nilFunc]:=⟨z171⟩
instance:V (bl prog 173) true:=⟨a173⟩
instance:V (aI prog 173) true:=⟨t173⟩
instance:V (a7 prog 173) [.s (.int .i64 0),.s (.int .i64 0),.z]:=⟨z173⟩
instance:V (prog.cellsOf 174) 3:=⟨ux⟩
instance:V (prog.bytesOf 174) 40:=⟨Uj⟩
instance:V (bl prog 174) true:=⟨Ue⟩
instance:V (aI prog 174) true:=⟨t174⟩
instance:V (a7 prog 174) [.s (.int .i64 0),.s (.int .i64 0),.z]:=⟨Hg⟩
instance:V (cg prog 174 0) (some (0,121)):=⟨kR⟩
instance:V (cg prog 174 1) (some (2,43)):=⟨kR⟩
instance:V (aF prog 175) 174:=⟨A1⟩
instance:V (bg prog 175) true:=⟨AF⟩
instance:V (prog.cellsOf 183) 2:=⟨kR⟩
instance:V (aI prog 183) true:=⟨kR⟩
instance:V (a7 prog 183) [.s (.pointer none),.z]:=⟨kR⟩
instance:V (cg prog 183 1) (some (1,45)):=⟨kR⟩
instance:V (aF prog 196) 201:=⟨kR⟩
instance:V (bg prog 196) true:=⟨kR⟩
instance:V (prog.cellsOf 199) 1:=⟨kR⟩
instance:V (bl prog 199) false:=⟨kR⟩
instance:V (aI prog 199) true:=⟨kR⟩
instance:V (prog.cellsOf 201) 20:=⟨rj⟩
instance:V (prog.bytesOf 201) 160:=⟨UA⟩
instance:V (bl prog 201) true:=⟨a201⟩
instance:V (aI prog 201) true:=⟨t201⟩
instance:V (a7 prog 201) [.s (.int .u64 0),.s (.int .u64 0),.s (.int .u64 0),.s (.int .u64 0),.s (.int .u64 0),.s (.int .u64 0),.s (.int .u64 0),.s (.int .u64 0),.s (.int .u64 0),.s (.int .u64 0),.s (.int .u64 0),.s (.int .u64 0),.s (.int .u64 0),.s (.int .u64 0),.s (.int .u64 0),.s (.int .u64 0),.s (.int .u64 0),.s (.int .u64 0),.s (.int .u64 0),.s (.int .u64 0)]:=⟨z201⟩
instance:V (aF prog 201) 199:=⟨kR⟩
instance:V (nP prog 201) true:=⟨kR⟩
instance:V (ou prog 201) 20:=⟨kR⟩
instance:V (bl prog 212) true:=⟨a212⟩
instance:V (aI prog 212) true:=⟨t212⟩
instance:V (a7 prog 212) [.s (.pointer none),.z]:=⟨z212⟩
instance:V (prog.cellsOf 213) 2:=⟨kR⟩
instance:V (bl prog 213) true:=⟨a213⟩
instance:V (aI prog 213) true:=⟨t213⟩
instance:V (a7 prog 213) [.s (.pointer none),.z]:=⟨z213⟩
instance:V (cg prog 213 0) (some (0,183)):=⟨kR⟩
instance:V (bl prog 232) false:=⟨a232⟩
instance:V (aI prog 232) true:=⟨t232⟩
instance:V (a7 prog 232) [.s .nilFunc]:=⟨z232⟩
instance:V (bl prog 233) false:=⟨a233⟩
instance:V (aI prog 233) true:=⟨t233⟩
instance:V (a7 prog 233) [.s .nilFunc]:=⟨z233⟩
instance:V (prog.cellsOf 237) 6:=⟨kR⟩
instance:V (bl prog 237) true:=⟨L9⟩
instance:V (aI prog 237) true:=⟨kR⟩
instance:V (a7 prog 237) [.s (.int .i64 0),.s (.int .i64 0),.s (.int .i64 0),.s (.int .i64 0),.s (.int .i64 0),.s (.int .i64 0)]:=⟨L'⟩
instance:V (cg prog 237 0) (some (0,3)):=⟨kR⟩
instance:V (cg prog 237 1) (some (1,3)):=⟨kR⟩
instance:V (cg prog 237 2) (some (2,3)):=⟨kR⟩
instance:V (cg prog 237 3) (some (3,3)):=⟨kR⟩
instance:V (cg prog 237 4) (some (4,3)):=⟨kR⟩
instance:V (cg prog 237 5) (some (5,3)):=⟨kR⟩
instance:V (prog.underlying 2) (some (.int .i64)):=⟨kR⟩
instance:V (prog.underlying 3) (some (.int .i64)):=⟨u3⟩
instance:V (prog.underlying 5) (some (.int .u8)):=⟨u5⟩
instance:V (prog.underlying 8) (some (.struct (dV prog 8))):=⟨u8⟩
instance:V (prog.underlying 21) (some (.int .i32)):=⟨kR⟩
instance:V (prog.underlying 45) (some (.slice 5)):=⟨kR⟩
instance:V (prog.underlying 48) (some (.struct (dV prog 48))):=⟨kR⟩
instance:V (((dV prog 48).toList.map fun f=>(f.offset,prog.cellsOf f.type))) [(0,1),(1,1),(2,1),(3,1),(4,1),(5,1),(6,1),(7,1)]:=⟨kR⟩
instance:V (((dV prog 48).toList.all fun f=>(prog.info? f.type).isSome)) true:=⟨kR⟩
instance:V (prog.underlying 54) (some (.struct (dV prog 54))):=⟨kR⟩
instance:V (((dV prog 54).toList.map fun f=>(f.offset,prog.cellsOf f.type))) [(0,1),(1,1),(2,1),(3,1),(4,1),(5,1)]:=⟨kR⟩
instance:V (((dV prog 54).toList.all fun f=>(prog.info? f.type).isSome)) true:=⟨kR⟩
instance:V (prog.underlying 69) (some (.int .u64)):=⟨kR⟩
instance:V (prog.underlying 70) (some (.struct (dV prog 70))):=⟨U4⟩
instance:V (prog.underlying 72) (some (.struct (dV prog 72))):=⟨U3⟩
instance:V (prog.underlying 82) (some (.struct (dV prog 82))):=⟨kR⟩
instance:V (((dV prog 82).toList.map fun f=>(f.offset,prog.cellsOf f.type))) [(0,1),(1,1),(2,1)]:=⟨kR⟩
instance:V (((dV prog 82).toList.all fun f=>(prog.info? f.type).isSome)) true:=⟨kR⟩
instance:V (prog.underlying 86) (some (.struct (dV prog 86))):=⟨kR⟩
instance:V (((dV prog 86).toList.map fun f=>(f.offset,prog.cellsOf f.type))) [(0,3),(3,1)]:=⟨kR⟩
instance:V (((dV prog 86).toList.all fun f=>(prog.info? f.type).isSome)) true:=⟨kR⟩
instance:V (eB prog 93) 3:=⟨AZ⟩
instance:V (fL prog 93) true:=⟨A0⟩
instance:V (eB prog 105) 9:=⟨K3⟩
instance:V (fL prog 105) true:=⟨K4⟩
instance:V (eB prog 111) 5:=⟨kR⟩
instance:V (fL prog 111) true:=⟨kR⟩
instance:V (la prog 111) 237:=⟨La⟩
instance:V (prog.underlying 113) (some (.struct (dV prog 113))):=⟨kR⟩
instance:V (((dV prog 113).toList.map fun f=>(f.offset,prog.cellsOf f.type))) [(0,8),(8,1),(9,1)]:=⟨kR⟩
instance:V (((dV prog 113).toList.all fun f=>(prog.info? f.type).isSome)) true:=⟨kR⟩
instance:V (prog.underlying 121) (some (.struct (dV prog 121))):=⟨Uh⟩
instance:V (((dV prog 121).toList.map fun f=>(f.offset,prog.cellsOf f.type))) [(0,1),(1,1)]:=⟨Tl⟩
instance:V (((dV prog 121).toList.all fun f=>(prog.info? f.type).isSome)) true:=⟨Tm⟩
instance:V (eB prog 144) 9:=⟨C0⟩
instance:V (fL prog 144) true:=⟨C'⟩
instance:V (eB prog 172) 121:=⟨KY⟩
instance:V (fL prog 172) true:=⟨KZ⟩
instance:V (prog.underlying 174) (some (.struct (dV prog 174))):=⟨Ui⟩
instance:V (((dV prog 174).toList.map fun f=>(f.offset,prog.cellsOf f.type))) [(0,2),(2,1)]:=⟨To⟩
instance:V (((dV prog 174).toList.all fun f=>(prog.info? f.type).isSome)) true:=⟨Tp⟩
instance:V (eB prog 194) 3:=⟨K6⟩
instance:V (fL prog 194) true:=⟨K7⟩
instance:V (prog.underlying 213) (some (.struct (dV prog 213))):=⟨kR⟩
instance:V (((dV prog 213).toList.map fun f=>(f.offset,prog.cellsOf f.type))) [(0,2)]:=⟨kR⟩
instance:V (((dV prog 213).toList.all fun f=>(prog.info? f.type).isSome)) true:=⟨kR⟩
instance:V (prog.underlying 237) (some (.struct (dV prog 237))):=⟨kR⟩
instance:V (((dV prog 237).toList.map fun f=>(f.offset,prog.cellsOf f.type))) [(0,1),(1,1),(2,1),(3,1),(4,1),(5,1)]:=⟨kR⟩
instance:V (((dV prog 237).toList.all fun f=>(prog.info? f.type).isSome)) true:=⟨kR⟩
end Go.Proofs.Tryz.K
namespace Go.Abs
open Go.Argus
section
variable{P:Program}{Y:eb}{ops:Array Oper}{dr:Bool}{cf:List (Nat×Nat)}{Q:Exit->St->Prop}{r:List Oper}{v:Env}{m:Mem}{n:Nat}{q:jN}{x:Oper}{s:St}{e:List Nat×List Nat}
theorem lq{p:Prop}(h:p:=by first|rfl|exact bF rfl|(simp;done)|(simp;omega)|omega):p:=h
theorem HF{p:Prop}(h:p:=by first|omega|exact bF rfl|(simp;done)|(simp;omega)):p:=h
theorem nW{p:Prop}(h:p:=by first|(simp;done)|exact⟨rfl,bF rfl⟩|(simp;omega)):p:=h
theorem MK{p:Prop}(h:p:=by first|rfl|exact nJ _|(simp[nJ];done)|exact aaE):p:=h
theorem D1{p:Prop}(h:p:=by first|(simp;done)|omega|exact bF rfl):p:=h
theorem HG{p:Prop}(h:p:=by unfold maxLen;first|omega|(simp;omega)):p:=h
theorem ML{p:Prop}(h:p:=by first|rfl|(simp;done)|(simp;omega)):p:=h
theorem MM{p:Prop}(h:p:=by first|(simp;done)|(simp;omega)):p:=h
theorem rE{p:Prop}(h:p:=by first|(simp;done)|fail):p:=h
theorem Bp{p:Prop}(h:p:=by first|decide|simp):p:=h
def oT(x:Oper):Nat:=2*(match x.op with
 | .move ..=>1
 | .assign ..=>2
 | .pick ..=>3
 | .alloc ..=>4
 | .box ..=>5
 | .build ..=>6
 | .buildSlice ..=>7
 | .insert ..=>8
 | .load ..=>9
 | .store ..=>10
 | .nilCheck ..=>11
 | .unOp ..=>12
 | .convert ..=>13
 | .makeFunc ..=>14
 | .makeMap ..=>15
 | .makeSlice ..=>16
 | .slice ..=>17
 | .fieldAddr ..=>18
 | .field ..=>19
 | .indexAddr ..=>20
 | .index ..=>21
 | .lookup ..=>22
 | .mapUpdate ..=>23
 | .extract ..=>24
 | .call ..=>25
 | .binOp .add ..=>26
 | .binOp .sub ..=>27
 | .binOp .mul ..=>28
 | .binOp .quo ..=>29
 | .binOp .rem ..=>30
 | .binOp .and ..=>31
 | .binOp .or ..=>32
 | .binOp .xor ..=>33
 | .binOp .shl ..=>34
 | .binOp .shr ..=>35
 | .binOp .andNot ..=>36
 | .binOp .eql ..=>37
 | .binOp .neq ..=>38
 | .binOp .lss ..=>39
 | .binOp .leq ..=>40
 | .binOp .gtr ..=>41
 | .binOp .geq ..=>42
 |_=>0)+(match x.guard with
 |none=>0
 |_=>1)
theorem SS2(ht:oT x=2:=by exact rfl)(h:SO P Y ops dr x v m n s e:=by intro _ _ _ _ k;first|exact ax (dO (v:=.s (.int _ _)) rfl) ak trivial k|exact ax (dO (v:=.s (.bool _)) rfl) ak trivial k|exact ax (dO (v:=.sl _ _) rfl) ak trivial k|exact ax (dO (v:=.rs _ _ _) rfl) ak trivial k|exact ax (dO (v:=.fn _ _ _) rfl) ak trivial k|exact ax (dO (v:=.rp _ _) rfl) ak trivial k|exact ax (dO (v:=_) rfl) ak trivial k|exact ax (dO (v:=.s (.string _)) rfl) ak trivial k|exact ax (dO (v:=.mp _) rfl) ak trivial k|exact ax (dO (v:=.im _) rfl) ak trivial k|fail):SO P Y ops dr x v m n s e:=h
theorem SS4(ht:oT x=4:=by exact rfl)(h:SO P Y ops dr x v m n s e:=by intro _ _ _ _ k;first|exact ax (jT (v:=.s (.bool _)) rfl) ak trivial k|exact ax (jT (v:=.s (.int _ _)) rfl) ak trivial k|exact ax (jT (v:=.sl _ _) rfl) ak trivial k|exact ax (jT (v:=.rs _ _ _) rfl) ak trivial k|exact ax (jT (v:=.z) rfl) ak trivial k|exact ax (jT (v:=.s (.string _)) rfl) ak trivial k|exact ax (jT (v:=.mp _) rfl) ak trivial k|exact ax (jT (v:=_) rfl) ak trivial k|fail):SO P Y ops dr x v m n s e:=h
theorem ahc(ht:oT x=18:=by exact rfl)(h:SO P Y ops dr x v m n s e:=by intro _ _ _ _ k;first|exact ax (j8 (vs:=a6 _ _ _) rfl V.h V.h rfl) ak (kb V.h V.h rE) k|exact ax (j8 (vs:=aY _) rfl V.h V.h rfl) ak (kb V.h V.h rE) k|exact ax (j8 (vs:=bS _) rfl V.h V.h rfl) ak (kb V.h V.h rE) k|exact ax (j8 rfl V.h V.h rfl) ak (kb V.h V.h rE) k|exact ax (j8 (vs:=cA _) rfl V.h V.h rfl) ak (kb V.h V.h rE) k|exact ax (ff rfl rfl V.h V.h (nw lq)) ak (fh V.h V.h lq) k|exact ax (j8 (vs:=bE _) rfl V.h V.h rfl) ak (kb V.h V.h rE) k|exact ax (ff (vs:=cA _) rfl (al _ _ _) V.h V.h rfl) ak (fh V.h V.h D1) k|exact ax (j8 (vs:=gR _) rfl V.h V.h rfl) ak (kb V.h V.h rE) k|exact ax (ff (vs:=bE _) rfl rfl V.h V.h rfl) ak (fh V.h V.h D1) k|exact ax (ff rfl (ai oG rfl) V.h V.h (nw lq)) ak (fh V.h V.h lq) k|exact ax (ff (vs:=aY _) rfl aq V.h V.h rfl) ak (fh V.h V.h D1) k|exact ax (ff rfl rfl V.h V.h rfl) ak (fh V.h V.h D1) k|exact ax (R1 rfl V.h) ak (R3 V.h V.h) k|exact ax (j9 rfl rfl kd V.h) ak (ka V.h V.h kd) k|exact ax (j9 rfl aq kd V.h) ak (ka V.h V.h kd) k|exact ax (j9 rfl (al _ _ _) kd V.h) ak (ka V.h V.h kd) k|exact ax (j9 rfl rfl rfl V.h) ak (ka V.h V.h rfl) k|exact ax (j9 rfl aq rfl V.h) ak (ka V.h V.h rfl) k|fail):SO P Y ops dr x v m n s e:=h
theorem ahd(ht:oT x=36:=by exact rfl)(h:SO P Y ops dr x v m n s e:=by intro _ _ _ _ k;first|exact ax (QW rfl V.h) ak (pV V.h) k|exact ax (rQ rfl rfl V.h) ak (pV V.h) k|exact ax (rQ rfl aq V.h) ak (pV V.h) k|exact ax (rQ rfl (al _ _ _) V.h) ak (pV V.h) k|fail):SO P Y ops dr x v m n s e:=h
theorem ahe(ht:oT x=19:=by exact rfl)(h:SO P Y ops dr x v m n s e:=by intro _ _ _ _ k;first|exact bw rfl rfl (R1 rfl V.h) (fun hc=>⟨ak,(R3 V.h V.h)⟩) k|exact bw rfl rfl (j8 (vs:=a6 _ _ _) rfl V.h V.h rfl) (fun hc=>⟨ak,(kb V.h V.h rE)⟩) k|exact bw rfl rfl (j9 rfl rfl rfl V.h) (fun hc=>⟨ak,(ka V.h V.h rfl)⟩) k|exact bw rfl rfl (j8 (vs:=bE _) rfl V.h V.h rfl) (fun hc=>⟨ak,(kb V.h V.h rE)⟩) k|exact bw rfl rfl (j9 rfl (al _ _ _) rfl V.h) (fun hc=>⟨ak,(ka V.h V.h rfl)⟩) k|exact bw rfl rfl (ff rfl (ai oG rfl) V.h V.h (nw lq)) (fun hc=>⟨ak,(fh V.h V.h lq)⟩) k|exact bw rfl rfl (j8 (vs:=aY _) rfl V.h V.h rfl) (fun hc=>⟨ak,(kb V.h V.h rE)⟩) k|exact bw rfl rfl (j8 rfl V.h V.h rfl) (fun hc=>⟨ak,(kb V.h V.h rE)⟩) k|exact bw rfl rfl (ff rfl rfl V.h V.h rfl) (fun hc=>⟨ak,(fh V.h V.h D1)⟩) k|fail):SO P Y ops dr x v m n s e:=h
theorem SS6(ht:oT x=6:=by exact rfl)(h:SO P Y ops dr x v m n s e:=by intro _ _ _ _ k;first|exact Qi rfl rfl (by first|exact trivial|exact rfl) k|exact Qj rfl rfl (by first|exact trivial|exact rfl) k|exact Rm rfl rfl rfl (fun h=>by first|exact trivial|exact rfl|exact h|(show Eq _ _;rw[h];rfl)|(show Eq _ _;simp[h];done)|(show Eq _ _;simp_all;done)|fail) (fun h=>by first|exact trivial|exact rfl|exact h|(show Eq _ _;rw[h];rfl)|(show Eq _ _;simp[h];done)|(show Eq _ _;simp_all;done)|fail) k|fail):SO P Y ops dr x v m n s e:=h
theorem ahf(ht:oT x=37:=by exact rfl)(h:SO P Y ops dr x v m n s e:=by intro _ _ _ _ k;first|exact bw rfl rfl (QW rfl V.h) (fun hc=>⟨ak,(pV V.h)⟩) k|exact bw rfl rfl (rQ rfl rfl V.h) (fun hc=>⟨ak,(pV V.h)⟩) k|exact bw rfl rfl (rQ rfl (al _ _ _) V.h) (fun hc=>⟨ak,(pV V.h)⟩) k|fail):SO P Y ops dr x v m n s e:=h
theorem ahg(ht:oT x=20:=by exact rfl)(h:SO P Y ops dr x v m n s e:=by intro _ _ _ _ k;first|exact bL (fg (cs':=bS _) rfl rfl (al _ _ _) rfl) ak (bY V.h V.h nW (by rfl)) k|exact bL (eF (d:=.s (.string _)) (cs':=_) rfl rfl rfl rfl rfl) ak (bY V.h V.h nW rfl) k|exact bL (fg rfl rfl rfl (JP lq lq)) ak (B8 lq lq MK) k|exact bL (fg (cs':=cA _) rfl rfl (al _ _ _) rfl) ak (bY V.h V.h nW (by rfl)) k|exact bL (fg rfl rfl (al _ _ _) (JP lq lq)) ak (B8 lq lq MK) k|exact bL (fg (cs':=gR _) rfl rfl (al _ _ _) rfl) ak (bY V.h V.h nW (by rfl)) k|exact bL (eF (d:=.s (.int _ _)) (cs':=[_]) rfl rfl rfl rfl rfl) ak (bY V.h V.h nW rfl) k|exact bL (eF (d:=.s (.int _ _)) (cs':=_) rfl rfl rfl rfl rfl) ak (bY V.h V.h nW rfl) k|exact bL (eF (d:=.s (.int _ _)) (cs':=_) rfl rfl (al _ _ _) rfl rfl) ak (bY V.h V.h nW rfl) k|exact bL (fg rfl rfl (ai oG rfl) (JP lq lq)) ak (B8 lq lq MK) k|exact bL (fg rfl rfl rfl (S0 (by decide) (by assumption) (by assumption) (by first|assumption|(simp;omega)|(simp;done)|fail))) ak (B8 (by first|(simp;omega)|(simp;done)|fail) (xW (by assumption) (by assumption)) (nJ _)) k|exact bL (fg (cs':=aY _) rfl rfl rfl rfl) ak (bY V.h V.h nW (by rfl)) k|exact bL (fg (cs':=aY _) rfl rfl (al _ _ _) rfl) ak (bY V.h V.h nW (by rfl)) k|exact bL (fg rfl rfl rfl rfl) ak (bY V.h V.h nW (by rfl)) k|exact bL (fg rfl rfl (al _ _ _) rfl) ak (bY V.h V.h nW (by rfl)) k|exact bL (eF (d:=.sl _ _) (cs':=_) rfl rfl rfl rfl rfl) ak (bY V.h V.h nW rfl) k|exact bL (eF (d:=.sl _ _) (cs':=_) rfl rfl aq rfl rfl) ak (bY V.h V.h nW rfl) k|exact bL (eF (d:=.rs _ _ _) (cs':=_) rfl rfl aq rfl rfl) ak (bY V.h V.h nW rfl) k|exact bL (eF (d:=.z) (cs':=_) rfl rfl rfl rfl rfl) ak (bY V.h V.h nW rfl) k|fail):SO P Y ops dr x v m n s e:=h
theorem ahh(ht:oT x=40:=by exact rfl)(h:SO P Y ops dr x v m n s e:=by intro _ _ _ _ k;first|exact ax (Ga rfl rfl V.h V.h (by assumption)) ak (R2 V.h (by assumption)) k|exact ax (sk rfl rfl V.h V.h (u7) (by assumption)) ak (sq V.h (u7) (by assumption)) k|exact ax (sk rfl rfl V.h V.h (vd) (by assumption)) ak (sq V.h (vd) (by assumption)) k|exact ax (ab' rfl rfl rfl V.h V.h V.h) ak ⟨V.h,by omega⟩ k|exact ax (sk rfl rfl V.h V.h (Pm) (by assumption)) ak (sq V.h (Pm) (by assumption)) k|exact ax (sk rfl rfl V.h V.h (IM) (by assumption)) ak (sq V.h (IM) (by assumption)) k|exact ax (mr rfl rfl aq V.h V.h) ak ⟨V.h,by omega⟩ k|exact ax (mr rfl rfl (al _ _ _) V.h V.h) ak ⟨V.h,by omega⟩ k|exact ax (Cl rfl rfl rfl V.h V.h) ak ⟨V.h,by omega⟩ k|exact ax (aca rfl rfl (al _ _ _) V.h V.h) ak ⟨V.h,by omega⟩ k|fail):SO P Y ops dr x v m n s e:=h
theorem SS3(ht:oT x=3:=by exact rfl)(h:SO P Y ops dr x v m n s e:=by intro _ _ _ _ k;first|exact bw rfl rfl (dO (v:=.s (.int _ _)) rfl) (fun hc=>⟨ak,trivial⟩) k|exact bw rfl rfl (dO (v:=.s (.bool _)) rfl) (fun hc=>⟨ak,trivial⟩) k|exact bw rfl rfl (dO (v:=.sl _ _) rfl) (fun hc=>⟨ak,trivial⟩) k|exact bw rfl rfl (dO (v:=.fn _ _ _) rfl) (fun hc=>⟨ak,trivial⟩) k|exact bw rfl rfl (dO (v:=.rs _ _ _) rfl) (fun hc=>⟨ak,trivial⟩) k|fail):SO P Y ops dr x v m n s e:=h
theorem ahi(ht:oT x=74:=by exact rfl)(h:SO P Y ops dr x v m n s e:=by intro _ _ _ _ k;first|exact ax (Ag rfl rfl l7) ak rfl k|exact ax (GF rfl rfl) ak rfl k|exact ax (J' rfl rfl) ak trivial k|fail):SO P Y ops dr x v m n s e:=h
theorem ahj(ht:oT x=50:=by exact rfl)(h:SO P Y ops dr x v m n s e:=by intro _ _ _ _ k;first|exact ax (SJ rfl) ak V.h k|exact ax (Ka rfl) ak V.h k|exact ax (F9 rfl aq) ak V.h k|exact jq (je rfl (ai oG aq) rfl V.h V.h (kN (al _ _ _) rfl) rfl) ak ⟨V.h,rfl,HF,(by decide),ML,HG,(by rw[b9];first|omega|(simp;omega)),MM⟩ k|exact jq (je rfl (ai oG aq) rfl V.h V.h (kN (al _ _ _) rfl) rfl) ak ⟨V.h,rfl,HF,(by decide),ML,HG,(by rw[b3];first|omega|(simp;omega)),MM⟩ k|exact jq (je rfl (ai oG gT) rfl V.h V.h (kN (al _ _ _) rfl) rfl) ak ⟨V.h,rfl,HF,(by decide),ML,HG,(by rw[b3];first|omega|(simp;omega)),MM⟩ k|exact eC (Ac rfl rfl V.h V.h (kN (al _ _ _) rfl)) ak ⟨V.h,HF,(by decide),HG,(by rw[b3];first|omega|(simp;omega))⟩ k|fail):SO P Y ops dr x v m n s e:=h
theorem ahk(ht:oT x=48:=by exact rfl)(h:SO P Y ops dr x v m n s e:=by intro _ _ _ _ k;first|exact ax (qE (v:=.s (.int _ _)) rfl rfl) ak Bp k|exact ax (qE (v:=.s (.bool _)) rfl rfl) ak Bp k|exact ax (qE (v:=.sl _ _) rfl rfl) ak Bp k|exact ax (qE (v:=.z) rfl rfl) ak Bp k|exact ax (qE (v:=.agg (aY _)) rfl rfl) ak Bp k|exact ax (qE (v:=.agg _) rfl rfl) ak Bp k|fail):SO P Y ops dr x v m n s e:=h
theorem ahl(ht:oT x=52:=by exact rfl)(h:SO P Y ops dr x v m n s e:=by intro _ _ _ _ k;first|exact ax (GG rfl rfl oG) ak rfl k|fail):SO P Y ops dr x v m n s e:=h
theorem SS8(ht:oT x=8:=by exact rfl)(h:SO P Y ops dr x v m n s e:=by intro _ _ _ _ k;first|exact eC (Fj V.h) ak V.h k|fail):SO P Y ops dr x v m n s e:=h
theorem ahm(ht:oT x=78:=by exact rfl)(h:SO P Y ops dr x v m n s e:=by intro _ _ _ _ k;first|exact ax (GD rfl rfl) ak rfl k|fail):SO P Y ops dr x v m n s e:=h
theorem ahn(ht:oT x=14:=by exact rfl)(h:SO P Y ops dr x v m n s e:=by intro _ _ _ _ k;first|exact eC (tq (cs:=[_]) V.h V.h V.h rfl rfl) ak ⟨rfl,by decide,V.h,by decide⟩ k|exact eC (tq (cs:=[]) V.h V.h V.h rfl rfl) ak ⟨rfl,by decide,V.h,by decide⟩ k|exact eC (tq (cs:=[_,_]) V.h V.h V.h rfl rfl) ak ⟨rfl,by decide,V.h,by decide⟩ k|exact eC (tq V.h V.h V.h rfl rfl) ak ⟨rfl,by decide,V.h,by decide⟩ k|fail):SO P Y ops dr x v m n s e:=h
theorem aho(ht:oT x=10:=by exact rfl)(h:SO P Y ops dr x v m n s e:=by intro _ _ _ _ k;first|exact eC (sg (cs:=a6 _ _ _) rfl) ak (by first|rfl|exact rR eE bN|exact nJ _|exact ud rF) k|exact eC (sg (cs:=aY _) rfl) ak (by first|rfl|exact rR eE bN|exact nJ _|exact ud rF) k|exact eC (sg rfl) ak (by first|rfl|exact rR eE bN|exact nJ _|exact ud rF) k|exact eC (sg (cs:=bE _) rfl) ak (by first|rfl|exact rR eE bN|exact nJ _|exact ud rF) k|exact eC (sg (cs:=cA _) rfl) ak (by first|rfl|exact rR eE bN|exact nJ _|exact ud rF) k|fail):SO P Y ops dr x v m n s e:=h
theorem ahp(ht:oT x=75:=by exact rfl)(h:SO P Y ops dr x v m n s e:=by intro _ _ _ _ k;first|exact bw rfl rfl (Ag rfl rfl CV) (fun hc=>⟨ak,rfl⟩) k|exact bw rfl rfl (GF rfl rfl) (fun hc=>⟨ak,rfl⟩) k|fail):SO P Y ops dr x v m n s e:=h
theorem ahq(ht:oT x=76:=by exact rfl)(h:SO P Y ops dr x v m n s e:=by intro _ _ _ _ k;first|exact ax (Sa rfl rfl sN) ak rfl k|exact ax (KF rfl rfl) ak rfl k|exact ax (ac5 rfl rfl) ak trivial k|fail):SO P Y ops dr x v m n s e:=h
theorem ahr(ht:oT x=12:=by exact rfl)(h:SO P Y ops dr x v m n s e:=by intro _ _ _ _ k;first|exact ax (EU (cs:=a6 _ _ _) V.h V.h V.h rfl rfl) ak ⟨V.h,V.h⟩ k|exact ax (EU V.h V.h V.h rfl rfl) ak ⟨V.h,V.h⟩ k|fail):SO P Y ops dr x v m n s e:=h
theorem ahs(ht:oT x=24:=by exact rfl)(h:SO P Y ops dr x v m n s e:=by intro _ _ _ _ k;first|exact ax (SH rfl) ak trivial k|fail):SO P Y ops dr x v m n s e:=h
theorem aht(ht:oT x=51:=by exact rfl)(h:SO P Y ops dr x v m n s e:=by intro _ _ _ _ k;first|exact bw rfl rfl (SJ rfl) (fun hc=>⟨ak,V.h⟩) k|fail):SO P Y ops dr x v m n s e:=h
theorem ahu(ht:oT x=25:=by exact rfl)(h:SO P Y ops dr x v m n s e:=by intro _ _ _ _ k;first|exact bw rfl rfl (SH rfl) (fun hc=>⟨ak,trivial⟩) k|fail):SO P Y ops dr x v m n s e:=h
theorem ahv(ht:oT x=16:=by exact rfl)(h:SO P Y ops dr x v m n s e:=by intro _ _ _ _ k;first|exact bL (aaF rfl rfl rfl rfl V.h) ak ⟨V.h,by kernel_rfl,by kernel_rfl⟩ k|fail):SO P Y ops dr x v m n s e:=h
theorem ahw(ht:oT x=83:=by exact rfl)(h:SO P Y ops dr x v m n s e:=by intro _ _ _ _ k;first|exact bw rfl rfl (Sb rfl rfl wa) (fun hc=>⟨ak,rfl⟩) k|exact bw rfl rfl (KE rfl rfl) (fun hc=>⟨ak,rfl⟩) k|fail):SO P Y ops dr x v m n s e:=h
theorem SS7(ht:oT x=7:=by exact rfl)(h:SO P Y ops dr x v m n s e:=by intro _ _ _ _ k;first|exact EK rfl rfl rfl rfl (by first|exact fun _=>trivial|exact fun _=>rfl|exact fun hc=>hc) (by first|exact fun _=>trivial|exact fun _=>rfl|exact fun hc=>hc) k|exact EL rfl rfl rfl rfl (by first|exact fun _=>trivial|exact fun _=>rfl|exact fun hc=>hc) (by first|exact fun _=>trivial|exact fun _=>rfl|exact fun hc=>hc) k|exact EY rfl rfl rfl rfl rfl (by first|exact fun _=>trivial|exact fun _=>rfl|exact fun hc=>hc) (fun hc h=>by first|exact trivial|exact rfl|exact hc|(show Eq _ _;rw[hc,h];rfl)|(show Eq _ _;rw[h,hc];rfl)|(show Eq _ _;simp[hc,h];done)|(show Eq _ _;simp_all;done)|fail) (fun hc h=>by first|exact trivial|exact rfl|exact hc|(show Eq _ _;rw[hc,h];rfl)|(show Eq _ _;rw[h,hc];rfl)|(show Eq _ _;simp[hc,h];done)|(show Eq _ _;simp_all;done)|fail) k|fail):SO P Y ops dr x v m n s e:=h
theorem ahx(ht:oT x=77:=by exact rfl)(h:SO P Y ops dr x v m n s e:=by intro _ _ _ _ k;first|exact bw rfl rfl (KF rfl rfl) (fun hc=>⟨ak,rfl⟩) k|fail):SO P Y ops dr x v m n s e:=h
theorem ahy(ht:oT x=41:=by exact rfl)(h:SO P Y ops dr x v m n s e:=by intro _ _ _ _ k;first|exact bw rfl rfl (Ga rfl rfl V.h V.h (by assumption)) (fun hc=>⟨ak,(R2 V.h (by assumption))⟩) k|fail):SO P Y ops dr x v m n s e:=h
theorem ahz(ht:oT x=82:=by exact rfl)(h:SO P Y ops dr x v m n s e:=by intro _ _ _ _ k;first|exact ax (Sb rfl rfl wa) ak rfl k|exact ax (KE rfl rfl) ak rfl k|fail):SO P Y ops dr x v m n s e:=h
theorem ahA(ht:oT x=54:=by exact rfl)(h:SO P Y ops dr x v m n s e:=by intro _ _ _ _ k;first|exact ax (Sc rfl rfl wc) ak rfl k|exact ax (KG rfl rfl oG) ak rfl k|fail):SO P Y ops dr x v m n s e:=h
theorem ahB(ht:oT x=28:=by exact rfl)(h:SO P Y ops dr x v m n s e:=by intro _ _ _ _ k;first|exact ax (Kb rfl rfl) ak trivial k|fail):SO P Y ops dr x v m n s e:=h
theorem ahC(ht:oT x=79:=by exact rfl)(h:SO P Y ops dr x v m n s e:=by intro _ _ _ _ k;first|exact bw rfl rfl (GD rfl rfl) (fun hc=>⟨ak,rfl⟩) k|fail):SO P Y ops dr x v m n s e:=h
theorem ahD(ht:oT x=81:=by exact rfl)(h:SO P Y ops dr x v m n s e:=by intro _ _ _ _ k;first|exact bw rfl rfl (adn rfl rfl TV) (fun hc=>⟨ak,rfl⟩) k|exact bw rfl rfl (KD rfl rfl) (fun hc=>⟨ak,rfl⟩) k|fail):SO P Y ops dr x v m n s e:=h
theorem ahE(ht:oT x=84:=by exact rfl)(h:SO P Y ops dr x v m n s e:=by intro _ _ _ _ k;first|exact ax (CT rfl rfl) ak rfl k|fail):SO P Y ops dr x v m n s e:=h
theorem ahF(ht:oT x=30:=by exact rfl)(h:SO P Y ops dr x v m n s e:=by intro _ _ _ _ k;first|exact eC ad1 ak trivial k|fail):SO P Y ops dr x v m n s e:=h
theorem ahG(ht:oT x=85:=by exact rfl)(h:SO P Y ops dr x v m n s e:=by intro _ _ _ _ k;first|exact bw rfl rfl (CT rfl rfl) (fun hc=>⟨ak,rfl⟩) k|fail):SO P Y ops dr x v m n s e:=h
theorem ahH(ht:oT x=26:=by exact rfl)(h:SO P Y ops dr x v m n s e:=by intro _ _ _ _ k;first|exact ax (ac8 rfl V.h) ak V.h k|fail):SO P Y ops dr x v m n s e:=h
theorem ahI(ht:oT x=22:=by exact rfl)(h:SO P Y ops dr x v m n s e:=by intro _ _ _ _ k;first|exact ax (F7 rfl aq) ak trivial k|fail):SO P Y ops dr x v m n s e:=h
theorem ahJ(ht:oT x=80:=by exact rfl)(h:SO P Y ops dr x v m n s e:=by intro _ _ _ _ k;first|exact ax (KD rfl rfl) ak rfl k|fail):SO P Y ops dr x v m n s e:=h
theorem ahK(ht:oT x=15:=by exact rfl)(h:SO P Y ops dr x v m n s e:=by intro _ _ _ _ k;first|exact Kj rfl rfl (tq (cs:=[_]) V.h V.h V.h rfl rfl) ak ⟨rfl,by decide,V.h,by decide⟩ k|fail):SO P Y ops dr x v m n s e:=h
theorem ahM(ht:oT x=55:=by exact rfl)(h:SO P Y ops dr x v m n s e:=by intro _ _ _ _ k;first|exact bw rfl rfl (Sc rfl rfl wc) (fun hc=>⟨ak,rfl⟩) k|fail):SO P Y ops dr x v m n s e:=h
theorem SS(K:av P Y ops dr cf Q r s (q++[e]))(h:SO P Y ops dr x v m n s e:=by first|exact SS2|exact SS4|exact ahc|exact ahd|exact ahe|exact SS6|exact ahf|exact ahg|exact ahh|exact SS3|exact ahi|exact ahj|exact ahk|exact ahl|exact SS8|exact ahm|exact ahn|exact aho|exact ahp|exact ahq|exact ahr|exact ahs|exact aht|exact ahu|exact ahv|exact ahw|exact SS7|exact ahx|exact ahy|exact ahz|exact ahA|exact ahB|exact ahC|exact ahD|exact ahE|exact ahF|exact ahG|exact ahH|exact ahI|exact ahJ|exact ahK|exact ahM):av P Y ops dr cf Q (x::r) ⟨v,m,n⟩ q:=h _ _ _ _ K
variable{x2 x3 x4 x5 x6 x7 x8 x9:Oper}{e2 e3 e4 e5 e6 e7 e8 e9:List Nat×List Nat}
theorem ag(K:av P Y ops dr cf Q r s (q++[e]++[e2]))(h:∀ cf Q r q,av P Y ops dr cf Q r s (q++[e]++[e2])->av P Y ops dr cf Q (x::x2::r) ⟨v,m,n⟩ q:=by intro _ _ _ _ k;(iterate 2 refine SS ?_);exact k):av P Y ops dr cf Q (x::x2::r) ⟨v,m,n⟩ q:=h _ _ _ _ K
theorem ay(K:av P Y ops dr cf Q r s (q++[e]++[e2]++[e3]))(h:∀ cf Q r q,av P Y ops dr cf Q r s (q++[e]++[e2]++[e3])->av P Y ops dr cf Q (x::x2::x3::r) ⟨v,m,n⟩ q:=by intro _ _ _ _ k;(iterate 3 refine SS ?_);exact k):av P Y ops dr cf Q (x::x2::x3::r) ⟨v,m,n⟩ q:=h _ _ _ _ K
theorem aV(K:av P Y ops dr cf Q r s (q++[e]++[e2]++[e3]++[e4]))(h:∀ cf Q r q,av P Y ops dr cf Q r s (q++[e]++[e2]++[e3]++[e4])->av P Y ops dr cf Q (x::x2::x3::x4::r) ⟨v,m,n⟩ q:=by intro _ _ _ _ k;(iterate 4 refine SS ?_);exact k):av P Y ops dr cf Q (x::x2::x3::x4::r) ⟨v,m,n⟩ q:=h _ _ _ _ K
theorem bA(K:av P Y ops dr cf Q r s (q++[e]++[e2]++[e3]++[e4]++[e5]))(h:∀ cf Q r q,av P Y ops dr cf Q r s (q++[e]++[e2]++[e3]++[e4]++[e5])->av P Y ops dr cf Q (x::x2::x3::x4::x5::r) ⟨v,m,n⟩ q:=by intro _ _ _ _ k;(iterate 5 refine SS ?_);exact k):av P Y ops dr cf Q (x::x2::x3::x4::x5::r) ⟨v,m,n⟩ q:=h _ _ _ _ K
theorem cm(K:av P Y ops dr cf Q r s (q++[e]++[e2]++[e3]++[e4]++[e5]++[e6]))(h:∀ cf Q r q,av P Y ops dr cf Q r s (q++[e]++[e2]++[e3]++[e4]++[e5]++[e6])->av P Y ops dr cf Q (x::x2::x3::x4::x5::x6::r) ⟨v,m,n⟩ q:=by intro _ _ _ _ k;(iterate 6 refine SS ?_);exact k):av P Y ops dr cf Q (x::x2::x3::x4::x5::x6::r) ⟨v,m,n⟩ q:=h _ _ _ _ K
theorem fV(K:av P Y ops dr cf Q r s (q++[e]++[e2]++[e3]++[e4]++[e5]++[e6]++[e7]))(h:∀ cf Q r q,av P Y ops dr cf Q r s (q++[e]++[e2]++[e3]++[e4]++[e5]++[e6]++[e7])->av P Y ops dr cf Q (x::x2::x3::x4::x5::x6::x7::r) ⟨v,m,n⟩ q:=by intro _ _ _ _ k;(iterate 7 refine SS ?_);exact k):av P Y ops dr cf Q (x::x2::x3::x4::x5::x6::x7::r) ⟨v,m,n⟩ q:=h _ _ _ _ K
theorem dM(K:av P Y ops dr cf Q r s (q++[e]++[e2]++[e3]++[e4]++[e5]++[e6]++[e7]++[e8]))(h:∀ cf Q r q,av P Y ops dr cf Q r s (q++[e]++[e2]++[e3]++[e4]++[e5]++[e6]++[e7]++[e8])->av P Y ops dr cf Q (x::x2::x3::x4::x5::x6::x7::x8::r) ⟨v,m,n⟩ q:=by intro _ _ _ _ k;(iterate 8 refine SS ?_);exact k):av P Y ops dr cf Q (x::x2::x3::x4::x5::x6::x7::x8::r) ⟨v,m,n⟩ q:=h _ _ _ _ K
theorem bt(K:av P Y ops dr cf Q r s (q++[e]++[e2]++[e3]++[e4]++[e5]++[e6]++[e7]++[e8]++[e9]))(h:∀ cf Q r q,av P Y ops dr cf Q r s (q++[e]++[e2]++[e3]++[e4]++[e5]++[e6]++[e7]++[e8]++[e9])->av P Y ops dr cf Q (x::x2::x3::x4::x5::x6::x7::x8::x9::r) ⟨v,m,n⟩ q:=by intro _ _ _ _ k;(iterate 9 refine SS ?_);exact k):av P Y ops dr cf Q (x::x2::x3::x4::x5::x6::x7::x8::x9::r) ⟨v,m,n⟩ q:=h _ _ _ _ K
end
end Go.Abs
namespace Go.Abs
open Go.ChangeShapes Go.WideShapes
inductive Aj:List Sh->List D->Prop
 |nil:Aj [] []
 |cons {s:Sh} {l:List Sh} {ds:List D} (x:s.val) (hx:s.ok x) (h:Aj l ds):Aj (s::l) (s.arg x::ds)
def wv(P:Program)(n:Nat):List TypeId->Option (List Sh)
 |[]=>some []
 |t::ts=>match tg P n t,wv P n ts with
  |some s,some l=>some (s::l)
  |_,_=>none
theorem ZY{P:Program}{n:Nat}{t:TypeId}{ts:List TypeId}{l:List Sh}(h:wv P n (t::ts)=some l):∃ s C,tg P n t=some s/\wv P n ts=some C/\l=s::C:=by
 simp only[wv] at h;split at h
 .rename_i s C h1 h2;simp only[aH] at h;exact⟨s,C,h1,h2,h.symm⟩
 .cases h
section
variable{P:Program}{H:Type}{ec:TypeId×Value->H}{w w':World}{base b0:Nat}{r:Reach}{F:Nat->Prop}
theorem SC(J:Di F w){n:Nat}:∀ {ts:List TypeId} {C:List Sh} {vs:List Value} {ds:List (DataW H)} {ps:List MemPlace},wv P n ts=some C->C.all Sh.rO=true->
 (∀ (j:Nat) t v,ts[j]? =some t->vs[j]? =some v->Value.okWide P w r b0 t v)->DataW.TrodAll ec P w base (fun _=>true) true ts vs ds ps->
 ∃ aS,Aj C aS/\aS.length=vs.length/\∀ (k:Nat) (d:D) (v:Value),aS[k]? =some d->vs[k]? =some v->R F gz w d v
 |[],C,[],[],_,hs,_,_,_=>by
  simp only[wv,aH] at hs;subst hs;exact⟨[],.nil,rfl,oS⟩
 |t::ts,C,v::vs,d::ds,ps,hs,rP,bK,h=>by
  obtain⟨p,q,h1,h2,_⟩:=h;obtain⟨s,l',M,U,rfl⟩:=ZY hs;simp only[List.all_cons,ba] at rP;obtain⟨x,X,hx⟩:=agU J M rP.1 (bK 0 t v rfl rfl) h1;obtain⟨aS,a1,a2,a3⟩:=SC J U rP.2 (fun j t v hj hv=>bK (j+1) t v (by simpa using hj) (by simpa using hv)) h2;refine⟨s.arg x::aS,.cons x X a1,by simp[a2],fun k d v hd hv=>?_⟩;cases k with
  |zero=>
   simp only[List.getElem?_cons_zero,aH] at hd hv;subst hd hv;exact hx
  |succ k=>exact a3 k d v (by simpa using hd) (by simpa using hv)
 |[],_,_::_,_,_,_,_,_,h=>by simp[DataW.TrodAll] at h
 |[],_,[],_::_,_,_,_,_,h=>by simp[DataW.TrodAll] at h
 |_::_,_,[],_,_,_,_,_,h=>by simp[DataW.TrodAll] at h
 |_::_,_,_::_,[],_,_,_,_,h=>by simp[DataW.TrodAll] at h
theorem Kept.same(h:Kept w w'){p:MemPlace}(hp:p.block<w.heap.size):w.sameAt w' p:=by
 cases p with
 |cell b o=>exact Go.World.cell?_of_block (w:=w) (h.2.1 b hp)
 |map b=>exact h.2.1 b hp
theorem Kept.frame(h:Kept w w')(C:MemPlace->Prop):w.keptBut w' C:=by
 refine⟨h.2.2.1,h.2.2.2,fun i hi=>?_⟩;rw[h.2.1 i hi];split<;>simp_all
theorem NT(hl:laidOutB P=true)(h:Kept w w'):∀ {ts:List TypeId} {vs:List Value} {ds:List (DataW H)} {ps:List MemPlace},(ts.all fun t=>P.readableRec t&&decide (t<P.types.size))=true->
 DataW.TrodAll ec P w 0 (fun _=>true) true ts vs ds ps->DataW.TrodAll ec P w' 0 (fun b=>decide (b<w.heap.size)) true ts vs ds ps
 |[],[],[],_,_,h0=>h0
 |t::ts,v::vs,d::ds,ps,ht,h0=>by
  obtain⟨p,q,h1,h2,rfl⟩:=h0;simp only[List.all_cons,ba,decide_eq_true_eq] at ht;have ah:∀ x∈p,x.block<w.heap.size:=by obtain⟨m,hm⟩:=h1;exact DataW.trod_lt m _ _ _ hm
  exact⟨p,q,WideElems.Trod_stays hl ht.1.1 ht.1.2 h1 (fun x hx=>h.same (ah x hx)) (fun x hx=>by simpa using ah x hx),NT hl h (by simpa using ht.2) h2,rfl⟩
 |[],_::_,_,_,_,h0=>by simp[DataW.TrodAll] at h0
 |[],[],_::_,_,_,h0=>by simp[DataW.TrodAll] at h0
 |_::_,[],_,_,_,h0=>by simp[DataW.TrodAll] at h0
 |_::_,_::_,[],_,_,h0=>by simp[DataW.TrodAll] at h0
theorem Oo:∀ {ts:List TypeId} {vs:List Value} {ds:List (DataW H)} {ps:List MemPlace},DataW.TrodAll ec P w 0 (fun _=>true) true ts vs ds ps->ds.length=ts.length
 |[],[],[],_,_=>rfl
 |t::ts,v::vs,d::ds,ps,h0=>by
  obtain⟨p,q,h1,h2,rfl⟩:=h0;simp[Oo h2]
 |[],_::_,_,_,h0=>by simp[DataW.TrodAll] at h0
 |[],[],_::_,_,h0=>by simp[DataW.TrodAll] at h0
 |_::_,[],_,_,h0=>by simp[DataW.TrodAll] at h0
 |_::_,_::_,[],_,h0=>by simp[DataW.TrodAll] at h0
theorem QL{J:String}{d:DataW Unit}:∀ {l:List (String×DataW Unit)} {ps:List MemPlace},DataW.LaidVars P w l ps->(J,d)∈l->
 ∃ g t cs ed p,P.globalNamed J=some g/\(P.globals[g]?).map (·.type)=some t/\w.var? P J=some cs/\DataW.trod (fun _=>()) P w 0 (fun _=>true) false ed t cs.toList=some (d,p)/\∀ x∈MemPlace.row ⟨g,0,none⟩ cs.size,x∈ps
 |[],_,_,h=>by simp at h
 |(n,e)::r,ps,hv,h=>by
  obtain⟨g,t,cs,ed,p,q,h1,h2,M,U,X,rfl⟩:=hv;rcases List.mem_cons.1 h with h|h
  .cases h;exact⟨g,t,cs,ed,p,h1,h2,M,U,fun x hx=>List.mem_append_left _ (List.mem_append_left _ hx)⟩
  .obtain⟨g',t',cs',C,p',k1,k2,k3,k4,k5⟩:=QL X h;exact⟨g',t',cs',C,p',k1,k2,k3,k4,fun x hx=>List.mem_append_right _ (k5 x hx)⟩
theorem PL{e:TypeId}{m:Nat}{spare:Nat->Bool}{held:Bool}(he:P.underlying e=some (.int .u64))(hc:P.cellsOf e=1):∀ {cs:List Value} {l:List Int} {xs:List (DataW H×List MemPlace)},cs.length=l.length->xs.map (·.1)=l.map (fun n=>DataW.lit (.int .u64 n))->
 (∀ i,i<l.length->DataW.trod ec P w base spare held m e ((cs.drop i).take 1)=xs[i]?)->cs=l.map (Value.int .u64 ·)
 |[],[],_,_,_,_=>rfl
 |c::cs,n::l,[],_,hx,_=>by simp at hx
 |c::cs,n::l,x::xs,hl,hx,h=>by
  have h0:=h 0 oS;simp only[List.drop_zero,List.take_succ_cons,List.take_zero,List.getElem?_cons_zero] at h0;obtain⟨b,hb,C,_⟩:=DataW.trod_int he h0;simp only[List.map_cons,List.cons.injEq] at hx;have e1:x.1=DataW.lit (.int .u64 b):=by rw[C]
  rw[hx.1] at e1;simp only[DataW.lit.injEq,Lit.int.injEq,true_and] at e1;subst e1;simp only[List.cons.injEq,and_true] at hb;subst hb;rw[List.map_cons,PL he hc (cs:=cs) (l:=l) (xs:=xs) (by simpa using hl) hx.2 fun i hi=>by simpa using h (i+1) (by simpa using hi)]
 |[],_::_,_,hl,_,_=>by simp at hl
 |_::_,[],_,hl,_,_=>by simp at hl
theorem Yp{laid:List (String×DataW Unit)}{M:String}{g t e:Nat}{l:List Int}(h:laidMet P laid w)(hm:(M,DataW.agg (l.map fun n=>DataW.lit (.int .u64 n)))∈laid)(hg:P.globalNamed M=some g)
 (ht:(P.globals[g]?).map (·.type)=some t) (hu:P.underlying t=some (.array l.length e)) (hs:P.cellsOf t=l.length) (he:P.underlying e=some (.int .u64)) (hc:P.cellsOf e=1) (aG:0<l.length):
 ∃ ty,w.heap[g]? =some (.cells (l.map (Value.int .u64 ·)).toArray ty (0,0)):=by
 obtain⟨ps,hv,_,hp⟩:=h;obtain⟨g',t',cs,ed,p,h1,h2,J,U,X⟩:=QL hv hm;obtain rfl:g=g':=Option.some.inj (hg.symm.trans h1);obtain rfl:t=t':=Option.some.inj (ht.symm.trans h2);obtain⟨xs,m,_,e2,e3,e4,e5⟩:=DataW.trod_array hu U
 have C:cs.toList=l.map (Value.int .u64 ·):=by
  refine PL (ec:=fun _=>()) (w:=w) (base:=0) (spare:=fun _=>true) (held:=false) (m:=m) (xs:=xs) he hc (by rw[e3,hs]) ?_ fun i hi=>?_
  .simp only[bP,DataW.agg.injEq] at e2;exact e2.1.symm
  .have:=e5 i hi
   rwa[hc,Nat.mul_one] at this
 have bC:0<cs.size:=by
  have:cs.toList.length=l.length:=by rw[C];simp
  simp at this;omega
 obtain⟨⟨c,ty,hh⟩,_⟩:=hp g 0 (X _ (by
  unfold MemPlace.row;refine List.mem_map.2 ⟨0,by simpa using bC,?_⟩
  simp[Addr.add]))
 refine⟨ty,?_⟩;simp only[World.var?,hg,Option.bind_some,hh,aH] at J;subst J;rw[hh, <- C]
end
theorem WO{C:Checked}{f:FuncId}{fn:Func}{s:ChangeSpec}{H:Type}{ec:TypeId×Value->H}{n:Nat}{uW:List Sh}{tb:TypeId}{F:Nat->Prop}
 (TJ:s.vars=[]) (hs:∀ ds:List (DataW H),ds.length=fn.params.size->s.fn H ds={ results:=[.lit (.bool true)],args:=ds })
 (J:laidOutB C.prog=true) (M:(fn.params.toList.all fun t=>C.prog.readableRec t&&decide (t<C.prog.types.size))=true) (lZ:fn.resultTypes= #[tb]) (hb:C.prog.underlying tb=some .bool)
 (lp:wv C.prog n fn.params.toList=some uW) (rP:uW.all Sh.rO=true) (h:∀ aS,Aj uW aS->aD C.prog f aS (.s (.bool true)))
 (W:World) (base:Nat) (args:Array Value) (ds gs:List (DataW H)) (before:List MemPlace) (Mx:FB F W) (hU:Di F W)
 (DG:∀ (j:Nat) t v,fn.params[j]? =some t->args[j]? =some v->Value.okWide C.prog W .any base t v)
 (hW:DataW.Whole ec C.prog fn.params.toList s.vars false W args.toList ds gs before):
 Calls C.prog f args W fun e W'=>∃ v,e=.returned v/\s.post ec C.prog fn false true false false W args v W':=by
 have hW':=hW;obtain⟨p,q,U,X,rfl,hfz,dZ⟩:=hW;rw[TJ] at X
 have hg:gs=[]/\q=[]:=by
  cases gs with
  |nil=>exact⟨rfl,X⟩
  |cons g gs=>exact X.elim
 obtain⟨rfl,rfl⟩:=hg;obtain⟨aS,a1,a2,a3⟩:=SC hU lp rP (fun j t v hj hv=>DG j t v (by simpa using hj) (by simpa using hv)) U;refine((h aS a1).2.2 F W args Mx ⟨by simpa using a2.symm,fun k d v hd hv=>a3 k d v hd (by simpa using hv)⟩).mono ?_;rintro e W' ⟨v,rfl,hv,hk⟩;obtain⟨rfl,_⟩:=hv.cX;have hlen:ds.length=fn.params.size:=by simpa using Oo U
 refine⟨_,rfl,ds,[],_,[],p,[],hW',?_,?_,?_,hk.frame _,fun h=>by cases h⟩
 .rw[List.append_nil,hs ds hlen,lZ];exact⟨[],[],⟨1,by simp[DataW.trod,Value.cells,hb]⟩,rfl,rfl⟩
 .rw[List.append_nil,hs ds hlen];exact NT J hk M U
 .rw[List.append_nil,hs ds hlen,TJ];rfl
end Go.Abs
section
open Go Go.Abs Go.Proofs Go.Argus
namespace Go.Proofs.Tryz.K
theorem Lz{l:List Int}{g:FuncId}{fs cs:List D}{p:Int->Bool}(ht:Tr (.fn (.func g) fs cs))(hg:∀ x∈l,aD prog g (fs++[U8 x]++cs) (B (p x))):aD prog 226 [iA l,.fn (.func g) fs cs] (I (mH p l)):=by
 refine mo S3.he (.cons (o0 _) (.cons ht .nil)) fun C=>?_;have hlen:=(C (iA l) oS).sl.1;unfold maxLen at hlen;refine bj S3 (.cons (o0 _) (.cons ht .nil)) (Tr.s _) ?_;rw[aef];refine ws ?_;refine SS ?_;refine af (aC (az ?_));refine ay ?_
 refine af (cz (fun s=>aL prog s ⟨aA [],fun _=>none,0⟩/\∀ (j:Nat) y,l[j]? =some y->p y=false) (cy (α:=Nat) (fun k=>⟨aA [(0,iA l),(1,.fn (.func g) fs cs),(7,I l.length),(8,I k)],fun _=>none,0⟩)
  (fun k=>k<=l.length/\∀ j y,j<k->l[j]? =some y->p y=false) (fun k=>l.length - k) 0 (aw eH) ⟨oG,fun j y hj=>by omega⟩ ?_) ?_)
 .rintro k ⟨hk,hinv⟩;refine SS ?_;refine af ⟨_,rfl,fun h=>?_,fun h=>?_⟩
  .have ah:k<l.length:=by simpa using h
   have hx:l[k]? =some l[k]:=by simp[ah]
   generalize l[k]=x at hx;have M:=hg x (bz hx);refine ws ?_;refine ag ?_;refine er ?_;refine bA ?_;refine cl M ?_;refine af (aR rfl (fun hp=>?_) fun hp=>?_)
   .refine ws ?_;refine ag ?_;refine af (bH (cv (bD (aJ rfl ?_))));rw[tu hx hp hinv];rfl
   .refine c7 ?_;refine ag ?_;refine af (bh (k+1) (aw eH) ⟨oG,fun j y hj hy=>?_⟩ oG);by_cases e:j=k
    .subst e;rw[hx] at hy;cases hy;exact hp
    .exact hinv j y oG hy
  .have U:¬ k<l.length:=by simpa using h
   exact⟨.forget _ _ _ _ fun _=>.inr rfl,fun j y hy=>hinv j y (by have:=(bM.1 hy).1;omega) hy⟩
 .rintro s ⟨hg,J⟩;refine⟨_,hg,aj ?_⟩;refine SS ?_;refine af (aJ rfl ?_);rw[w9 J];rfl
theorem uo{l:List Int}{g:FuncId}{fs cs:List D}{p:Int->Bool}(ht:Tr (.fn (.func g) fs cs))(hg:∀ x∈l,aD prog g (fs++[U8 x]++cs) (B (p x))):aD prog 163 [iA l,.fn (.func g) fs cs] (B (l.any p)):=by
 have Lz:=Lz ht hg;refine bj aeg (.cons (o0 _) (.cons ht .nil)) (Tr.s _) ?_;rw[aeh];refine ws ?_;refine SS ?_;refine er ?_;refine ag ?_;refine cl Lz ?_;refine ag ?_;refine af (aJ rfl ?_);rw[<- zO];rfl
theorem LA{l:List ByteArray}{g:FuncId}{fs cs:List D}{p:ByteArray->Bool}(ht:Tr (.fn (.func g) fs cs))(hg:∀ x∈l,aD prog g (fs++[S x]++cs) (B (p x))):aD prog 166 [bZ l,.fn (.func g) fs cs] (I (mH p l)):=by
 refine mo S4.he (.cons (jb _) (.cons ht .nil)) fun C=>?_;have hlen:=(C (bZ l) oS).sl.1;unfold maxLen at hlen;refine bj S4 (.cons (jb _) (.cons ht .nil)) (Tr.s _) ?_;rw[aei];refine ws ?_;refine SS ?_;refine af (aC (az ?_));refine ay ?_
 refine af (cz (fun s=>aL prog s ⟨aA [],fun _=>none,0⟩/\∀ (j:Nat) y,l[j]? =some y->p y=false) (cy (α:=Nat) (fun k=>⟨aA [(0,bZ l),(1,.fn (.func g) fs cs),(7,I l.length),(8,I k)],fun _=>none,0⟩)
  (fun k=>k<=l.length/\∀ j y,j<k->l[j]? =some y->p y=false) (fun k=>l.length - k) 0 (aw eH) ⟨oG,fun j y hj=>by omega⟩ ?_) ?_)
 .rintro k ⟨hk,hinv⟩;refine SS ?_;refine af ⟨_,rfl,fun h=>?_,fun h=>?_⟩
  .have ah:k<l.length:=by simpa using h
   have hx:l[k]? =some l[k]:=by simp[ah]
   generalize l[k]=x at hx;have M:=hg x (bz hx);refine ws ?_;refine ag ?_;refine er ?_;refine bA ?_;refine cl M ?_;refine af (aR rfl (fun hp=>?_) fun hp=>?_)
   .refine ws ?_;refine ag ?_;refine af (bH (cv (bD (aJ rfl ?_))));rw[tu hx hp hinv];rfl
   .refine c7 ?_;refine ag ?_;refine af (bh (k+1) (aw eH) ⟨oG,fun j y hj hy=>?_⟩ oG);by_cases e:j=k
    .subst e;rw[hx] at hy;cases hy;exact hp
    .exact hinv j y oG hy
  .have U:¬ k<l.length:=by simpa using h
   exact⟨.forget _ _ _ _ fun _=>.inr rfl,fun j y hy=>hinv j y (by have:=(bM.1 hy).1;omega) hy⟩
 .rintro s ⟨hg,J⟩;refine⟨_,hg,aj ?_⟩;refine SS ?_;refine af (aJ rfl ?_);rw[w9 J];rfl
theorem G'{l:List ByteArray}{g:FuncId}{fs cs:List D}{p:ByteArray->Bool}(ht:Tr (.fn (.func g) fs cs))(hg:∀ x∈l,aD prog g (fs++[S x]++cs) (B (p x))):aD prog 126 [bZ l,.fn (.func g) fs cs] (B (l.any p)):=by
 have LA:=LA ht hg;refine bj aej (.cons (jb _) (.cons ht .nil)) (Tr.s _) ?_;rw[aek];refine ws ?_;refine SS ?_;refine er ?_;refine ag ?_;refine cl LA ?_;refine ag ?_;refine af (aJ rfl ?_);rw[<- zO];rfl
theorem LC{l:List iK}{g:FuncId}{fs cs:List D}{p:iK->Bool}(ht:Tr (.fn (.func g) fs cs))(hg:∀ x∈l,aD prog g (fs++[.agg (gR x)]++cs) (B (p x))):aD prog 223 [lz l,.fn (.func g) fs cs] (I (mH p l)):=by
 refine mo S5.he (.cons (ja _) (.cons ht .nil)) fun C=>?_;have hlen:=(C (lz l) oS).sl.1;unfold maxLen at hlen;refine bj S5 (.cons (ja _) (.cons ht .nil)) (Tr.s _) ?_;rw[ael];refine ws ?_;refine SS ?_;refine af (aC (az ?_));refine ay ?_
 refine af (cz (fun s=>aL prog s ⟨aA [],fun _=>none,0⟩/\∀ (j:Nat) y,l[j]? =some y->p y=false) (cy (α:=Nat) (fun k=>⟨aA [(0,lz l),(1,.fn (.func g) fs cs),(7,I l.length),(8,I k)],fun _=>none,0⟩)
  (fun k=>k<=l.length/\∀ j y,j<k->l[j]? =some y->p y=false) (fun k=>l.length - k) 0 (aw eH) ⟨oG,fun j y hj=>by omega⟩ ?_) ?_)
 .rintro k ⟨hk,hinv⟩;refine SS ?_;refine af ⟨_,rfl,fun h=>?_,fun h=>?_⟩
  .have ah:k<l.length:=by simpa using h
   have hx:l[k]? =some l[k]:=by simp[ah]
   generalize l[k]=x at hx;have M:=hg x (bz hx);refine ws ?_;refine ag ?_;refine er ?_;refine bA ?_;refine cl M ?_;refine af (aR rfl (fun hp=>?_) fun hp=>?_)
   .refine ws ?_;refine ag ?_;refine af (bH (cv (bD (aJ rfl ?_))));rw[tu hx hp hinv];rfl
   .refine c7 ?_;refine ag ?_;refine af (bh (k+1) (aw eH) ⟨oG,fun j y hj hy=>?_⟩ oG);by_cases e:j=k
    .subst e;rw[hx] at hy;cases hy;exact hp
    .exact hinv j y oG hy
  .have U:¬ k<l.length:=by simpa using h
   exact⟨.forget _ _ _ _ fun _=>.inr rfl,fun j y hy=>hinv j y (by have:=(bM.1 hy).1;omega) hy⟩
 .rintro s ⟨hg,J⟩;refine⟨_,hg,aj ?_⟩;refine SS ?_;refine af (aJ rfl ?_);rw[w9 J];rfl
theorem Ds{l:List iK}{g:FuncId}{fs cs:List D}{p:iK->Bool}(ht:Tr (.fn (.func g) fs cs))(hg:∀ x∈l,aD prog g (fs++[.agg (gR x)]++cs) (B (p x))):aD prog 228 [lz l,.fn (.func g) fs cs] (B (l.any p)):=by
 have LC:=LC ht hg;refine bj aem (.cons (ja _) (.cons ht .nil)) (Tr.s _) ?_;rw[aen];refine ws ?_;refine SS ?_;refine er ?_;refine ag ?_;refine cl LC ?_;refine ag ?_;refine af (aJ rfl ?_);rw[<- zO];rfl
theorem y8{l:List Int}{g:FuncId}{fs cs:List D}{p:Int->Bool}(ht:Tr (.fn (.func g) fs cs))(hg:∀ x∈l,aD prog g (fs++[I x]++cs) (B (p x))):aD prog 89 [aQ l,.fn (.func g) fs cs] (I (mH p l)):=by
 refine mo TW.he (.cons (c6 _) (.cons ht .nil)) fun C=>?_;have hlen:=(C (aQ l) oS).sl.1;unfold maxLen at hlen;refine bj TW (.cons (c6 _) (.cons ht .nil)) (Tr.s _) ?_;rw[ahO];refine ws ?_;refine SS ?_;refine af (aC (az ?_));refine ay ?_
 refine af (cz (fun s=>aL prog s ⟨aA [],fun _=>none,0⟩/\∀ (j:Nat) y,l[j]? =some y->p y=false) (cy (α:=Nat) (fun k=>⟨aA [(0,aQ l),(1,.fn (.func g) fs cs),(7,I l.length),(8,I k)],fun _=>none,0⟩)
  (fun k=>k<=l.length/\∀ j y,j<k->l[j]? =some y->p y=false) (fun k=>l.length - k) 0 (aw eH) ⟨oG,fun j y hj=>by omega⟩ ?_) ?_)
 .rintro k ⟨hk,hinv⟩;refine SS ?_;refine af ⟨_,rfl,fun h=>?_,fun h=>?_⟩
  .have ah:k<l.length:=by simpa using h
   have hx:l[k]? =some l[k]:=by simp[ah]
   generalize l[k]=x at hx;have M:=hg x (bz hx);refine ws ?_;refine ag ?_;refine er ?_;refine bA ?_;refine cl M ?_;refine af (aR rfl (fun hp=>?_) fun hp=>?_)
   .refine ws ?_;refine ag ?_;refine af (bH (cv (bD (aJ rfl ?_))));rw[tu hx hp hinv];rfl
   .refine c7 ?_;refine ag ?_;refine af (bh (k+1) (aw eH) ⟨oG,fun j y hj hy=>?_⟩ oG);by_cases e:j=k
    .subst e;rw[hx] at hy;cases hy;exact hp
    .exact hinv j y oG hy
  .have U:¬ k<l.length:=by simpa using h
   exact⟨.forget _ _ _ _ fun _=>.inr rfl,fun j y hy=>hinv j y (by have:=(bM.1 hy).1;omega) hy⟩
 .rintro s ⟨hg,J⟩;refine⟨_,hg,aj ?_⟩;refine SS ?_;refine af (aJ rfl ?_);rw[w9 J];rfl
theorem Bq{l:List Int}{g:FuncId}{fs cs:List D}{p:Int->Bool}(ht:Tr (.fn (.func g) fs cs))(hg:∀ x∈l,aD prog g (fs++[I x]++cs) (B (p x))):aD prog 76 [aQ l,.fn (.func g) fs cs] (B (l.any p)):=by
 have y8:=y8 ht hg;refine bj ahP (.cons (c6 _) (.cons ht .nil)) (Tr.s _) ?_;rw[ahQ];refine ws ?_;refine SS ?_;refine er ?_;refine ag ?_;refine cl y8 ?_;refine ag ?_;refine af (aJ rfl ?_);rw[<- zO];rfl
theorem mj{n a b:Int}:aD prog 73 [I n,I a,I b] (B (jw n a b)):=by
 refine bj ajP (by simp[Tr.s]) (Tr.s _) ?_;rw[ajQ];refine ws ?_;refine SS ?_;refine er ?_;refine bt ?_;refine af (aJ (d:=.s (.bool _)) rfl ?_);simp[jw]
theorem ajR{b:Int}:aD prog 164 [U8 b] (B (E8 b)):=by
 refine bj afT (by simp[Tr.s]) (Tr.s _) ?_;rw[afU];refine ws ?_;refine SS ?_;refine er ?_;refine fV ?_;refine af (aJ (d:=.s (.bool _)) rfl ?_);simp[E8]
theorem ajS{b:Int}:aD prog 167 [U8 b] (B (E9 b)):=by
 refine bj afV (by simp[Tr.s]) (Tr.s _) ?_;rw[afW];refine ws ?_;refine SS ?_;refine er ?_;refine bt ?_;refine cm ?_;refine af (aJ (d:=.s (.bool _)) rfl ?_);simp[E9]
theorem rr{s:ByteArray}:aD prog 124 [S s] (B (n9 s)):=by
 refine bj afX (by simp[Tr.s]) (Tr.s _) ?_;have uo:=uo (l:=qJ s) (g:=164) (fs:=[]) (cs:=[]) (p:=E8) (.fn oS oS) (fun x _=>ajR);rw[afY];refine ws ?_;refine SS ?_;refine er ?_;refine ag ?_;refine cl mj ?_;refine SS ?_;refine bw rfl rfl (dO (v:=.s (.string _)) rfl) (fun hc=>⟨ak,trivial⟩) ?_;refine bw rfl rfl (PV rfl V.h V.h) (fun hc=>⟨ak,⟨V.h,by have:=kP.1 (by simpa using hc);unfold maxLen;omega⟩⟩) ?_;refine gc uo ?_;refine ay ?_;refine af (aJ (d:=.s (.bool _)) rfl ?_);simp[n9]
theorem DC{s:ByteArray}:aD prog 128 [S s] (B (isName s)):=by
 refine bj afZ (by simp[Tr.s]) (Tr.s _) ?_;have uo:=uo (l:=qJ s) (g:=167) (fs:=[]) (cs:=[]) (p:=E9) (.fn oS oS) (fun x _=>ajS);rw[af0];refine ws ?_;refine SS ?_;refine er ?_;refine ag ?_;refine cl mj ?_;refine SS ?_;refine bw rfl rfl (dO (v:=.s (.string _)) rfl) (fun hc=>⟨ak,trivial⟩) ?_;refine bw rfl rfl (PV rfl V.h V.h) (fun hc=>⟨ak,⟨V.h,by have:=kP.1 (by simpa using hc);unfold maxLen;omega⟩⟩) ?_;refine gc uo ?_;refine ay ?_;refine af (aJ (d:=.s (.bool _)) rfl ?_);simp[isName]
theorem ajT{s:ByteArray}:aD prog 127 [S s] (B !(isName s)):=by
 refine bj af1 (by simp[Tr.s]) (Tr.s _) ?_;rw[af2];refine ws ?_;refine SS ?_;refine er ?_;refine SS ?_;refine cl DC ?_;refine ag ?_;refine af (aJ rfl rfl)
theorem ajU{b m:Int}:aD prog 165 [U8 b,.pt [U8 m]] (B (B' m b)):=by
 refine bj af3 (.cons (.s _) (.cons (.pt (by simp[Tr.s])) .nil)) (Tr.s _) ?_;rw[af4];refine ws ?_;refine SS ?_;refine er ?_;refine dM ?_;refine af (aJ (d:=.s (.bool _)) rfl ?_);simp[B']
theorem L4{l:List Int}{m:Int}:aD prog 125 [iA l,U8 m] (B (tK l m)):=by
 refine bj af5 (.cons (o0 _) (.cons (.s _) .nil)) (Tr.s _) ?_;have uo:=uo (l:=l) (g:=165) (fs:=[]) (cs:=[.pt [U8 m]]) (p:=B' m) (.fn oS (.cons (.pt (by simp[Tr.s])) .nil)) (fun x _=>ajU);rw[af6];refine az ?_;refine eC (F6 (d:=.s (.int _ _)) rfl rfl) ak rfl ?_;refine SS ?_;refine af (bJ (dE [(0,[U8 m],5)] eH (l:=[(0,iA l),(3,.pt [U8 m])]) eH) (aj ?_));refine ag ?_;refine cl uo ?_;refine ag ?_;refine af (aJ rfl rfl)
theorem I2{p q:D}{f:au}(h:Real (.agg (a6 p q f))):f.aW.length<=maxLen/\f.cr.length<=maxLen/\f.signals.length<=maxLen/\f.blocks.length<=maxLen:=
 ⟨(h.agg (iA f.aW) (by simp[a6])).sl.1,(h.agg (iA f.cr) (by simp[a6])).sl.1,(h.agg (bZ f.signals) (by simp[a6])).sl.1,(h.agg (cL f.blocks) (by simp[a6])).sl.1⟩
section
variable{p q:D}{f:au}(hp:Tr p)(hq:Tr q)(eE:p.one=true)(bN:q.one=true)
include hp hq eE bN
theorem jJ{n:Int}:aD prog 168 [.agg (a6 p q f),I n] (B (jw n 0 (f.blocks.length - 1))):=by
 have C:∀ a∈[D.agg (a6 p q f),I n],Tr a:=.cons (kf hp hq f) (.cons (.s _) .nil);refine mo Ty.he C fun J=>?_;obtain⟨M,U,X,l4⟩:=I2 (J _ (List.mem_cons_self ..));unfold maxLen at*
 refine bj Ty C (Tr.s _) ?_;rw[af8];refine ws ?_;refine ag ?_;refine er ?_;refine cm ?_;refine cl mj ?_;refine SS ?_;refine af (aJ rfl rfl)
theorem eX{r:Int}:aD prog 169 [.agg (a6 p q f),I r] (U8 (dx f.aW r)):=by
 have C:∀ a∈[D.agg (a6 p q f),I r],Tr a:=.cons (kf hp hq f) (.cons (.s _) .nil);refine mo Tz.he C fun J=>?_;obtain⟨M,U,X,l4⟩:=I2 (J _ (List.mem_cons_self ..));unfold maxLen at*
 refine bj Tz C (Tr.s _) ?_;rw[af9];refine ws ?_;refine ag ?_;refine af (aC (aj ?_));refine cm ?_;refine cl mj ?_;refine SS ?_;refine af (ct rfl (fun h=>?_) fun h=>?_)
 .refine aC (aj ?_);refine SS ?_;refine af (ew (aJ rfl ?_));rw[Py (fun hh=>by simp[jw] at h;omega)];rfl
 .have hh:0<=r/\r<f.aW.length:=by simp[jw] at h;omega
  obtain⟨i,rfl⟩:=iQ hh.1;have ah:i<f.aW.length:=by omega
  have hx:f.aW[i]? =some f.aW[i]:=by simp[ah]
  generalize f.aW[i]=x at hx;refine bX (aj ?_);refine fV ?_;refine af (aJ rfl ?_);rw[Js hx];rfl
theorem aj3{r:Int}:aD prog 230 [I r,.pt (a6 p q f)] (B !(oa f.aW r)):=by
 have C:∀ a∈[I r,D.pt (a6 p q f)],Tr a:=.cons (.s _) (.cons (.pt (Ca hp hq f)) .nil);have eX:=eX (f:=f) (r:=r) hp hq eE bN;refine bj af' C (Tr.s _) ?_;rw[aga];refine ws ?_;refine SS ?_;refine er ?_;refine ag ?_;refine cl eX ?_;refine aV ?_;refine gc eX ?_;refine ay ?_;refine af (aJ (d:=.s (.bool _)) rfl ?_);unfold oa;generalize dx f.aW r=k;show D.s (.bool _)=D.s (.bool _);simp only[bne];cases (k==1)<;>cases (k==2)<;>rfl
theorem hZ{l:List Int}:aD prog 172 [.agg (a6 p q f),aQ l] (B (qR f.aW l)):=by
 have C:∀ a∈[D.agg (a6 p q f),aQ l],Tr a:=.cons (kf hp hq f) (.cons (c6 _) .nil);have Bq:=Bq (l:=l) (g:=230) (fs:=[]) (cs:=[.pt (a6 p q f)]) (p:=fun r=> !(oa f.aW r)) (.fn oS (.cons (.pt (Ca hp hq f)) .nil)) (fun x _=>aj3 hp hq eE bN);refine bj agb C (Tr.s _) ?_;rw[agc];refine az ?_;refine ag ?_;refine af (bJ (dE [(0,a6 p q f,113)] eH (l:=[(1,aQ l),(2,.pt (a6 p q f))]) eH) (aj ?_));refine ag ?_;refine cl Bq ?_;refine ag ?_;refine af (aJ (d:=.s (.bool _)) rfl ?_);simp[qR,List.all_eq_not_any_not]
theorem Hr{r n:Int}:aD prog 176 [.agg (a6 p q f),I r,I n] (B (yg f.aW f.cr r n)):=by
 have J:∀ a∈[D.agg (a6 p q f),I r,I n],Tr a:=.cons (kf hp hq f) (.cons (.s _) (.cons (.s _) .nil));refine mo TA.he J fun M=>?_;obtain⟨U,X,l3,l4⟩:=I2 (M _ (List.mem_cons_self ..));unfold maxLen at*
 have eX:=eX (f:=f) (r:=r) hp hq eE bN;refine bj TA J (Tr.s _) ?_;rw[agd];have mj:=mj (n:=n) (a:=0) (b:=f.cr.length - 1);by_cases hh:0<=n/\n<f.cr.length
 .obtain⟨i,rfl⟩:=iQ hh.1;have ah:i<f.cr.length:=by omega
  have hx:f.cr[i]? =some f.cr[i]:=by simp[ah]
  generalize f.cr[i]=x at hx;have C:jw (i:Int) 0 (f.cr.length - 1)=true:=kP.2 oG;rw[C] at mj;refine ws ?_;refine ag ?_;refine af (eg Pz ?_);refine cm ?_;refine cl mj ?_;refine SS ?_;refine bw rfl rfl (ff (vs:=a6 _ _ _) rfl rfl V.h V.h rfl) (fun hc=>⟨ak,(fh V.h V.h (by first|(simp;done)|omega|exact bF rfl))⟩) ?_;refine SS ?_;refine gc eX ?_;refine bt ?_;refine cu cE ?_;refine aJ (d:=.s (.bool _)) rfl ?_;simp[yg,C,Js hx]
 .have C:jw n 0 (f.cr.length - 1)=false:=ZM.2 oG;rw[C] at mj;refine ws ?_;refine ag ?_;refine af (eg Pz ?_);refine cm ?_;refine cl mj ?_;refine SS ?_;(iterate 10 refine z fun _ _=>?_);refine ag ?_;refine cu cE ?_;refine aJ (d:=.s (.bool _)) rfl ?_;simp[yg,C]
end
section
variable{p q:D}{f:au}(hp:Tr p)(hq:Tr q)(eE:p.one=true)(bN:q.one=true)
include hp hq eE bN
theorem DF{r want kd:Int}:aD prog 227 [.agg (a6 p q f),I r,I want,U8 kd] (B (o7 f.aW r want kd)):=by
 have J:∀ a∈[D.agg (a6 p q f),I r,I want,U8 kd],Tr a:=.cons (kf hp hq f) (.cons (.s _) (.cons (.s _) (.cons (.s _) .nil)));have eX:=eX (f:=f) (r:=r) hp hq eE bN;refine bj age J (Tr.s _) ?_;rw[agf];refine ws ?_;refine ag ?_;refine er ?_;refine ax (ff (vs:=a6 _ _ _) rfl rfl V.h V.h rfl) ak (fh V.h V.h (by first|(simp;done)|omega|exact bF rfl)) ?_;refine SS ?_;refine cl eX ?_;refine SS ?_;refine af (aC (aj ?_));refine SS ?_;refine af (w7 (aj ?_));refine ag ?_;refine af (aR rfl (fun h0=>?_) fun h0=>?_)
 .have h0:want=0:=by simpa using h0
  refine ws ?_;refine ay ?_;refine af (bH (ez (bD (aJ (d:=.s (.bool _)) rfl ?_))));simp[o7,h0]
 have h0:¬ want=0:=by simpa using h0
 refine ws ?_;refine ag ?_;refine af (aR rfl (fun h1=>?_) fun h1=>?_)
 .have h1:want=1:=by simpa using h1
  refine ws ?_;refine ay ?_;refine af (bH (ez (bD (aJ (d:=.s (.bool _)) rfl ?_))));simp[o7,h1]
 have h1:¬ want=1:=by simpa using h1
 refine ws ?_;refine ag ?_;refine af (aR rfl (fun h2=>?_) fun h2=>?_)
 .have h2:want=2:=by simpa using h2
  refine ws ?_;refine ay ?_;refine af (bH (ez (bD (aJ (d:=.s (.bool _)) rfl ?_))));simp[o7,h2]
 have h2:¬ want=2:=by simpa using h2
 refine ws ?_;refine ag ?_;refine af (aR rfl (fun C=>?_) fun C=>?_)
 .have C:want=3:=by simpa using C
  refine ws ?_;refine fV ?_;refine af (bH (ez (bD (aJ (d:=.s (.bool _)) rfl ?_))));simp[o7,C,oa,ib]
 have C:¬ want=3:=by simpa using C
 refine vA (aj ?_);refine dM ?_;refine af (aJ (d:=.s (.bool _)) rfl ?_);simp[o7,h0,h1,h2,C,ib,bne]
theorem A9{x:cV}{s:Shape}:aD prog 170 [.agg (a6 p q f),.agg (cA x),.agg (jz s)] (B (vr f.aW x s)):=by
 have M:∀ a∈[D.agg (a6 p q f),.agg (cA x),.agg (jz s)],Tr a:=.cons (kf hp hq f) (.cons (.agg (xj x)) (.cons (.agg (PA s)) .nil));have eX:=fun r=>eX (f:=f) (r:=r) hp hq eE bN;have DF:= @DF p q f hp hq eE bN;have hZ:=hZ (f:=f) hp hq eE bN (l:=x.args);have J:=mj (n:=x.n) (a:=s.low) (b:=s.high);refine bj agh M (Tr.s _) ?_;rw[agi];refine az ?_;refine ag ?_;refine eC (sg (cs:=jz _) rfl) ak (by first|rfl|exact rR eE bN|exact nJ _|exact ud rF) ?_;refine SS ?_;refine af (bJ (dE [(0,a6 p q f,113),(1,cA x,54),(2,jz s,237)] eH (l:=[(3,.pt (a6 p q f)),(4,.pt (cA x)),(5,.pt (jz s))]) eH) (aj ?_));have C:=eX;have eX:=eX x.to;refine ay ?_;refine cl eX ?_;refine SS ?_;refine af ?_;refine iC (fun s'=>aL prog s' ⟨aA [(3,.pt (a6 p q f)),(4,.pt (cA x)),(5,.pt (jz s)),(7,U8 (zR f.aW x s))],fun _=>none,3⟩) (aj ?_) fun s' hg=>⟨_,hg,?_⟩
 .refine dM ?_;refine af (aR rfl (fun h=>su ?_) fun h=>cO ?_)
  .have h:s.to=0\/s.to=1:=by simpa[ib] using h
   have eX:=C x.a;refine ay ?_;refine cl eX ?_;refine SS ?_;refine af ?_;show aL _ _ _;refine aw (l:=[(3,_),(4,_),(5,_),(7,_)]) ⟨rfl,rfl,rfl,?_,trivial⟩;simp only[zR,if_pos h];rfl
  .have h:¬ (s.to=0\/s.to=1):=by simpa[ib] using h
   show aL _ _ _;refine aw (l:=[(3,_),(4,_),(5,_),(7,_)]) ⟨rfl,rfl,rfl,?_,trivial⟩;simp only[zR,if_neg h];rfl
 refine ws ?_;refine bA ?_;refine af ?_;refine iC (fun s'=>aL prog s' ⟨aA [(3,.pt (a6 p q f)),(4,.pt (cA x)),(5,.pt (jz s)),(7,U8 (zR f.aW x s)),(8,B (wZ f.aW x s))],fun _=>none,3⟩) (aj ?_) fun s' hg=>⟨_,hg,?_⟩
 .refine ag ?_;refine af (pE (aj ?_));refine ag ?_;refine af (aR rfl (fun h=>n5 ?_) fun h=>aj ?_)
  .have h:s.args=5:=by simpa using h
   have mj:=mj (n:=x.args.length) (a:=1) (b:=6);refine ay ?_;refine cl mj ?_;refine aV ?_;refine gc hZ ?_;refine ag ?_;refine af ?_;refine aw ⟨rfl,rfl,rfl,rfl,?_,trivial⟩;show D.s (.bool _)=_;simp[wZ,h]
  .have U:¬ s.args=5:=by simpa using h
   refine ag ?_;refine af (aR rfl (fun h=>n5 ?_) fun h=>Je ?_)
   .have h:s.args=6:=by simpa using h
    refine dM ?_;refine gc hZ ?_;refine ag ?_;refine af ?_;refine aw ⟨rfl,rfl,rfl,rfl,?_,trivial⟩;show D.s (.bool _)=_;simp[wZ,h,ib]
   .have X:¬ s.args=6:=by simpa using h
    refine aw ⟨rfl,rfl,rfl,rfl,?_,trivial⟩;show D.s (.bool _)=_;simp[wZ,U,X,ib]
 refine ws ?_;refine bA ?_;refine cl DF ?_;refine fV ?_;refine gc DF ?_;refine dM ?_;refine gc DF ?_;refine bt ?_;refine ag ?_;refine gc mj ?_;refine ag ?_;refine af (aJ (d:=.s (.bool _)) rfl ?_);simp[vr,Bool.and_assoc]
end
theorem L7{x:cV}:aD prog 231 [.agg (cA x)] (B (Gm x)):=by
 have C:∀ a∈[D.agg (cA x)],Tr a:=.cons (.agg (xj x)) .nil;refine bj agk C (Tr.s _) ?_;rw[agl];refine ws ?_;refine ag ?_;refine er ?_;refine bt ?_;refine bt ?_;refine bt ?_;refine ay ?_;refine af (aJ (d:=.s (.bool _)) rfl ?_);simp only[Gm,ib];cases decide (x.op=0)<;>cases decide (x.to=0)<;>cases decide (x.a=0)<;>cases decide (x.b=0)<;>cases decide (x.n=0)<;>rfl
theorem L8{x:Argus.End}:aD prog 173 [.agg (bE x)] (B (vV x)):=by
 have C:∀ a∈[D.agg (bE x)],Tr a:=.cons (.agg (qQ x)) .nil;have L7:=L7 (x:=x.ins);refine bj agm C (Tr.s _) ?_;rw[agn];refine ws ?_;refine ag ?_;refine er ?_;refine bt ?_;refine bt ?_;refine dM ?_;refine bw rfl rfl (J' rfl rfl) (fun hc=>⟨ak,trivial⟩) ?_;refine bt ?_;refine bt ?_;refine ag ?_;refine bw rfl rfl (ff (vs:=cA _) rfl rfl V.h V.h rfl) (fun hc=>⟨ak,(fh V.h V.h (by first|(simp;done)|omega|exact bF rfl))⟩) ?_;refine gc L7 ?_;refine ag ?_;refine af (aJ (d:=.s (.bool _)) rfl ?_);have:decide (x.name.toList=[])=x.name.toList.isEmpty:=by cases x.name.toList<;>rfl
 simp[vV,ib,Bool.and_assoc,this]
theorem aj4{w v:iK}:aD prog 229 [.agg (gR v),.pt (gR w)] (B (v.name.toList==w.name.toList)):=by
 have C:∀ a∈[D.agg (gR v),.pt (gR w)],Tr a:=.cons (.agg (Fa v)) (.cons (.pt (Fa w)) .nil);refine bj ago C (Tr.s _) ?_;rw[agp];refine ws ?_;refine eC (sg (cs:=gR _) rfl) ak (by first|rfl|exact rR eE bN|exact nJ _|exact ud rF) ?_;refine SS ?_;refine er ?_;refine cm ?_;exact af (aJ rfl rfl)
section
variable{p q:D}{f:au}(hp:Tr p)(hq:Tr q)(eE:p.one=true)(bN:q.one=true)
include hp hq eE bN
theorem sT{x:Argus.End}:aD prog 171 [.agg (a6 p q f),.agg (bE x)] (B (n2 f x)):=by
 have J:∀ a∈[D.agg (a6 p q f),.agg (bE x)],Tr a:=.cons (kf hp hq f) (.cons (.agg (qQ x)) .nil);refine mo TC.he J fun U=>?_;have hlen:x.aU.length<=maxLen:=((U _ (List.mem_cons_of_mem _ (List.mem_cons_self ..))).agg (lz x.aU) (by simp[bE])).sl.1;unfold maxLen at hlen;have jJ:= @jJ p q f hp hq eE bN;refine bj TC J (Tr.s _) ?_;rw[agq];refine az ?_;refine ay ?_;refine af (bJ (dE [(0,a6 p q f,113),(1,bE x,57)] eH (l:=[(2,.pt (a6 p q f)),(3,.pt (bE x))]) eH) (aC (az ?_)));refine aV ?_
 refine af (cz (fun s=>∃ n,aL prog s ⟨aA [(2,.pt (a6 p q f)),(3,.pt (bE x))],fun _=>none,n⟩/\∀ (j:Nat) y,x.aU[j]? =some y->q7 f x.aU j y=true) (cy (α:=Nat) (fun k=>⟨aA [(2,.pt (a6 p q f)),(3,.pt (bE x)),(8,lz x.aU),(9,I x.aU.length),(10,I k)],fun _=>none,2+k⟩)
  (fun k=>k<=x.aU.length/\∀ j y,j<k->x.aU[j]? =some y->q7 f x.aU j y=true) (fun k=>x.aU.length - k) 0 (aw eH) ⟨oG,fun j y hj=>by omega⟩ ?_) ?_)
 .rintro k ⟨hk,hinv⟩;refine SS ?_;refine af ⟨_,rfl,fun h=>?_,fun h=>?_⟩
  .have ah:k<x.aU.length:=by simpa using h
   have hx:x.aU[k]? =some x.aU[k]:=by simp[ah]
   generalize x.aU[k]=w at hx;refine az ?_;refine cm ?_;refine af (bJ (dE [(2+k,gR w,79)] ⟨al _ _ _,trivial⟩ (l:=[(2,.pt (a6 p q f)),(3,.pt (bE x)),(5,I k),(6,.pt (gR w)),(8,lz x.aU),(9,I x.aU.length),(10,I k)]) ⟨rfl,rfl,rfl,lQ (sz:=prog.cellsOf 79),rfl,rfl,rfl,trivial⟩) (aj ?_));have DC:=DC (s:=w.name);have Ds:=Ds (l:=x.aU.take k) (g:=229) (fs:=[]) (cs:=[.pt (gR w)]) (p:=fun v=>v.name.toList==w.name.toList) (.fn oS (.cons (.pt (Fa w)) .nil)) (fun v _=>aj4);unfold lz at Ds;rw[<- acI IM hk] at Ds;refine ag ?_;refine cl DC ?_;refine bA ?_;refine gc jJ ?_;refine cm ?_;refine bw rfl rfl (JB rfl V.h V.h rfl rfl rfl) (fun hc=>⟨ak,⟨V.h,oG,oG,oG⟩⟩) ?_;refine bw rfl rfl (Kb rfl rfl) (fun hc=>⟨ak,trivial⟩) ?_;refine gc Ds ?_;refine SS ?_;have hb:((isName w.name&&(ei f w.to&& !(x.aU.take k).any fun v=>v.name.toList==w.name.toList)))=q7 f x.aU k w:=rfl;refine af (aR rfl (fun hp=>?_) fun hp=>?_)
   .refine ws ?_;refine SS ?_;refine af (bH (cv (bD (aJ (d:=.s (.bool _)) rfl ?_))))
    have C:q7 f x.aU k w=false:=by
     rw[<- hb];simp only[ei];revert hp;generalize isName w.name=a;generalize jw w.to 0 (f.blocks.length - 1)=b;generalize (List.any _ _)=c;cases a<;>cases b<;>cases c<;>simp
    simp[n2,WN hx C]
   .refine c7 ?_
    have C:q7 f x.aU k w=true:=by
     rw[<- hb];simp only[ei];revert hp;generalize isName w.name=a;generalize jw w.to 0 (f.blocks.length - 1)=b;generalize (List.any _ _)=c;cases a<;>cases b<;>cases c<;>simp
    refine ag ?_;refine af (bh (k+1) (aw eH) ⟨oG,fun j y hj hy=>?_⟩ oG);by_cases e:j=k
    .subst e;rw[hx] at hy;cases hy;exact C
    .exact hinv j y oG hy
  .have bq:¬ k<x.aU.length:=by simpa using h
   exact⟨2+k,.forget _ _ _ _ fun t=>pD (l:=[(2,.pt (a6 p q f)),(3,.pt (bE x))]) ⟨rfl,rfl,trivial⟩ t,fun j y hy=>hinv j y (by have:=(bM.1 hy).1;omega) hy⟩
 .rintro s ⟨n,hg,M⟩;refine⟨_,hg,aj ?_⟩;refine bt ?_;refine ay ?_;refine gc jJ ?_;refine ay ?_;refine af (aJ (d:=.s (.bool _)) rfl ?_);have X:=Xn M;simp[n2,ei,X,ib]
end
abbrev P0:D:=.im (qj oc)
abbrev Q0:D:=.im (qj np)
theorem aj5:aD prog 162 [] (.aM [P0,Q0]):=by
 refine bj agr Tr.nil (.aM (.cons (AI _) (.cons (AI _) .nil))) ?_;rw[ags];refine ws ?_;refine ax (jT (v:=.s (.map none)) rfl) ak trivial ?_;refine ax (jT (v:=.s (.map none)) rfl) ak trivial ?_;refine er ?_;refine bt ?_;refine bt ?_;refine bt ?_;refine cm ?_;refine er ?_;refine bt ?_;refine bt ?_;refine ay ?_;refine af (az ?_);refine aV ?_;refine af (bJ (abr [(0,qj oc),(1,qj np)] eH (l:=[(0,P0),(1,Q0)]) eH) ?_);exact fH rfl rfl rfl
abbrev q8(f:au):D:=.agg (a6 P0 Q0 f)
theorem L6{f:au}:aD prog 123 [.agg (aY f)] (q8 f):=by
 have C:∀ a∈[D.agg (aY f)],Tr a:=.cons (.agg (nb f)) .nil;refine bj agt C (kf (AI _) (AI _) f) ?_;rw[agu];refine ws ?_;refine ag ?_;refine er ?_;refine cl aj5 ?_;refine SS ?_;refine ax (qE (v:=.im _) rfl rfl) ak (by first|decide|simp) ?_;refine ax (qE (v:=.im _) rfl rfl) ak (by first|decide|simp) ?_;refine ax (jT (v:=.im _) rfl) ak trivial ?_;refine ax (jT (v:=.im _) rfl) ak trivial ?_;refine er ?_;refine ax (ff (vs:=aY _) rfl rfl V.h V.h rfl) ak (fh V.h V.h (by first|(simp;done)|omega|exact bF rfl)) ?_;refine ay ?_;refine bL (fg (cs':=a6 _ _ _) rfl rfl rfl rfl) ak (bY V.h V.h (by first|(simp;done)|exact⟨rfl,bF rfl⟩|(simp;omega)) (by rfl)) ?_;refine af (ss (gP rfl rfl UG UH rfl t113 oS) ?_);rfl
theorem lU:Tr P0:=AI _
theorem lV:Tr Q0:=AI _
section
variable{p q:D}{f:au}(hp:Tr p)(hq:Tr q)(eE:p.one=true)(bN:q.one=true)
include hp hq eE bN
theorem aj6{r kd:Int}:aD prog 177 [I r,.pt (a6 p q f),.pt [U8 kd]] (B !(dm (dx f.aW r) kd)):=by
 have C:∀ a∈[I r,.pt (a6 p q f),.pt [U8 kd]],Tr a:=.cons (.s _) (.cons (.pt (Ca hp hq f)) (.cons (.pt (.cons (.s _) .nil)) .nil));have eX:=eX (f:=f) (r:=r) hp hq eE bN;refine bj agv C (Tr.s _) ?_;rw[agw];refine ws ?_;refine SS ?_;refine af (eg ZN ?_);refine ag ?_;refine cl eX ?_;refine ay ?_;refine cu cE ?_;refine aJ (d:=.s (.bool _)) rfl ?_;rfl
end
theorem Hp{f:au}{b ahead:Int}{x:cV}{phis:Bool}:aD prog 131 [q8 f,I b,.agg (cA x),B phis,I ahead] (B (kY f b x phis ahead)):=by
 have U:∀ a∈[q8 f,I b,.agg (cA x),B phis,I ahead],Tr a:=.cons (kf lU lV f) (.cons (.s _) (.cons (.agg (xj x)) (.cons (.s _) (.cons (.s _) .nil))));have eX:= @eX P0 Q0 f lU lV rfl rfl;have Hr:= @Hr P0 Q0 f lU lV rfl rfl;have hZ:= @hZ P0 Q0 f lU lV rfl rfl;have A9:= @A9 P0 Q0 f lU lV rfl rfl;refine bj agx U (Tr.s _) ?_;rw[agy];refine az ?_;refine ay ?_;refine af (bJ (dE [(0,a6 P0 Q0 f,113),(1,cA x,54)] eH (l:=[(1,I b),(3,B phis),(4,I ahead),(5,.pt (a6 P0 Q0 f)),(7,.pt (cA x))]) eH) (aC (aj ?_)));refine ag ?_;refine af (w7 (aj ?_));refine ag ?_;refine af (aR rfl (fun h0=>?_) fun h0=>?_)
 .have h0:x.op=16:=by simpa using h0
  refine ws ?_;refine fV ?_;refine gc eX ?_;refine bt ?_;refine dM ?_;refine ag ?_;refine af (bH (ez (bD (aJ (d:=.s (.bool _)) rfl ?_))));simp[kY,h0,dm,tX,ib,Bool.and_assoc]
 have h0:¬ x.op=16:=by simpa using h0
 refine ws ?_;refine ag ?_;refine af (aR rfl (fun h1=>?_) fun h1=>?_)
 .have h1:x.op=17:=by simpa using h1
  refine ws ?_;refine bt ?_;refine bt ?_;refine ag ?_;refine gc Hr ?_;refine ag ?_;refine af (bH (ez (bD (aJ (d:=.s (.bool _)) rfl ?_))));simp[kY,h1,dm,tX,ib,Bool.and_assoc]
 have h1:¬ x.op=17:=by simpa using h1
 refine ws ?_;refine ag ?_;refine af (aR rfl (fun h2=>?_) fun h2=>?_)
 .have h2:x.op=18:=by simpa using h2
  refine ws ?_;refine bt ?_;refine bt ?_;refine ag ?_;refine gc Hr ?_;refine ag ?_;refine af (bH (ez (bD (aJ (d:=.s (.bool _)) rfl ?_))));simp[kY,h2,dm,tX,ib,Bool.and_assoc]
 have h2:¬ x.op=18:=by simpa using h2
 refine ws ?_;refine ag ?_;refine af (aR rfl (fun C=>?_) fun C=>?_)
 .have C:x.op=19:=by simpa using C
  refine az ?_;refine ay ?_;refine cl eX ?_;refine ag ?_;refine af (bJ (dE [(2,[U8 (dx f.aW x.to)],5)] eH (l:=[(1,I b),(3,B phis),(4,I ahead),(5,.pt (a6 P0 Q0 f)),(7,.pt (cA x)),(11,.pt [U8 (dx f.aW x.to)])]) eH) (aj ?_));have Bq:=Bq (l:=x.args) (g:=177) (fs:=[]) (cs:=[.pt (a6 P0 Q0 f),.pt [U8 (dx f.aW x.to)]]) (p:=fun r=> !(dm (dx f.aW r) (dx f.aW x.to))) (.fn oS (.cons (.pt (Ca lU lV f)) (.cons (.pt (.cons (.s _) .nil)) .nil))) (fun r _=>aj6 lU lV rfl rfl);refine ay ?_;refine cl Bq ?_;refine SS ?_;refine er ?_;by_cases hb:phis=true/\0<b
  .obtain⟨rfl,hb⟩:=hb;have wa:decide (0<b)=true:=by simpa using hb
   have hZ:=hZ (l:=[x.to]);have M:∀ {m:Mem},m 3=some (.cells [I x.to] 3)->jr prog [3] m [q8 f,.rs 3 0 1] [q8 f,aQ [x.to]]:=fun hm=>⟨cN (kf lU lV f),Aw hm oS (by rw[c3];rfl) (.cons (.s _) .nil),trivial⟩
   refine dM ?_;refine ag ?_;refine sv hZ rfl rfl rfl rfl (M rfl) ak ?_;refine bt ?_;refine bt ?_;refine dM ?_;refine ag ?_;refine af (bH (ez (bD (aJ (d:=.s (.bool _)) rfl ?_))));simp[kY,C,hb,dm,tX,ib,Bool.and_assoc,qR]
  .have hf:kY f b x phis ahead=false:=by
    cases phis with
    |false=>simp[kY,C]
    |true=>simp[kY,C,show ¬ 0<b by simpa using hb]
   have hf:D.s (.bool false)=B (kY f b x phis ahead):=by rw[hf]
   cases phis with
   |false=>
    refine ag ?_;(iterate 2 refine z fun _ _=>?_);refine ag ?_;(iterate 5 refine z fun _ _=>?_);refine ag ?_;(iterate 3 refine z fun _ _=>?_);refine ag ?_;(iterate 3 refine z fun _ _=>?_);refine ag ?_;(iterate 3 refine z fun _ _=>?_);refine ag ?_;(iterate 5 refine z fun _ _=>?_);refine ag ?_;(iterate 2 refine z fun _ _=>?_);refine ag ?_;exact af (bH (ez (bD (aJ (d:=.s (.bool _)) rfl hf))))
   |true=>
    have wa:decide (0<b)=false:=by simpa using hb
    refine cm ?_;(iterate 5 refine z fun _ _=>?_);refine ag ?_;(iterate 3 refine z fun _ _=>?_);refine ag ?_;(iterate 3 refine z fun _ _=>?_);refine ag ?_;(iterate 3 refine z fun _ _=>?_);refine ag ?_;(iterate 5 refine z fun _ _=>?_);refine ag ?_;(iterate 2 refine z fun _ _=>?_);refine ag ?_;exact af (bH (ez (bD (aJ (d:=.s (.bool _)) rfl hf))))
 have C:¬ x.op=19:=by simpa using C
 refine vA (aj ?_);have X:fz prog 111 true (cQ (.int .u8 x.op) (qj oc))=.aM [.agg (jz ((jA oc x.op).getD z1)),.s (.bool (jA oc x.op).isSome)]:=Sx rfl _ _ (by rw[La];unfold lM;rw[L9,L'];rfl);have J:=RF (P:=prog) (kt:=5) u5 oc;refine aV ?_;refine ax (zE rfl rfl V.h X) ak ⟨V.h,by kernel_rfl,J⟩ ?_;refine SS ?_;refine ax (qE (v:=.agg (jz _)) rfl rfl) ak (by first|decide|simp) ?_;refine ag ?_;refine bL (fg (cs':=jz _) rfl rfl rfl rfl) ak (bY V.h V.h (by first|(simp;done)|exact⟨rfl,bF rfl⟩|(simp;omega)) (by rfl)) ?_;refine SS ?_;refine er ?_;refine ay ?_;refine bw rfl rfl (j8 (vs:=cA _) rfl V.h V.h rfl) (fun hc=>⟨ak,(kb V.h V.h oS)⟩) ?_;refine bw rfl rfl (ff (vs:=jz _) rfl rfl V.h V.h rfl) (fun hc=>⟨ak,(fh V.h V.h (by first|(simp;done)|omega|exact bF rfl))⟩) ?_;refine gc A9 ?_;refine ag ?_;refine af (aJ (d:=.s (.bool _)) rfl ?_);simp[kY,h0,h1,h2,C]
def TD(f:au)(x:Argus.End)(s:St):Prop:=∃ cells n,aL prog s ⟨aA [(2,.pt (a6 P0 Q0 f)),(3,.pt (bE x)),(5,.rp 2 0),(6,B (eJ f x).1)],up (fun _=>none) 2 (some (.cells cells 57)),n⟩/\cells.length=15/\∀ m,jr prog [2] m cells (bE (eJ f x).2)
theorem vR{l:List Int}{r:Int}:qR l [r]=oa l r:=by simp[qR]
theorem mM{f:au}{x r:Argus.End}{env:Env}{m:Mem}{nx:Nat}{cells:List D}{ok:Bool}(hr:eJ f x=(ok,r))(he:kV [(2,.pt (a6 P0 Q0 f)),(3,.pt (bE x)),(5,.rp 2 0),(6,B ok)] env)(hm:m 2=some (.cells cells 57))(hl:cells.length=15)
 (hs:∀ m,jr prog [2] m cells (bE r)):TD f x ⟨env,m,nx⟩:=by
 refine⟨cells,nx,?_,hl,?_⟩
 .rw[hr];exact QC he (aaA hm)
 .rw[hr];exact hs
theorem Ho{f:au}{x:Argus.End}:aD prog 129 [q8 f,.agg (bE x)] (B (ji f x)):=by
 have bf:∀ a∈[q8 f,.agg (bE x)],Tr a:=.cons (kf lU lV f) (.cons (.agg (qQ x)) .nil);have jJ:= @jJ P0 Q0 f lU lV rfl rfl;have eX:= @eX P0 Q0 f lU lV rfl rfl;have hZ:= @hZ P0 Q0 f lU lV rfl rfl;have A9:= @A9 P0 Q0 f lU lV rfl rfl;have sT:= @sT P0 Q0 f lU lV rfl rfl;refine bj agz bf (Tr.s _) ?_;rw[agA];refine az ?_;refine ay ?_;refine af (bJ (dE [(0,a6 P0 Q0 f,113),(1,bE x,57)] eH (l:=[(2,.pt (a6 P0 Q0 f)),(3,.pt (bE x))]) eH) (aj ?_));refine ag ?_;refine bL (fg (cs':=bE _) rfl rfl rfl rfl) ak (bY V.h V.h (by first|(simp;done)|exact⟨rfl,bF rfl⟩|(simp;omega)) (by rfl)) ?_;refine SS ?_;refine er ?_;refine ag ?_;refine af ?_;refine iC (TD f x) (aj ?_) fun s hs=>?_
 .refine ag ?_;refine af (pE (aj ?_));refine ag ?_;refine af (aR rfl (fun h=>?_) fun h=>?_)
  .have h:x.kind=1:=by simpa using h
   refine n5 ?_;refine ay ?_;refine cl jJ ?_;refine ay ?_;refine af ?_;exact mM (r:={ x with kind:=0,to:=0 }) (by simp[eJ,h,dm,ib,Bool.and_assoc,ei]) ⟨rfl,rfl,rfl,rfl,trivial⟩ rfl rfl (fun m=>by repeat' (first|exact trivial|exact cN (Tr.s _)|exact cN (c6 _)|exact cN (ja _)|exact mN|refine And.intro ?_ ?_))
  have h1:¬ x.kind=1:=by simpa using h
  clear h;refine ws ?_;refine ag ?_;refine af (aR rfl (fun h=>?_) fun h=>?_)
  .have h:x.kind=2:=by simpa using h
   refine n5 ?_;refine ay ?_;refine cl eX ?_;refine bA ?_;refine gc jJ ?_;refine bA ?_;refine gc jJ ?_;refine dM ?_;refine af ?_;exact mM (r:={ x with kind:=0,a:=0,to:=0,gN:=0 }) (by simp[eJ,h,dm,ib,Bool.and_assoc,ei]) ⟨rfl,rfl,rfl,rfl,trivial⟩ rfl rfl (fun m=>by repeat' (first|exact trivial|exact cN (Tr.s _)|exact cN (c6 _)|exact cN (ja _)|exact mN|refine And.intro ?_ ?_))
  have h2:¬ x.kind=2:=by simpa using h
  clear h;refine ws ?_;refine ag ?_;refine af (aR rfl (fun h=>?_) fun h=>?_)
  .have h:x.kind=3:=by simpa using h
   refine ws ?_;refine cm ?_;refine er ?_;refine dM ?_;refine ag ?_;refine af (aR rfl (fun hr=>?_) fun hr=>?_)
   .have hr:f.result≠0/\f.iter=false:=by simpa[bne,ib] using hr
    refine Qg Yj ?_;refine ay ?_;refine cl eX ?_;refine bA ?_;refine cu cE ?_;exact mM (r:={ x with kind:=0,a:=0 }) (by simp[eJ,h,dm,ib,Bool.and_assoc,hr.1,hr.2]) ⟨rfl,rfl,rfl,rfl,trivial⟩ rfl rfl (fun m=>by repeat' (first|exact trivial|exact cN (Tr.s _)|exact cN (c6 _)|exact cN (ja _)|exact mN|refine And.intro ?_ ?_))
   .have hr:¬ (f.result≠0/\f.iter=false):=by simpa[bne,ib] using hr
    refine Je ?_;exact mM (r:={ x with kind:=0,a:=0 }) (by simp only[eJ,h];simp only[if_neg hr];simp[dm,ib]) ⟨rfl,rfl,rfl,rfl,trivial⟩ rfl rfl (fun m=>by repeat' (first|exact trivial|exact cN (Tr.s _)|exact cN (c6 _)|exact cN (ja _)|exact mN|refine And.intro ?_ ?_))
  have h3:¬ x.kind=3:=by simpa using h
  clear h;refine ws ?_;refine ag ?_;refine af (aR rfl (fun h=>?_) fun h=>?_)
  .have h:x.kind=4:=by simpa using h
   refine n5 ?_;refine ag ?_;refine cl DC ?_;refine ay ?_;refine af ?_;exact mM (r:={ x with kind:=0,name:=.empty }) (by simp[eJ,h,dm,ib,Bool.and_assoc]) ⟨rfl,rfl,rfl,rfl,trivial⟩ rfl rfl (fun m=>by repeat' (first|exact trivial|exact cN (Tr.s _)|exact cN (c6 _)|exact cN (ja _)|exact mN|refine And.intro ?_ ?_))
  have h4:¬ x.kind=4:=by simpa using h
  clear h;refine ws ?_;refine ag ?_;refine af (aR rfl (fun h=>?_) fun h=>?_)
  .have h:x.kind=5:=by simpa using h
   refine ws ?_;have kg:fz prog 111 true (cQ (.int .u8 x.ins.op) (qj np))=.aM [.agg (jz ((jA np x.ins.op).getD z1)),.s (.bool (jA np x.ins.op).isSome)]:=Sx rfl _ _ (by rw[La];unfold lM;rw[L9,L'];rfl);have H3:=RF (P:=prog) (kt:=5) u5 np;refine bA ?_;refine ax (zE rfl rfl V.h kg) ak ⟨V.h,by kernel_rfl,H3⟩ ?_;refine SS ?_;refine ax (qE (v:=.agg (jz _)) rfl rfl) ak (by first|decide|simp) ?_;refine ag ?_;refine bL (fg (cs':=jz _) rfl rfl rfl rfl) ak (bY V.h V.h (by first|(simp;done)|exact⟨rfl,bF rfl⟩|(simp;omega)) (by rfl)) ?_;refine SS ?_;refine er ?_;refine aV ?_;refine bw rfl rfl (j8 (vs:=cA _) rfl V.h V.h rfl) (fun hc=>⟨ak,(kb V.h V.h oS)⟩) ?_;refine bw rfl rfl (ff (vs:=jz _) rfl rfl V.h V.h rfl) (fun hc=>⟨ak,(fh V.h V.h (by first|(simp;done)|omega|exact bF rfl))⟩) ?_;refine gc A9 ?_;refine bA ?_;refine gc jJ ?_;refine aV ?_;refine gc sT ?_;refine ag ?_;refine af (n5 ?_);refine bt ?_;refine af ?_;exact mM (r:={ x with kind:=0,ins:=xF,to:=0,aU:=[],others:= -1 }) (by simp[eJ,h,dm,ib,Bool.and_assoc,ei]) ⟨rfl,rfl,rfl,rfl,trivial⟩ rfl rfl (fun m=>by repeat' (first|exact trivial|exact cN (Tr.s _)|exact cN (c6 _)|exact cN (ja _)|exact mN|refine And.intro ?_ ?_))
  have h5:¬ x.kind=5:=by simpa using h
  clear h;refine ws ?_;refine ag ?_;refine af (aR rfl (fun h=>?_) fun h=>?_)
  .have h:x.kind=6:=by simpa using h
   refine ws ?_;have rr:=rr (s:=x.name);have agB:=hZ (l:=[x.a]);have hZ:=hZ (l:=x.args);have X:∀ {m:Mem},m 3=some (.cells [I x.a] 3)->jr prog [3] m [q8 f,.rs 3 0 1] [q8 f,aQ [x.a]]:=fun hm=>⟨cN (kf lU lV f),Aw hm oS (by rw[c3];rfl) (.cons (.s _) .nil),trivial⟩
   cases C:n9 x.name with
   |false=>
    rw[C] at rr;refine ag ?_;refine cl rr ?_;refine dM ?_;refine ag ?_;refine gc hZ ?_;refine bt ?_;(iterate 3 refine z fun _ _=>?_);refine bA ?_;refine gc jJ ?_;refine aV ?_;refine gc sT ?_;refine ag ?_;refine af (n5 ?_);refine bt ?_;refine ay ?_;refine af ?_;exact mM (r:={ x with kind:=0,name:=.empty,args:=[],a:=0,to:=0,aU:=[],others:= -1 }) (by simp[eJ,h,dm,ib,Bool.and_assoc,ei,C]) ⟨rfl,rfl,rfl,rfl,trivial⟩ rfl rfl (fun m=>by repeat' (first|exact trivial|exact cN (Tr.s _)|exact cN (c6 _)|exact cN (ja _)|exact mN|refine And.intro ?_ ?_))
   |true=>
    rw[C] at rr;by_cases J:(x.args.length:Int)<=6
    rotate_left
    .have TV:decide ((x.args.length:Int)<=6)=false:=by simpa using J
     refine ag ?_;refine cl rr ?_;refine dM ?_;refine ag ?_;refine gc hZ ?_;refine bt ?_;(iterate 3 refine z fun _ _=>?_);refine bA ?_;refine gc jJ ?_;refine aV ?_;refine gc sT ?_;refine ag ?_;refine af (n5 ?_);refine bt ?_;refine ay ?_;refine af ?_;exact mM (r:={ x with kind:=0,name:=.empty,args:=[],a:=0,to:=0,aU:=[],others:= -1 }) (by simp[eJ,h,dm,ib,Bool.and_assoc,ei,C,J]) ⟨rfl,rfl,rfl,rfl,trivial⟩ rfl rfl (fun m=>by repeat' (first|exact trivial|exact cN (Tr.s _)|exact cN (c6 _)|exact cN (ja _)|exact mN|refine And.intro ?_ ?_))
    have TV:decide ((x.args.length:Int)<=6)=true:=by simpa using J
    cases M:qR f.aW x.args with
    |false=>
     rw[M] at hZ;refine ag ?_;refine cl rr ?_;refine dM ?_;refine ag ?_;refine gc hZ ?_;refine bt ?_;(iterate 3 refine z fun _ _=>?_);refine bA ?_;refine gc jJ ?_;refine aV ?_;refine gc sT ?_;refine ag ?_;refine af (n5 ?_);refine bt ?_;refine ay ?_;refine af ?_;exact mM (r:={ x with kind:=0,name:=.empty,args:=[],a:=0,to:=0,aU:=[],others:= -1 }) (by simp[eJ,h,dm,ib,Bool.and_assoc,ei,C,J,M]) ⟨rfl,rfl,rfl,rfl,trivial⟩ rfl rfl (fun m=>by repeat' (first|exact trivial|exact cN (Tr.s _)|exact cN (c6 _)|exact cN (ja _)|exact mN|refine And.intro ?_ ?_))
    |true=>
     rw[M] at hZ;by_cases U:x.a= -1
     .have l7:(x.a== -1)=true:=by simpa using U
      refine ag ?_;refine cl rr ?_;refine dM ?_;refine ag ?_;refine gc hZ ?_;refine aV ?_;refine bw rfl rfl (Ag rfl rfl l7) (fun hc=>⟨ak,rfl⟩) ?_;refine aV ?_;(iterate 2 refine z fun _ _=>?_);refine cm ?_;refine gc jJ ?_;refine aV ?_;refine gc sT ?_;refine ag ?_;refine af (n5 ?_);refine bt ?_;refine ay ?_;refine af ?_;exact mM (r:={ x with kind:=0,name:=.empty,args:=[],a:=0,to:=0,aU:=[],others:= -1 }) (by simp[eJ,h,dm,ib,Bool.and_assoc,ei,C,J,M,U]) ⟨rfl,rfl,rfl,rfl,trivial⟩ rfl rfl (fun m=>by repeat' (first|exact trivial|exact cN (Tr.s _)|exact cN (c6 _)|exact cN (ja _)|exact mN|refine And.intro ?_ ?_))
     .have l7:(x.a== -1)=false:=by simpa using U
      refine ag ?_;refine cl rr ?_;refine dM ?_;refine ag ?_;refine gc hZ ?_;refine aV ?_;refine bw rfl rfl (Ag rfl rfl l7) (fun hc=>⟨ak,rfl⟩) ?_;refine bA ?_;refine sv agB rfl rfl rfl rfl (X rfl) ak ?_;refine cm ?_;refine gc jJ ?_;refine aV ?_;refine gc sT ?_;refine ag ?_;refine af (n5 ?_);refine bt ?_;refine ay ?_;refine af ?_;exact mM (r:={ x with kind:=0,name:=.empty,args:=[],a:=0,to:=0,aU:=[],others:= -1 }) (by simp[eJ,h,dm,ib,Bool.and_assoc,ei,C,J,M,U,vR]) ⟨rfl,rfl,rfl,rfl,trivial⟩ rfl rfl (fun m=>by repeat' (first|exact trivial|exact cN (Tr.s _)|exact cN (c6 _)|exact cN (ja _)|exact mN|refine And.intro ?_ ?_))
  have h6:¬ x.kind=6:=by simpa using h
  clear h;refine ws ?_;refine ag ?_;refine af (aR rfl (fun h=>?_) fun h=>?_)
  .have h:x.kind=7:=by simpa using h
   refine ws ?_;refine ag ?_;refine cl rr ?_;refine dM ?_;refine ag ?_;refine gc hZ ?_;refine bA ?_;refine gc eX ?_;refine cm ?_;refine gc jJ ?_;refine ag ?_;refine af (n5 ?_);refine dM ?_;refine af ?_;exact mM (r:={ x with kind:=0,name:=.empty,args:=[],a:=0,to:=0 }) (by simp[eJ,h,dm,ib,Bool.and_assoc,ei]) ⟨rfl,rfl,rfl,rfl,trivial⟩ rfl rfl (fun m=>by repeat' (first|exact trivial|exact cN (Tr.s _)|exact cN (c6 _)|exact cN (ja _)|exact mN|refine And.intro ?_ ?_))
  have h7:¬ x.kind=7:=by simpa using h
  clear h;refine ws ?_;refine ag ?_;refine af (aR rfl (fun h=>?_) fun h=>?_)
  .have h:x.kind=8:=by simpa using h
   refine ws ?_;have hZ:=hZ (l:=[x.b]);have K9:∀ {m:Mem},m 3=some (.cells [I x.b] 3)->jr prog [3] m [q8 f,.rs 3 0 1] [q8 f,aQ [x.b]]:=fun hm=>⟨cN (kf lU lV f),Aw hm oS (by rw[c3];rfl) (.cons (.s _) .nil),trivial⟩
   by_cases C:dx f.aW x.a=3
   .have l7:(dx f.aW x.a==3)=true:=by simpa using C
    refine ay ?_;refine cl eX ?_;refine cm ?_;refine sv hZ rfl rfl rfl rfl (K9 rfl) ak ?_;refine bA ?_;refine gc jJ ?_;refine bA ?_;refine gc jJ ?_;refine aV ?_;refine gc sT ?_;refine ag ?_;refine af (n5 ?_);refine bt ?_;refine ay ?_;refine af ?_;exact mM (r:={ x with kind:=0,a:=0,b:=0,to:=0,gN:=0,aU:=[],others:= -1 }) (by simp[eJ,h,dm,ib,Bool.and_assoc,ei,C,vR]) ⟨rfl,rfl,rfl,rfl,trivial⟩ rfl rfl (fun m=>by repeat' (first|exact trivial|exact cN (Tr.s _)|exact cN (c6 _)|exact cN (ja _)|exact mN|refine And.intro ?_ ?_))
   .have l7:(dx f.aW x.a==3)=false:=by simpa using C
    refine ay ?_;refine cl eX ?_;refine bA ?_;(iterate 2 refine z fun _ _=>?_);refine bA ?_;refine gc jJ ?_;refine bA ?_;refine gc jJ ?_;refine aV ?_;refine gc sT ?_;refine ag ?_;refine af (n5 ?_);refine bt ?_;refine ay ?_;refine af ?_;exact mM (r:={ x with kind:=0,a:=0,b:=0,to:=0,gN:=0,aU:=[],others:= -1 }) (by simp[eJ,h,dm,ib,Bool.and_assoc,ei,C]) ⟨rfl,rfl,rfl,rfl,trivial⟩ rfl rfl (fun m=>by repeat' (first|exact trivial|exact cN (Tr.s _)|exact cN (c6 _)|exact cN (ja _)|exact mN|refine And.intro ?_ ?_))
  have h8:¬ x.kind=8:=by simpa using h
  clear h;refine ws ?_;refine ag ?_;refine af (aR rfl (fun h=>?_) fun h=>?_)
  .have h:x.kind=9:=by simpa using h
   refine Qg Yk ?_;refine fV ?_;refine gc eX ?_;refine bt ?_;refine gc jJ ?_;refine cm ?_;refine cu cE ?_;exact mM (r:={ x with kind:=0,a:=0,to:=0 }) (by simp[eJ,h,dm,ib,Bool.and_assoc,ei]) ⟨rfl,rfl,rfl,rfl,trivial⟩ rfl rfl (fun m=>by repeat' (first|exact trivial|exact cN (Tr.s _)|exact cN (c6 _)|exact cN (ja _)|exact mN|refine And.intro ?_ ?_))
  .have h9:¬ x.kind=9:=by simpa using h
   refine Je ?_;exact mM (r:={ x with kind:=0 }) (by simp[eJ,h1,h2,h3,h4,h5,h6,h7,h8,h9]) ⟨rfl,rfl,rfl,rfl,trivial⟩ rfl rfl (fun m=>by repeat' (first|exact trivial|exact cN (Tr.s _)|exact cN (c6 _)|exact cN (ja _)|exact mN|refine And.intro ?_ ?_))
 .obtain⟨cells,n,hg,hl,hs⟩:=hs;refine⟨_,hg,aj ?_⟩;have gw:(cells.drop 0).take 15=cells:=by rw[List.drop_zero,dv oG]
  have L8:=L8 (x:=(eJ f x).2);have agC:∀ {m:Mem},m 2=m 2->jr prog [2] m [.agg ((cells.drop 0).take 15)] [.agg (bE (eJ f x).2)]:=fun {m} _=>⟨adK (by rw[gw];exact hs m),trivial⟩
  have he:ji f x=((eJ f x).1&&vV (eJ f x).2):=rfl;generalize (eJ f x).1=ok at he;cases ok with
  |true=>
   refine ay ?_;refine sv L8 rfl rfl rfl rfl (agC rfl) ak ?_;refine ag ?_;refine af (aJ (d:=.s (.bool _)) rfl ?_);rw[he];simp
  |false=>
   refine ag ?_;(iterate 2 refine z fun _ _=>?_);refine ag ?_;refine af (aJ (d:=.s (.bool _)) rfl ?_);rw[he];simp
theorem ur{n:Int}(hn: -1000000<=n/\n<=1000000):aD prog 182 [I n] (I (mZ n)):=by
 refine bj agD (by simp[Tr.s]) (Tr.s _) ?_;rw[agE];refine ws ?_;refine SS ?_;refine er ?_;refine ay ?_;exact af (aJ rfl rfl)
theorem AP{x:cV}:aD prog 235 [.agg (cA x)] (I (ke x)):=by
 have bf:∀ a∈[D.agg (cA x)],Tr a:=.cons (.agg (xj x)) .nil;refine bj agF bf (Tr.s _) ?_;rw[agG];refine az ?_;refine ag ?_;refine af (bJ (dE [(0,cA x,54)] eH (l:=[(1,.pt (cA x))]) eH) (aC (aj ?_)));refine ag ?_;refine af (w7 ?_);refine iC (fun s=>aL prog s ⟨aA [(1,.pt (cA x)),(4,U8 x.op),(5,B (bO tC x.op))],fun _=>none,1⟩) (aj ?_) fun s hg=>⟨_,hg,?_⟩
 .refine ag ?_;refine af (aR rfl (fun h=>cO ?_) fun e1=>aj ?_)
  .have h:x.op=1:=by simpa using h
   refine aw ⟨rfl,rfl,?_,trivial⟩;show D.s (.bool (x.op==1))=_;rw[h];rfl
  refine ag ?_;refine af (aR rfl (fun h=>cO ?_) fun e2=>aj ?_)
  .have h:x.op=2:=by simpa using h
   refine aw ⟨rfl,rfl,?_,trivial⟩;show D.s (.bool (x.op==2))=_;rw[h];rfl
  refine ag ?_;refine af (aR rfl (fun h=>cO ?_) fun e3=>aj ?_)
  .have h:x.op=3:=by simpa using h
   refine aw ⟨rfl,rfl,?_,trivial⟩;show D.s (.bool (x.op==3))=_;rw[h];rfl
  refine ag ?_;refine af (aR rfl (fun h=>cO ?_) fun e4=>aj ?_)
  .have h:x.op=4:=by simpa using h
   refine aw ⟨rfl,rfl,?_,trivial⟩;show D.s (.bool (x.op==4))=_;rw[h];rfl
  refine ag ?_;refine af (aR rfl (fun h=>cO ?_) fun e5=>aj ?_)
  .have h:x.op=5:=by simpa using h
   refine aw ⟨rfl,rfl,?_,trivial⟩;show D.s (.bool (x.op==5))=_;rw[h];rfl
  refine ag ?_;refine af (aR rfl (fun h=>cO ?_) fun e6=>aj ?_)
  .have h:x.op=6:=by simpa using h
   refine aw ⟨rfl,rfl,?_,trivial⟩;show D.s (.bool (x.op==6))=_;rw[h];rfl
  refine ag ?_;refine af (aR rfl (fun h=>cO ?_) fun e7=>aj ?_)
  .have h:x.op=7:=by simpa using h
   refine aw ⟨rfl,rfl,?_,trivial⟩;show D.s (.bool (x.op==7))=_;rw[h];rfl
  refine ag ?_;refine af (aR rfl (fun h=>cO ?_) fun e8=>aj ?_)
  .have h:x.op=8:=by simpa using h
   refine aw ⟨rfl,rfl,?_,trivial⟩;show D.s (.bool (x.op==8))=_;rw[h];rfl
  refine ag ?_;refine af (aR rfl (fun h=>cO ?_) fun e9=>aj ?_)
  .have h:x.op=9:=by simpa using h
   refine aw ⟨rfl,rfl,?_,trivial⟩;show D.s (.bool (x.op==9))=_;rw[h];rfl
  refine ag ?_;refine af (aR rfl (fun h=>cO ?_) fun C=>aj ?_)
  .have h:x.op=10:=by simpa using h
   refine aw ⟨rfl,rfl,?_,trivial⟩;show D.s (.bool (x.op==10))=_;rw[h];rfl
  refine ag ?_;refine af (aR rfl (fun h=>cO ?_) fun M=>aj ?_)
  .have h:x.op=11:=by simpa using h
   refine aw ⟨rfl,rfl,?_,trivial⟩;show D.s (.bool (x.op==11))=_;rw[h];rfl
  refine ag ?_;refine af (aR rfl (fun h=>cO ?_) fun U=>aj ?_)
  .have h:x.op=13:=by simpa using h
   refine aw ⟨rfl,rfl,?_,trivial⟩;show D.s (.bool (x.op==13))=_;rw[h];rfl
  refine ag ?_;refine af (aR rfl (fun h=>cO ?_) fun X=>aj ?_)
  .have h:x.op=14:=by simpa using h
   refine aw ⟨rfl,rfl,?_,trivial⟩;show D.s (.bool (x.op==14))=_;rw[h];rfl
  refine ag ?_;refine af (aR rfl (fun h=>cO ?_) fun NE=>su ?_)
  .have h:x.op=17:=by simpa using h
   refine aw ⟨rfl,rfl,?_,trivial⟩;show D.s (.bool (x.op==17))=_;rw[h];rfl
  refine ag ?_;refine af ?_;refine aw ⟨rfl,rfl,?_,trivial⟩;show D.s (.bool (x.op==19))=_;simp[bO,tC,e1,e2,e3,e4,e5,e6,e7,e8,e9,C,M,U,X,NE]
 refine aR rfl (fun h1=>?_) fun h1=>?_
 .refine ws ?_;refine ay ?_;refine af (bH (ez (bD (aJ (d:=I x.to) rfl ?_))));simp[ke,h1]
 refine iC (fun s=>aL prog s ⟨aA [(1,.pt (cA x)),(4,U8 x.op),(23,B (bO xf x.op))],fun _=>none,1⟩) (aj ?_) fun s hg=>⟨_,hg,?_⟩
 .refine ag ?_;refine af (aR rfl (fun h=>cO ?_) fun NF=>aj ?_)
  .have h:x.op=30:=by simpa using h
   refine aw ⟨rfl,rfl,?_,trivial⟩;show D.s (.bool (x.op==30))=_;rw[h];rfl
  refine ag ?_;refine af (aR rfl (fun h=>cO ?_) fun NG=>aj ?_)
  .have h:x.op=31:=by simpa using h
   refine aw ⟨rfl,rfl,?_,trivial⟩;show D.s (.bool (x.op==31))=_;rw[h];rfl
  refine ag ?_;refine af (aR rfl (fun h=>cO ?_) fun NH=>aj ?_)
  .have h:x.op=32:=by simpa using h
   refine aw ⟨rfl,rfl,?_,trivial⟩;show D.s (.bool (x.op==32))=_;rw[h];rfl
  refine ag ?_;refine af (aR rfl (fun h=>cO ?_) fun NI=>aj ?_)
  .have h:x.op=33:=by simpa using h
   refine aw ⟨rfl,rfl,?_,trivial⟩;show D.s (.bool (x.op==33))=_;rw[h];rfl
  refine ag ?_;refine af (aR rfl (fun h=>cO ?_) fun rI=>aj ?_)
  .have h:x.op=34:=by simpa using h
   refine aw ⟨rfl,rfl,?_,trivial⟩;show D.s (.bool (x.op==34))=_;rw[h];rfl
  refine ag ?_;refine af (aR rfl (fun h=>cO ?_) fun J=>su ?_)
  .have h:x.op=36:=by simpa using h
   refine aw ⟨rfl,rfl,?_,trivial⟩;show D.s (.bool (x.op==36))=_;rw[h];rfl
  refine ag ?_;refine af ?_;refine aw ⟨rfl,rfl,?_,trivial⟩;show D.s (.bool (x.op==37))=_;simp[bO,xf,NF,NG,NH,NI,rI,J]
 refine aR rfl (fun h2=>?_) fun h2=>?_
 .refine ws ?_;refine ay ?_;refine af (bH (ez (bD (aJ (d:=I x.to) rfl ?_))));simp[ke,h2]
 refine vA (aj ?_);refine SS ?_;refine af (aJ (d:=I (-1)) rfl ?_);simp[ke,h1,h2]
theorem L1{x:Argus.End}:aD prog 186 [.agg (bE x)] (I (jS x)):=by
 have J:∀ a∈[D.agg (bE x)],Tr a:=.cons (.agg (qQ x)) .nil;have AP:=AP (x:=x.ins);refine bj agH J (Tr.s _) ?_;rw[agI];refine az ?_;refine ag ?_;refine af (bJ (dE [(0,bE x,57)] eH (l:=[(1,.pt (bE x))]) eH) (aC (aj ?_)));refine ag ?_;refine af (w7 (aj ?_));refine ag ?_;refine af (aR rfl (fun h1=>?_) fun h1=>?_)
 .have h1:x.kind=5:=by simpa using h1
  refine ws ?_;refine ag ?_;refine cl AP ?_;refine SS ?_;refine af (bH (ez (bD (aJ (d:=I (ke x.ins)) rfl ?_))));simp[jS,h1]
 have h1:¬ x.kind=5:=by simpa using h1
 refine iC (fun s=>aL prog s ⟨aA [(1,.pt (bE x)),(4,U8 x.kind),(10,B (bO [6,7] x.kind))],fun _=>none,1⟩) (aj ?_) fun s hg=>⟨_,hg,?_⟩
 .refine ag ?_;refine af (aR rfl (fun h=>cO ?_) fun e6=>su ?_)
  .have h:x.kind=6:=by simpa using h
   refine aw ⟨rfl,rfl,?_,trivial⟩;show D.s (.bool (x.kind==6))=_;rw[h];rfl
  refine ag ?_;refine af ?_;refine aw ⟨rfl,rfl,?_,trivial⟩;show D.s (.bool (x.kind==7))=_;simp[bO,e6]
 refine aR rfl (fun h2=>?_) fun h2=>?_
 .refine ws ?_;refine ay ?_;refine af (bH (ez (bD (aJ (d:=I x.a) rfl ?_))));simp[jS,h1,h2]
 refine ws ?_;refine ag ?_;refine af (aR rfl (fun C=>?_) fun C=>?_)
 .have C:x.kind=8:=by simpa using C
  refine ws ?_;refine ay ?_;refine af (bH (ez (bD (aJ (d:=I x.b) rfl ?_))));simp[jS,h2,C];simp[bO]
 have C:¬ x.kind=8:=by simpa using C
 refine vA (aj ?_);refine SS ?_;refine af (aJ (d:=I (-1)) rfl ?_);simp[jS,h1,h2,C]
theorem rJ{l:List Int}(hl:l.length<=100000):aD prog 93 [aQ l] (aQ l):=by
 have J:∀ a∈[aQ l],Tr a:=.cons (c6 _) .nil;refine bj aj7 J (c6 _) ?_;rw[aj8];have M:(l.map I).take (l.length*1)=l.map I:=dv oS
 have last:AW prog cZ true (.seq (.region 3 (Z xG 3) false) .ret) (gX prog [.tmp 2] fun d x=>d=aQ l) ⟨aA [(0,aQ l)],fun _=>none,0⟩:=by
  refine az ?_;refine ag ?_;refine jq (je rfl rfl rfl V.h V.h (qI M) rfl) ak ⟨V.h,rfl,(by first|omega|exact bF rfl|(simp;done)|(simp;omega)),oC,(by first|rfl|(simp;done)|(simp;omega)),(by unfold maxLen;first|omega|(simp;omega)),(by rw[b3];first|omega|(simp;omega)),(by first|(simp;done)|(simp;omega))⟩ ?_;refine SS ?_;refine af (bJ (dE [(1,l.map I,3)] eH (l:=[(2,aQ l)]) ⟨?_,trivial⟩) (aJ rfl rfl));show Bk _ [(1,l.map I,3)] (.rs 1 0 (0+l.length))=.sl (l.map I) l.length;rw[Nat.zero_add];exact vU c3 (dv oS)
 refine ws ?_;refine SS ?_;refine af ?_;refine iC (fun s=>aL prog s ⟨aA [(0,aQ l)],fun _=>none,0⟩) (aj ?_) fun s hg=>⟨_,hg,last⟩
 cases l with
 |nil=>
  refine SS ?_;refine ax (Gh rfl) ak V.h ?_;refine af (Rn rfl (az ?_) (cO (aw eH)));refine SS ?_;exact af (bJ (xc (n0:=2) rfl) (bH (bD (aJ rfl rfl))))
 |cons a l=>
  have C:(a::l).length≠0:=by simp
  refine SS ?_;refine ax (Gi rfl C) ak V.h ?_;exact af (aR rfl (fun h=>oH) fun h=>cO (aw eH))
theorem A5{x:cV}(hx:x.op=10\/x.op=38->x.args.length<=1000):aD prog 181 [.agg (cA x)] (aQ (ea x)):=by
 have bf:∀ a∈[D.agg (cA x)],Tr a:=.cons (.agg (xj x)) .nil;refine bj agJ bf (c6 _) ?_;rw[agK];refine az ?_;refine ag ?_;refine af (bJ (dE [(0,cA x,54)] eH (l:=[(1,.pt (cA x))]) eH) (aC (aj ?_)));refine ag ?_;refine af (w7 ?_);refine iC (fun s=>aL prog s ⟨aA [(1,.pt (cA x)),(4,U8 x.op),(5,B (bO tN x.op))],fun _=>none,1⟩) (aj ?_) fun s hg=>⟨_,hg,?_⟩
 .refine ag ?_;refine af (aR rfl (fun h=>cO ?_) fun e2=>aj ?_)
  .have h:x.op=2:=by simpa using h
   refine aw ⟨rfl,rfl,?_,trivial⟩;show D.s (.bool (x.op==2))=_;rw[h];rfl
  refine ag ?_;refine af (aR rfl (fun h=>cO ?_) fun e8=>aj ?_)
  .have h:x.op=8:=by simpa using h
   refine aw ⟨rfl,rfl,?_,trivial⟩;show D.s (.bool (x.op==8))=_;rw[h];rfl
  refine ag ?_;refine af (aR rfl (fun h=>cO ?_) fun NB=>aj ?_)
  .have h:x.op=11:=by simpa using h
   refine aw ⟨rfl,rfl,?_,trivial⟩;show D.s (.bool (x.op==11))=_;rw[h];rfl
  refine ag ?_;refine af (aR rfl (fun h=>cO ?_) fun NC=>aj ?_)
  .have h:x.op=13:=by simpa using h
   refine aw ⟨rfl,rfl,?_,trivial⟩;show D.s (.bool (x.op==13))=_;rw[h];rfl
  refine ag ?_;refine af (aR rfl (fun h=>cO ?_) fun ND=>aj ?_)
  .have h:x.op=14:=by simpa using h
   refine aw ⟨rfl,rfl,?_,trivial⟩;show D.s (.bool (x.op==14))=_;rw[h];rfl
  refine ag ?_;refine af (aR rfl (fun h=>cO ?_) fun NJ=>aj ?_)
  .have h:x.op=15:=by simpa using h
   refine aw ⟨rfl,rfl,?_,trivial⟩;show D.s (.bool (x.op==15))=_;rw[h];rfl
  refine ag ?_;refine af (aR rfl (fun h=>cO ?_) fun NK=>aj ?_)
  .have h:x.op=16:=by simpa using h
   refine aw ⟨rfl,rfl,?_,trivial⟩;show D.s (.bool (x.op==16))=_;rw[h];rfl
  refine ag ?_;refine af (aR rfl (fun h=>cO ?_) fun U=>su ?_)
  .have h:x.op=18:=by simpa using h
   refine aw ⟨rfl,rfl,?_,trivial⟩;show D.s (.bool (x.op==18))=_;rw[h];rfl
  refine ag ?_;refine af ?_;refine aw ⟨rfl,rfl,?_,trivial⟩;show D.s (.bool (x.op==36))=_;simp[bO,tN,e2,e8,NB,NC,ND,NJ,NK,U]
 refine aR rfl (fun h1=>?_) fun h1=>?_
 .refine az ?_;refine aV ?_;refine af (bJ (dE [(1,([x.a]).map I,3)] eH (l:=[(2,aQ ([x.a]))]) ⟨vU c3 rfl,trivial⟩) (bH (ez (bD (aJ (d:=aQ ([x.a])) rfl ?_)))));exact congrArg aQ (by unfold ea;rw[if_pos h1])
 refine iC (fun s=>aL prog s ⟨aA [(1,.pt (cA x)),(4,U8 x.op),(18,B (bO xr x.op))],fun _=>none,1⟩) (aj ?_) fun s hg=>⟨_,hg,?_⟩
 .refine ag ?_;refine af (aR rfl (fun h=>cO ?_) fun e3=>aj ?_)
  .have h:x.op=3:=by simpa using h
   refine aw ⟨rfl,rfl,?_,trivial⟩;show D.s (.bool (x.op==3))=_;rw[h];rfl
  refine ag ?_;refine af (aR rfl (fun h=>cO ?_) fun e4=>aj ?_)
  .have h:x.op=4:=by simpa using h
   refine aw ⟨rfl,rfl,?_,trivial⟩;show D.s (.bool (x.op==4))=_;rw[h];rfl
  refine ag ?_;refine af (aR rfl (fun h=>cO ?_) fun e5=>aj ?_)
  .have h:x.op=5:=by simpa using h
   refine aw ⟨rfl,rfl,?_,trivial⟩;show D.s (.bool (x.op==5))=_;rw[h];rfl
  refine ag ?_;refine af (aR rfl (fun h=>cO ?_) fun e6=>aj ?_)
  .have h:x.op=6:=by simpa using h
   refine aw ⟨rfl,rfl,?_,trivial⟩;show D.s (.bool (x.op==6))=_;rw[h];rfl
  refine ag ?_;refine af (aR rfl (fun h=>cO ?_) fun e7=>aj ?_)
  .have h:x.op=7:=by simpa using h
   refine aw ⟨rfl,rfl,?_,trivial⟩;show D.s (.bool (x.op==7))=_;rw[h];rfl
  refine ag ?_;refine af (aR rfl (fun h=>cO ?_) fun M=>aj ?_)
  .have h:x.op=12:=by simpa using h
   refine aw ⟨rfl,rfl,?_,trivial⟩;show D.s (.bool (x.op==12))=_;rw[h];rfl
  refine ag ?_;refine af (aR rfl (fun h=>cO ?_) fun NF=>aj ?_)
  .have h:x.op=30:=by simpa using h
   refine aw ⟨rfl,rfl,?_,trivial⟩;show D.s (.bool (x.op==30))=_;rw[h];rfl
  refine ag ?_;refine af (aR rfl (fun h=>cO ?_) fun NG=>aj ?_)
  .have h:x.op=31:=by simpa using h
   refine aw ⟨rfl,rfl,?_,trivial⟩;show D.s (.bool (x.op==31))=_;rw[h];rfl
  refine ag ?_;refine af (aR rfl (fun h=>cO ?_) fun NH=>aj ?_)
  .have h:x.op=32:=by simpa using h
   refine aw ⟨rfl,rfl,?_,trivial⟩;show D.s (.bool (x.op==32))=_;rw[h];rfl
  refine ag ?_;refine af (aR rfl (fun h=>cO ?_) fun NI=>aj ?_)
  .have h:x.op=33:=by simpa using h
   refine aw ⟨rfl,rfl,?_,trivial⟩;show D.s (.bool (x.op==33))=_;rw[h];rfl
  refine ag ?_;refine af (aR rfl (fun h=>cO ?_) fun rI=>aj ?_)
  .have h:x.op=34:=by simpa using h
   refine aw ⟨rfl,rfl,?_,trivial⟩;show D.s (.bool (x.op==34))=_;rw[h];rfl
  refine ag ?_;refine af (aR rfl (fun h=>cO ?_) fun X=>su ?_)
  .have h:x.op=35:=by simpa using h
   refine aw ⟨rfl,rfl,?_,trivial⟩;show D.s (.bool (x.op==35))=_;rw[h];rfl
  refine ag ?_;refine af ?_;refine aw ⟨rfl,rfl,?_,trivial⟩;show D.s (.bool (x.op==37))=_;simp[bO,xr,e3,e4,e5,e6,e7,M,NF,NG,NH,NI,rI,X]
 refine aR rfl (fun h2=>?_) fun h2=>?_
 .refine az ?_;refine cm ?_;refine af (bJ (dE [(1,([x.a,x.b]).map I,3)] eH (l:=[(2,aQ ([x.a,x.b]))]) ⟨vU c3 rfl,trivial⟩) (bH (ez (bD (aJ (d:=aQ ([x.a,x.b])) rfl ?_)))));exact congrArg aQ (by unfold ea;rw[if_neg (by simp[h1]),if_pos h2])
 refine ws ?_;refine ag ?_;refine af (aR rfl (fun C=>?_) fun C=>?_)
 .have C:x.op=10:=by simpa using C
  have rJ:=rJ (l:=x.args) (by have:=hx (.inl C);omega);refine ws ?_;refine ag ?_;refine cl rJ ?_;refine SS ?_;refine af (bH (ez (bD (aJ (d:=aQ x.args) rfl ?_))));exact congrArg aQ (by unfold ea;rw[if_neg (by simp[h1]),if_neg (by simp[h2]),if_pos C])
 have C:¬ x.op=10:=by simpa using C
 refine ws ?_;refine ag ?_;refine af (aR rfl (fun J=>?_) fun J=>?_)
 .have J:x.op=38:=by simpa using J
  have hl:=hx (.inr J);have iL:(x.args.map I).take (x.args.length*1)=x.args.map I:=dv oS;refine az ?_;refine fV ?_;refine jq (je rfl rfl rfl V.h V.h (qI iL) rfl) ak ⟨V.h,rfl,(by first|omega|exact bF rfl|(simp;done)|(simp;omega)),oC,(by first|rfl|(simp;done)|(simp;omega)),(by unfold maxLen;first|omega|(simp;omega)),(by rw[b3];first|omega|(simp;omega)),(by first|(simp;done)|(simp;omega))⟩ ?_;refine SS ?_;refine af (bJ (dE [(2,(x.a::x.b::x.args).map I,3)] eH (l:=[(2,aQ (x.a::x.b::x.args))]) ⟨?_,trivial⟩) (bH (ez (bD (aJ (d:=aQ (x.a::x.b::x.args)) rfl ?_)))))
  .show Bk _ [(2,_,3)] (.rs 2 0 (2+x.args.length))=_;refine(vU c3 (es:=(x.a::x.b::x.args).map I) (dv oP)).trans ?_;rw[Nat.add_comm];rfl
  .exact congrArg aQ (by unfold ea;rw[if_neg (by simp[h1]),if_neg (by simp[h2]),if_neg C,if_pos J])
 have J:¬ x.op=38:=by simpa using J
 refine vA (az ?_);refine SS ?_;refine af (bJ (xc (n0:=2) rfl) (aJ (d:=aQ []) rfl ?_));exact congrArg aQ (by unfold ea;rw[if_neg (by simp[h1]),if_neg (by simp[h2]),if_neg C,if_neg J])
theorem L2{x:Argus.End}(hx:x.kind=5->x.ins.op=10\/x.ins.op=38->x.ins.args.length<=1000)(hy:x.kind=6\/x.kind=7->x.args.length<=1000):aD prog 184 [.agg (bE x)] (aQ (dU x)):=by
 have M:∀ a∈[D.agg (bE x)],Tr a:=.cons (.agg (qQ x)) .nil;refine bj agL M (c6 _) ?_;rw[agM];refine az ?_;refine ag ?_;refine af (bJ (dE [(0,bE x,57)] eH (l:=[(1,.pt (bE x))]) eH) (aC (aj ?_)));refine ag ?_;refine af (w7 ?_);refine iC (fun s=>aL prog s ⟨aA [(1,.pt (bE x)),(4,U8 x.kind),(5,B (bO [2,8,9] x.kind))],fun _=>none,1⟩) (aj ?_) fun s hg=>⟨_,hg,?_⟩
 .refine ag ?_;refine af (aR rfl (fun h=>cO ?_) fun e2=>aj ?_)
  .have h:x.kind=2:=by simpa using h
   refine aw ⟨rfl,rfl,?_,trivial⟩;show D.s (.bool (x.kind==2))=_;rw[h];rfl
  refine ag ?_;refine af (aR rfl (fun h=>cO ?_) fun e8=>su ?_)
  .have h:x.kind=8:=by simpa using h
   refine aw ⟨rfl,rfl,?_,trivial⟩;show D.s (.bool (x.kind==8))=_;rw[h];rfl
  refine ag ?_;refine af ?_;refine aw ⟨rfl,rfl,?_,trivial⟩;show D.s (.bool (x.kind==9))=_;simp[bO,e2,e8]
 refine aR rfl (fun h1=>?_) fun h1=>?_
 .refine az ?_;refine aV ?_;refine af (bJ (dE [(1,([x.a]).map I,3)] eH (l:=[(2,aQ ([x.a]))]) ⟨vU c3 rfl,trivial⟩) (bH (ez (bD (aJ (d:=aQ ([x.a])) rfl ?_)))));exact congrArg aQ (by unfold dU;rw[if_pos h1])
 refine ws ?_;refine ag ?_;refine af (aR rfl (fun h2=>?_) fun h2=>?_)
 .have h2:x.kind=3:=by simpa using h2
  refine ws ?_;refine ay ?_;refine af (aR rfl (fun C=>?_) fun C=>?_)
  .have C:¬ x.a= -1:=by simpa[bne,ib] using C
   refine az ?_;refine aV ?_;refine af (bJ (dE [(1,([x.a]).map I,3)] eH (l:=[(2,aQ ([x.a]))]) ⟨vU c3 rfl,trivial⟩) (bH (ez (bD (aJ (d:=aQ ([x.a])) rfl ?_)))));exact congrArg aQ (by unfold dU;rw[if_neg (by simp[h1]),if_pos h2,if_pos C])
  .have C:x.a= -1:=by simpa[bne,ib] using C
   refine vA (az ?_);refine SS ?_;refine af (bJ (xc (n0:=2) rfl) (aJ (d:=aQ []) rfl ?_));exact congrArg aQ (by unfold dU;rw[if_neg (by simp[h1]),if_pos h2,if_neg (by simp[C])])
 have h2:¬ x.kind=3:=by simpa using h2
 refine ws ?_;refine ag ?_;refine af (aR rfl (fun C=>?_) fun C=>?_)
 .have C:x.kind=5:=by simpa using C
  have A5:=A5 (x:=x.ins) (hx C);refine ws ?_;refine ag ?_;refine cl A5 ?_;refine SS ?_;refine af (bH (ez (bD (aJ (d:=aQ (ea x.ins)) rfl ?_))));exact congrArg aQ (by unfold dU;rw[if_neg (by simp[h1]),if_neg h2,if_pos C])
 have C:¬ x.kind=5:=by simpa using C
 refine iC (fun s=>aL prog s ⟨aA [(1,.pt (bE x)),(4,U8 x.kind),(25,B (bO [6,7] x.kind))],fun _=>none,1⟩) (aj ?_) fun s hg=>⟨_,hg,?_⟩
 .refine ag ?_;refine af (aR rfl (fun h=>cO ?_) fun e6=>su ?_)
  .have h:x.kind=6:=by simpa using h
   refine aw ⟨rfl,rfl,?_,trivial⟩;show D.s (.bool (x.kind==6))=_;rw[h];rfl
  refine ag ?_;refine af ?_;refine aw ⟨rfl,rfl,?_,trivial⟩;show D.s (.bool (x.kind==7))=_;simp[bO,e6]
 refine aR rfl (fun J=>?_) fun J=>?_
 .have U:x.kind=6\/x.kind=7:=by simpa[bO] using J
  have rJ:=rJ (l:=x.args) (by have:=hy U;omega);refine ws ?_;refine ag ?_;refine cl rJ ?_;refine SS ?_;refine af (bH (ez (bD (aJ (d:=aQ x.args) rfl ?_))));exact congrArg aQ (by unfold dU;rw[if_neg (by simp[h1]),if_neg h2,if_neg C,if_pos J])
 refine vA (az ?_);refine SS ?_;refine af (bJ (xc (n0:=2) rfl) (aJ (d:=aQ []) rfl ?_));exact congrArg aQ (by unfold dU;rw[if_neg (by simp[h1]),if_neg h2,if_neg C,if_neg (by simp[J])])
end Go.Proofs.Tryz.K
end
namespace Go.Abs
instance(d:D):Decidable d.ask:=match d with
 | .cw c _=>inferInstanceAs (Decidable (c=true))
 | .u | .s _ | .ub | .agg _ | .aM _ | .z | .sl _ _ | .sc _ _ | .pt _ | .rs _ _ _ | .rp _ _ | .mp _ | .im _ | .fn _ _ _=>isTrue trivial
structure eW where
 pre:Prop
 [dec:Decidable pre]
 val:D
 aT:List (Nat×Option Row):=[]
 rd:List Nat:=[]
 new:Nat:=0
structure PD(α:Type) where
 p:Prop
 [dec:Decidable p]
 d:α
def eW.iw(e:eW):dt:=⟨e.pre,e.val,e.aT,e.rd,e.new⟩
def GH(op:BinOp)(x y:Value):Option (PD Value):=
 match op,x,y with
 | .shl,.int k a,.int _ b=>some ⟨0<=b,.int k (k.wrap (a*2 ^ (min b.toNat k.bits)))⟩
 | .shr,.int k a,.int _ b=>some ⟨0<=b,.int k (a.fdiv (2 ^ (min b.toNat k.bits)))⟩
 | .add,.int k a,.int k' b=>some ⟨k=k',.int k (k.wrap (a+b))⟩
 | .sub,.int k a,.int k' b=>some ⟨k=k',.int k (k.wrap (a - b))⟩
 | .mul,.int k a,.int k' b=>some ⟨k=k',.int k (k.wrap (a*b))⟩
 | .quo,.int k a,.int k' b=>some ⟨k=k'/\b≠0,.int k (k.wrap (a.tdiv b))⟩
 | .rem,.int k a,.int k' b=>some ⟨k=k'/\b≠0,.int k (a.tmod b)⟩
 | .and,.int k a,.int k' b=>some ⟨k=k',.int k (lx .and k a b)⟩
 | .or,.int k a,.int k' b=>some ⟨k=k',.int k (lx .or k a b)⟩
 | .xor,.int k a,.int k' b=>some ⟨k=k',.int k (lx .xor k a b)⟩
 | .andNot,.int k a,.int k' b=>some ⟨k=k',.int k (lx .andNot k a b)⟩
 | .eql,.int k a,.int k' b=>some ⟨k=k',.bool (a==b)⟩
 | .neq,.int k a,.int k' b=>some ⟨k=k',.bool (a !=b)⟩
 | .lss,.int k a,.int k' b=>some ⟨k=k',.bool (decide (a<b))⟩
 | .leq,.int k a,.int k' b=>some ⟨k=k',.bool (decide (a<=b))⟩
 | .gtr,.int k a,.int k' b=>some ⟨k=k',.bool (decide (b<a))⟩
 | .geq,.int k a,.int k' b=>some ⟨k=k',.bool (decide (b<=a))⟩
 | .eql,.string a,.string b=>some ⟨True,.bool (a.toList==b.toList)⟩
 | .neq,.string a,.string b=>some ⟨True,.bool !(a.toList==b.toList)⟩
 | .lss,.string a,.string b=>some ⟨True,.bool (Op.bytesLess a.toList b.toList)⟩
 | .geq,.string a,.string b=>some ⟨True,.bool !(Op.bytesLess a.toList b.toList)⟩
 |_,_,_=>none
def JD(P:Program)(op:BinOp)(t:TypeId)(xs ys:List D):Option (PD D):=
 match op,vH P t,ov xs ys with
 | .eql,some ks,some q=>some ⟨q.1.map jF=ks/\P.eqGuardType P.depth t=false,.s (.bool (gK q.1 q.2))⟩
 | .neq,some ks,some q=>some ⟨q.1.map jF=ks/\P.eqGuardType P.depth t=false,.s (.bool !(gK q.1 q.2))⟩
 |_,_,_=>none
def KL(P:Program)(op:BinOp)(t:TypeId)(x y:D):Option (PD D):=
 match x,y with
 | .s (.bool a),.s (.bool b)=>match op with
  | .eql=>some ⟨sU P t=true,.s (.bool (a==b))⟩
  | .neq=>some ⟨sU P t=true,.s (.bool !(a==b))⟩
  |_=>none
 | .s a,.s b=>(GH op a b).map fun r=> @PD.mk _ r.p r.dec (.s r.d)
 | .agg xs,.agg ys=>JD P op t xs ys
 |_,_=>none
def GI(P:Program)(m:Mem)(op:BinOp)(t:TypeId)(x:D)(y:Operand):Option eW:=
 match y,op,x with
 | .const (.slice none 0 0),.eql,.sl _ n=>some { pre:=bg P t=true,val:=if n=0 then .ub else .s (.bool false) }
 | .const (.pointer none),.eql,.rp i _=>match m i with
  |some _=>some { pre:=wE P t=true,val:=.s (.bool false),rd:=[i] }
  |none=>none
 | .const (.pointer none),.neq,.rp i _=>match m i with
  |some _=>some { pre:=wE P t=true,val:=.s (.bool true),rd:=[i] }
  |none=>none
 |_,_,_=>none
def KM(P:Program)(m:Mem)(t:TypeId):D->Option eW
 | .sl _ n=>some { pre:=bg P t=true,val:=.s (.int .i64 n) }
 | .rs i _ n=>match m i with
  |some _=>some { pre:=bg P t=true,val:=.s (.int .i64 n),rd:=[i] }
  |none=>none
 | .z=>some { pre:=bg P t=true,val:=.s (.int .i64 0) }
 | .s (.string b)=>some { pre:=fO P t=true,val:=.s (.int .i64 b.size) }
 | .agg _=>some { pre:=nP P t=true,val:=.s (.int .i64 (ou P t)) }
 |_=>none
def Ew(m:Mem)(sz:Nat):D->Option (PD (List Nat×Nat×List D))
 | .sl es n=>some ⟨n*sz<=es.length,([],n,es.take (n*sz))⟩
 | .z=>some ⟨True,([],0,[])⟩
 | .rs i off n=>match m i with
  |some (.cells cs _)=>some ⟨off+n*sz<=cs.length,([i],n,(cs.drop off).take (n*sz))⟩
  |_=>none
 |_=>none
def I9(P:Program)(m:Mem)(nx:Nat)(t:TypeId)(s x:D):Option eW:=
 let e:=aF P t
 let sz:=P.cellsOf e
 match Ew m sz x with
 |none=>none
 |some (@PD.mk _ p _ (rd,k,news))=>
  match s with
  | .z=>some { pre:=bg P t=true/\p/\0<sz/\k<=maxLen/\k*P.bytesOf e<=140737488355328,val:=.rs nx 0 k,aT:=[(nx,some (.cells news e))],rd:=rd,new:=1 }
  | .rs i off n=>match m i with
   |some (.cells cs e')=>some { pre:=bg P t=true/\e'=e/\p/\0<sz/\off+n*sz=cs.length/\n+k<=maxLen/\(n+k)*P.bytesOf e<=140737488355328/\i∉rd,val:=.rs nx 0 (n+k),aT:=[(i,none),(nx,some (.cells (cs.drop off++news) e))],rd:=i::rd,new:=1 }
   |_=>none
  |_=>none
def Ja(P:Program)(m:Mem)(t:TypeId)(x k:D)(ok:Bool):Option eW:=match p6 k,x with
 |some key,.mp i=>match m i with
  |some (.map es)=>some { pre:=fL P t=true/\cI P (eB P t) key=true/\es.all (fun e=>cI P (eB P t) e.1)=true,val:=fz P t ok (cQ key es),rd:=[i] }
  |_=>none
 |some key,.im es=>some { pre:=fL P t=true/\cI P (eB P t) key=true/\es.all (fun e=>cI P (eB P t) e.1)=true,val:=fz P t ok (cQ key es) }
 |some key,.s (.map none)=>some { pre:=fL P t=true/\cI P (eB P t) key=true,val:=fz P t ok none }
 |_,_=>none
def EX(P:Program)(m:Mem)(t:TypeId)(x k v:D):Option eW:=match p6 k,x with
 |some key,.mp i=>match m i with
  |some (.map es)=>some { pre:=fL P t=true/\cI P (eB P t) key=true/\es.all (fun e=>cI P (eB P t) e.1)=true,val:=.aM [],aT:=[(i,some (.map (fY key v es)))],rd:=[i] }
  |_=>none
 |_,_=>none
def Jb(P:Program)(m:Mem)(t:TypeId)(x k:D):Option eW:=match p6 k,x with
 |some key,.mp i=>match m i with
  |some (.map es)=>some { pre:=fL P t=true/\cI P (eB P t) key=true/\es.all (fun e=>cI P (eB P t) e.1)=true,val:=.aM [],aT:=[(i,some (.map (sK key es)))],rd:=[i] }
  |_=>none
 |_,_=>none
def EH(P:Program)(m:Mem)(nx:Nat)(b:Builtin)(ts:Array TypeId)(args:List D):Option eW:=
 match b,args with
 | .len,[x]=>KM P m (ts.getD 0 0) x
 | .append,[s,x]=>if ts.getD 0 0=ts.getD 1 0 then I9 P m nx (ts.getD 0 0) s x else none
 | .min,[.s (.int k a),.s (.int k' b)]=>some { pre:=k=k',val:=.s (.int k (if b<a then b else a)) }
 | .clear,[.rs i off n]=>match m i with
  |some (.cells cs e)=>some { pre:=bg P (ts.getD 0 0)=true/\off+n*P.cellsOf e<=cs.length/\e=aF P (ts.getD 0 0),val:=.aM [],aT:=[(i,some (.cells (gB cs off (dz n (a7 P e))) e))],rd:=[i] }
  |_=>none
 | .delete,[x,k]=>Jb P m (ts.getD 0 0) x k
 |_,_=>none
def JE(P:Program)(m:Mem)(t:TypeId)(x:D)(lo hi C:Option D):Option eW:=
 match x with
 | .sl es n=>match dX lo 0,dX hi n,C with
  |some l,some h,none=>some { pre:=bg P t=true/\0<=l/\l<=h/\h<=n,val:=.sl ((es.drop (l.toNat*P.cellsOf (aF P t))).take ((h - l).toNat*P.cellsOf (aF P t))) (h - l).toNat }
  |some l,some h,some d=>match d.int? with
   |some k=>some { pre:=bg P t=true/\hi.isSome=true/\0<=l/\l<=h/\h<=k/\k<=n,val:=.sl ((es.drop (l.toNat*P.cellsOf (aF P t))).take ((h - l).toNat*P.cellsOf (aF P t))) (h - l).toNat }
   |none=>none
  |_,_,_=>none
 | .rs i off n=>match m i with
  |some (.cells _ e)=>match dX lo 0,dX hi n,C with
   |some l,some h,none=>some { pre:=(bg P t=true/\P.cellsOf e=P.cellsOf (aF P t))/\0<=l/\l<=h/\h<=n,val:=.rs i (off+l.toNat*P.cellsOf (aF P t)) (h - l).toNat,rd:=[i] }
   |_,_,_=>none
  |_=>none
 | .s (.string b)=>match dX lo 0,dX hi b.size,C with
  |some l,some h,none=>some { pre:=fO P t=true/\0<=l/\l<=h/\h<=b.size,val:=.s (.string (b.extract l.toNat h.toNat)) }
  |_,_,_=>none
 |_=>none
def jH(P:Program)(o:Op)(ρ:Operand->D)(m:Mem)(nx:Nat):Option eW:=
 match o with
 | .move x=>some { pre:=True,val:=ρ x }
 | .assign x=>some { pre:=True,val:=ρ x }
 | .pick c a b=>match (ρ c).core.eV with
  |some t=>some { pre:=(t=true->(ρ a).ask/\(ρ a).core.eV.isSome=true)/\(t=false->(ρ b).ask/\(ρ b).core.eV.isSome=true),val:=.s (.bool (if t then(ρ a).core.eV.getD false else(ρ b).core.eV.getD false)) }
  |none=>none
 | .alloc t=>some { pre:=aI P t=true,val:=.rp nx 0,aT:=[(nx,some (.cells (a7 P t) t))],new:=1 }
 | .box t x=>some { pre:=(ρ x).cells.all D.one=true,val:=.rp nx 0,aT:=[(nx,some (.cells (ρ x).cells t))],new:=1 }
 | .build t ps=>match P.underlying t with
  |some (.struct fs)=>(gF (fun i=>(fs[i]?).map fun f=>(f.offset,P.cellsOf f.type)) (a7 P t) (ps.toList.map fun q=>(q.1,ρ q.2))).map fun cs=>{ pre:=aI P t=true/\fs.toList.all (fun f=>(P.info? f.type).isSome)=true,val:=.agg cs }
  |some (.array _ e)=>(gF (fun i=>some (i*P.cellsOf e,P.cellsOf e)) (a7 P t) (ps.toList.map fun q=>(q.1,ρ q.2))).map fun cs=>{ pre:=aI P t=true/\aI P e=true,val:=.agg cs }
  |_=>none
 | .buildSlice t n ps=>(gF (fun i=>some (i*P.cellsOf (aF P t),P.cellsOf (aF P t))) (dz n (a7 P (aF P t))) (ps.toList.map fun q=>(q.1,ρ q.2))).map fun cs=>
   { pre:=cs.all D.one=true/\n*P.cellsOf (aF P t)<=2 ^ 24/\bg P t=true/\n<=maxLen,val:=.rs nx 0 n,aT:=[(nx,some (.cells cs (aF P t)))],new:=1 }
 | .load t a=>match ρ a with
  | .pt cs=>some { pre:=aI P t=true/\P.cellsOf t<=cs.length,val:=gE P t cs }
  | .rp i off=>match m i with
   |some (.cells cs _)=>some { pre:=aI P t=true/\off+P.cellsOf t<=cs.length,val:=gE P t (cs.drop off),rd:=[i] }
   |_=>none
  |_=>none
 | .store t a x=>match ρ a with
  | .rp i off=>match m i with
   |some (.cells cs e)=>some { pre:=aI P t=true/\(ρ x).cells.length=P.cellsOf t/\off+P.cellsOf t<=cs.length/\(ρ x).cells.all D.one=true,val:=.aM [],aT:=[(i,some (.cells (gB cs off (ρ x).cells) e))],rd:=[i] }
   |_=>none
  |_=>none
 | .nilCheck x=>match ρ x with
  | .pt cs=>some { pre:=True,val:=.pt cs }
  | .rp i off=>match m i with
   |some _=>some { pre:=True,val:=.rp i off,rd:=[i] }
   |none=>none
  |_=>none
 | .binOp op t x y _=>match GI P m op t (ρ x) y with
  |some e=>some e
  |none=>(KL P op t (ρ x) (ρ y)).map fun r=> @eW.mk r.p r.dec r.d [] [] 0
 | .unOp op _ x=>match ρ x with
  | .s v=>(yN op v).map fun r=>{ pre:=True,val:=.s r }
  |_=>none
 | .convert src dst x=>match P.underlying dst,ρ x with
  |some (.int k),.s (.int _ n)=>some { pre:=aI P src=true,val:=.s (.int k (k.wrap n)) }
  |some (.slice e),.s (.string b)=>match P.underlying e with
   |some (.int .u8)=>some { pre:=fO P src=true/\b.size<=maxLen,val:=.sl (b.data.toList.map fun c=>.s (.int .u8 c.toNat)) b.size }
   |_=>none
  |_,_=>none
 | .makeFunc f fs cs=>some { pre:=True,val:=.fn f (fs.toList.map ρ) (cs.toList.map ρ) }
 | .makeMap _ r=>match r with
  |none=>some { pre:=True,val:=.mp nx,aT:=[(nx,some (.map []))],new:=1 }
  |some _=>none
 | .makeSlice t l c=>match ρ l,ρ c with
  | .s (.int .i64 n),.s (.int .i64 k)=>some { pre:=0<=n/\n=k/\n<=9223372036854775807/\P.bytesOf (aF P t)*n<=281474976710656/\bg P t=true,val:=.rs nx 0 n.toNat,aT:=[(nx,some (.cells (dz n.toNat (a7 P (aF P t))) (aF P t)))],new:=1 }
  |_,_=>none
 | .lookup t x k ok=>Ja P m t (ρ x) (ρ k) ok
 | .mapUpdate t x k v=>EX P m t (ρ x) (ρ k) (ρ v)
 | .insert t x k v=>EX P m t (ρ x) (ρ k) (ρ v)
 | .slice t x lo hi C=>JE P m t (ρ x) (lo.map ρ) (hi.map ρ) (C.map ρ)
 | .fieldAddr t x k=>match cg P t k,ρ x with
  |some (off,ft),.pt cs=>some { pre:=0<P.cellsOf ft,val:=.pt (cs.drop off) }
  |some (off,ft),.rp i o=>match m i with
   |some _=>some { pre:=0<P.cellsOf ft,val:=.rp i (o+off),rd:=[i] }
   |none=>none
  |_,_=>none
 | .field t x k=>match cg P t k,ρ x with
  |some (off,ft),.agg cs=>some { pre:=aI P ft=true/\off+P.cellsOf ft<=cs.length,val:=gE P ft (cs.drop off) }
  |_,_=>none
 | .indexAddr t x i=>match ρ x,ρ i with
  | .sl es n,.s (.int _ k)=>some { pre:=bg P t=true/\0<=k/\k<n/\(k.toNat+1)*P.cellsOf (aF P t)<=es.length,val:=.pt (es.drop (k.toNat*P.cellsOf (aF P t))) }
  | .rs j off n,.s (.int _ k)=>match m j with
   |some _=>some { pre:=bg P t=true/\0<=k/\k<n,val:=.rp j (off+k.toNat*P.cellsOf (aF P t)),rd:=[j] }
   |none=>none
  | .rp j off,.s (.int _ k)=>match m j with
   |some _=>some { pre:=nP P t=true/\0<=k/\k<ou P t,val:=.rp j (off+k.toNat*P.cellsOf (aF P t)),rd:=[j] }
   |none=>none
  |_,_=>none
 | .index t x i=>match ρ x,ρ i with
  | .s (.string b),.s (.int _ k)=>some { pre:=fO P t=true/\0<=k/\k<b.size,val:=.s (.int .u8 (b.data.toList.getD k.toNat 0).toNat) }
  | .agg cs,.s (.int _ k)=>some { pre:=nP P t=true/\0<=k/\k<ou P t/\(k.toNat+1)*P.cellsOf (aF P t)<=cs.length,val:=gE P (aF P t) (cs.drop (k.toNat*P.cellsOf (aF P t))) }
  |_,_=>none
 | .extract x k=>match ρ x with
  | .aM cs=>some { pre:=k<cs.length,val:=cs.getD k .u }
  |_=>none
 | .call c=>match c.callee with
  | .builtin b=>if c.argTypes.size=c.args.size then EH P m nx b c.argTypes (c.args.toList.map ρ) else none
  |_=>none
 |_=>none
theorem aaf(op:BinOp)(x y:Value):q9 op x y=(GH op x y).map fun r=>(r.p,r.d):=by
 cases op<;>cases x<;>first|rfl|(cases y<;>rfl)
theorem Xz(P:Program)(op:BinOp)(t:TypeId)(xs ys:List D):xx P op t xs ys=(JD P op t xs ys).map fun r=>(r.p,r.d):=by
 unfold xx JD;cases op<;>first|rfl|skip
 all_goals cases vH P t<;>first|rfl|skip
 all_goals cases ov xs ys<;>rfl
theorem aag(P:Program)(op:BinOp)(t:TypeId)(x y:D):um P op t x y=(KL P op t x y).map fun r=>(r.p,r.d):=by
 have hs:∀ a b,(q9 op a b).map (fun r=>(r.1,D.s r.2))=((GH op a b).map fun r=> @PD.mk _ r.p r.dec (D.s r.d)).map fun r=>(r.p,r.d):=fun a b=>by
  rw[aaf];cases GH op a b<;>rfl
 cases x with
 |s a=>
  cases y with
  |s b=>
   cases a with
   |bool a=>
    cases b with
    |bool b=>cases op<;>rfl
    |_=>exact hs _ _
   |_=>exact hs _ _
  |_=>cases a<;>rfl
 |agg xs=>
  cases y with
  |agg ys=>exact Xz P op t xs ys
  |_=>rfl
 |_=>rfl
theorem aah(P:Program)(m:Mem)(op:BinOp)(t:TypeId)(x:D)(y:Operand):mG P m op t x y=(GI P m op t x y).map eW.iw:=by
 unfold mG GI;split<;>split<;>simp_all[eW.iw]
 all_goals split<;>simp_all[eW.iw]
theorem aai(P:Program)(m:Mem)(t:TypeId)(x:D):nF P m t x=(KM P m t x).map eW.iw:=by
 unfold nF KM;split<;>first|rfl|skip
 all_goals split<;>simp_all[eW.iw]
theorem Wl(m:Mem)(sz:Nat)(x:D):jx m sz x=(Ew m sz x).map fun r=>(r.p,r.d):=by
 unfold jx Ew;split<;>first|rfl|skip
 all_goals split<;>simp_all
theorem WX(P:Program)(m:Mem)(nx:Nat)(t:TypeId)(s x:D):qP P m nx t s x=(I9 P m nx t s x).map eW.iw:=by
 unfold qP I9;simp only[Wl];cases Ew m (P.cellsOf (aF P t)) x with
 |none=>rfl
 |some r=>
  obtain⟨p,rd,k,news⟩:=r;simp only[Option.map_some];split<;>first|rfl|skip
  all_goals split<;>simp_all[eW.iw]
theorem WY(P:Program)(m:Mem)(t:TypeId)(x k:D)(ok:Bool):n4 P m t x k ok=(Ja P m t x k ok).map eW.iw:=by
 unfold n4 Ja;split<;>first|rfl|skip
 all_goals split<;>simp_all[eW.iw]
theorem N6(P:Program)(m:Mem)(t:TypeId)(x k v:D):nh P m t x k v=(EX P m t x k v).map eW.iw:=by
 unfold nh EX;split<;>first|rfl|skip
 all_goals split<;>simp_all[eW.iw]
theorem WZ(P:Program)(m:Mem)(t:TypeId)(x k:D):rW P m t x k=(Jb P m t x k).map eW.iw:=by
 unfold rW Jb;split<;>first|rfl|skip
 all_goals split<;>simp_all[eW.iw]
theorem WE(P:Program)(m:Mem)(nx:Nat)(b:Builtin)(ts:Array TypeId)(args:List D):fE P m nx b ts args=(EH P m nx b ts args).map eW.iw:=by
 cases b with
 |len=>
  match args with
  |[]=>rfl
  |[x]=>exact aai _ _ _ _
  |_::_::_=>rfl
 |append=>
  match args with
  |[]=>rfl
  |[x]=>rfl
  |[s,x]=>
   simp only[fE,EH];split
   .exact WX _ _ _ _ _ _
   .rfl
  |_::_::_::_=>rfl
 |min=>
  match args with
  |[]=>rfl
  |[x]=>
   cases x with
   |s a=>cases a<;>rfl
   |_=>rfl
  |[x,y]=>
   cases x with
   |s a=>
    cases a with
    |int k a=>
     cases y with
     |s b=>cases b<;>rfl
     |_=>rfl
    |_=>rfl
   |_=>rfl
  |x::y::_::_=>
   cases x with
   |s a=>
    cases a with
    |int k a=>
     cases y with
     |s b=>cases b<;>rfl
     |_=>rfl
    |_=>rfl
   |_=>rfl
 |clear=>
  match args with
  |[]=>rfl
  |[x]=>
   cases x with
   |rs i off n=>
    simp only[fE,EH];cases m i with
    |none=>rfl
    |some r=>cases r<;>rfl
   |_=>rfl
  |x::_::_=>cases x<;>rfl
 |delete=>
  match args with
  |[]=>rfl
  |[x]=>rfl
  |[x,k]=>exact WZ _ _ _ _ _
  |_::_::_::_=>rfl
 |_=>rfl
theorem XA(P:Program)(m:Mem)(t:TypeId)(x:D)(lo hi C:Option D):mv P m t x lo hi C=(JE P m t x lo hi C).map eW.iw:=by
 unfold mv JE;cases x with
 |sl es n=>
  simp only;cases dX lo 0<;>first|rfl|skip
  cases dX hi n<;>first|rfl|skip
  cases C with
  |none=>rfl
  |some d=>
   simp only;cases d.int? <;>rfl
 |rs i off n=>
  simp only;cases m i with
  |none=>rfl
  |some r=>
   cases r<;>first|rfl|skip
   simp only;cases dX lo 0<;>first|rfl|skip
   cases dX hi n<;>first|rfl|skip
   cases C<;>rfl
 |s v=>
  cases v<;>first|rfl|skip
  simp only;cases dX lo 0<;>first|rfl|skip
  rename_i b _;cases dX hi b.size<;>first|rfl|skip
  cases C<;>rfl
 |_=>rfl
theorem QY(P:Program)(o:Op)(ρ:Operand->D)(m:Mem)(nx:Nat):bd P o ρ m nx=(jH P o ρ m nx).map eW.iw:=by
 cases o with
 |call c=>
  simp only[bd,jH];cases c.callee with
  |builtin b=>
   simp only;split
   .exact WE _ _ _ _ _ _
   .rfl
  |_=>rfl
 |binOp op t x y _=>
  simp only[bd,jH,aah,aag];cases GI P m op t (ρ x) y with
  |some e=>rfl
  |none=>
   cases KL P op t (ρ x) (ρ y) with
   |some r=>rfl
   |none=>rfl
 |lookup t x k ok=>exact WY _ _ _ _ _ _
 |mapUpdate t x k v=>exact N6 _ _ _ _ _ _
 |insert t x k v=>exact N6 _ _ _ _ _ _
 |slice t x lo hi J=>exact XA _ _ _ _ _ _ _
 |build t ps=>
  simp only[bd,jH];cases P.underlying t with
  |none=>rfl
  |some u=>
   cases u with
   |struct fs=>simp only;cases gF _ _ _<;>rfl
   |array n e=>simp only;cases gF _ _ _<;>rfl
   |_=>rfl
 |buildSlice t n ps=>
  simp only[bd,jH];cases gF _ _ _<;>rfl
 |unOp op t x=>
  simp only[bd,jH];cases ρ x with
  |s v=>simp only;cases yN op v<;>rfl
  |_=>rfl
 |load t a=>
  simp only[bd,jH];cases ρ a with
  |rp i off=>simp only;cases m i with
   |none=>rfl
   |some r=>cases r<;>rfl
  |_=>rfl
 |store t a x=>
  simp only[bd,jH];cases ρ a with
  |rp i off=>simp only;cases m i with
   |none=>rfl
   |some r=>cases r<;>rfl
  |_=>rfl
 |pick c a b=>
  simp only[bd,jH];cases (ρ c).core.eV <;>rfl
 |nilCheck x=>
  simp only[bd,jH];cases ρ x with
  |rp i off=>simp only;cases m i<;>rfl
  |_=>rfl
 |makeMap t r=>cases r<;>rfl
 |makeSlice t l c=>
  simp only[bd,jH];cases ρ l with
  |s v=>
   cases v with
   |int k n=>
    cases k with
    |i64=>
     cases ρ c with
     |s v=>cases v with
      |int k n=>cases k<;>rfl
      |_=>rfl
     |_=>rfl
    |_=>rfl
   |_=>rfl
  |_=>rfl
 |convert src dst x=>
  simp only[bd,jH];cases P.underlying dst with
  |none=>rfl
  |some u=>
   cases u with
   |int k=>cases ρ x with
    |s v=>cases v<;>rfl
    |_=>rfl
   |slice e=>cases ρ x with
    |s v=>cases v with
     |string b=>
      simp only;cases P.underlying e with
      |none=>rfl
      |some u=>
       cases u with
       |int k=>cases k<;>rfl
       |_=>rfl
     |_=>rfl
    |_=>rfl
   |_=>rfl
 |fieldAddr t x k=>
  simp only[bd,jH];cases cg P t k with
  |none=>rfl
  |some q=>
   obtain⟨off,C⟩:=q;cases ρ x with
   |rp i o=>simp only;cases m i<;>rfl
   |_=>rfl
 |field t x k=>
  simp only[bd,jH];cases cg P t k with
  |none=>rfl
  |some q=>
   obtain⟨off,C⟩:=q;cases ρ x<;>rfl
 |indexAddr t x i=>
  simp only[bd,jH];cases ρ x with
  |sl es n=>cases ρ i with
   |s v=>cases v<;>rfl
   |_=>rfl
  |rs j off n=>cases ρ i with
   |s v=>cases v with
    |int k n=>simp only;cases m j<;>rfl
    |_=>rfl
   |_=>rfl
  |rp j off=>cases ρ i with
   |s v=>cases v with
    |int k n=>simp only;cases m j<;>rfl
    |_=>rfl
   |_=>rfl
  |_=>rfl
 |index t x i=>
  simp only[bd,jH];cases ρ x with
  |s v=>cases v with
   |string b=>cases ρ i with
    |s v=>cases v<;>rfl
    |_=>rfl
   |_=>rfl
  |agg cs=>cases ρ i with
   |s v=>cases v<;>rfl
   |_=>rfl
  |_=>rfl
 |extract x k=>
  simp only[bd,jH];cases ρ x<;>rfl
 |_=>rfl
inductive T(α:Type) where
 |leaf
 |node (v:Option α) (l r:T α)
def T.get{α:Type}:T α->Nat->Option α
 | .leaf,_=>none
 | .node v l r,i=>bif Nat.beq i 0 then v else bif Nat.beq (i % 2) 1 then l.get (i / 2) else r.get (i / 2 - 1)
def T.set{α:Type}:Nat->T α->Nat->Option α->T α
 |0,t,_,_=>t
 |f+1,.leaf,i,v=>bif Nat.beq i 0 then .node v .leaf .leaf else bif Nat.beq (i % 2) 1 then .node none (T.set f .leaf (i / 2) v) .leaf else .node none .leaf (T.set f .leaf (i / 2 - 1) v)
 |f+1,.node v0 l r,i,v=>bif Nat.beq i 0 then .node v l r else bif Nat.beq (i % 2) 1 then .node v0 (T.set f l (i / 2) v) r else .node v0 l (T.set f r (i / 2 - 1) v)
theorem T.tz{α:Type}(v:Option α)(l r:T α)(i:Nat):(T.node v l r).get i=if i=0 then v else if i % 2=1 then l.get (i / 2) else r.get (i / 2 - 1):=by
 simp only[T.get,Bool.cond_eq_ite,Nat.beq_eq]
theorem T.Ch{α:Type}(v:Option α):∀ (f:Nat) (t:T α) (i j:Nat),i+1<2 ^ f->(T.set f t i v).get j=if j=i then v else t.get j
 |0,t,i,j,h=>by simp at h
 |f+1,t,i,j,h=>by
  have h2:2 ^ (f+1)=2*2 ^ f:=by rw[Nat.pow_succ];omega
  have U:i % 2=1->i / 2+1<2 ^ f:=fun _=>by omega
  have X:i≠0->i % 2≠1->i / 2 - 1+1<2 ^ f:=fun _ _=>by omega
  have M:∀ k,(T.leaf:T α).get k=none:=fun k=>rfl;cases t with
  |leaf=>
   simp only[T.set,Bool.cond_eq_ite,Nat.beq_eq];by_cases h0:i=0
   .subst h0;simp only[if_true,T.tz,M];by_cases hj:j=0<;>simp[hj]
   .rw[if_neg h0];by_cases h1:i % 2=1
    .rw[if_pos h1,T.tz,T.Ch v f _ _ _ (U h1)];simp only[M];by_cases hj:j=i
     .subst hj;simp[h0,h1]
     .rw[if_neg hj];by_cases J:j=0
      .rw[if_pos J]
      .rw[if_neg J];by_cases C:j % 2=1
       .rw[if_pos C,if_neg oG]
       .rw[if_neg C]
    .rw[if_neg h1,T.tz,T.Ch v f _ _ _ (X h0 h1)];simp only[M];by_cases hj:j=i
     .subst hj;simp[h0,h1]
     .rw[if_neg hj];by_cases J:j=0
      .rw[if_pos J]
      .rw[if_neg J];by_cases C:j % 2=1
       .rw[if_pos C]
       .rw[if_neg C,if_neg oG]
  |node v0 l r=>
   simp only[T.set,Bool.cond_eq_ite,Nat.beq_eq];by_cases h0:i=0
   .subst h0;simp only[if_true,T.tz];by_cases hj:j=0<;>simp[hj]
   .rw[if_neg h0];by_cases h1:i % 2=1
    .rw[if_pos h1,T.tz,T.tz,T.Ch v f _ _ _ (U h1)];by_cases hj:j=i
     .subst hj;simp[h0,h1]
     .rw[if_neg hj];by_cases J:j=0
      .rw[if_pos J,if_pos J]
      .rw[if_neg J,if_neg J];by_cases C:j % 2=1
       .rw[if_pos C,if_pos C,if_neg oG]
       .rw[if_neg C,if_neg C]
    .rw[if_neg h1,T.tz,T.tz,T.Ch v f _ _ _ (X h0 h1)];by_cases hj:j=i
     .subst hj;simp[h0,h1]
     .rw[if_neg hj];by_cases J:j=0
      .rw[if_pos J,if_pos J]
      .rw[if_neg J,if_neg J];by_cases C:j % 2=1
       .rw[if_pos C,if_pos C]
       .rw[if_neg C,if_neg C,if_neg oG]
def T.put{α:Type}(t:T α)(i:Nat)(v:Option α):Option (T α):=bif Nat.blt i 1000000 then some (T.set 20 t i v) else none
theorem T.QZ{α:Type}{t C:T α}{i:Nat}{v:Option α}(h:t.put i v=some C)(j:Nat):C.get j=if j=i then v else t.get j:=by
 unfold T.put at h;cases hb:Nat.blt i 1000000 with
 |false=>rw[hb] at h;cases h
 |true=>
  rw[hb] at h;simp only[cond_true,aH] at h;subst h;have:i<1000000:=by simpa using hb
  exact T.Ch v 20 t i j oG
structure cS where
 env:T D
 mem:T Row
 nx:Nat
def dB(t:T D):Env:=fun i=>(t.get i).getD .u
def fZ(t:T Row):Mem:=fun i=>t.get i
def cS.st(c:cS):St:=⟨dB c.env,fZ c.mem,c.nx⟩
theorem Jc{t C:T D}{i:Nat}{d:D}(h:t.put i (some d)=some C):dB C=up (dB t) i d:=by
 funext j;simp only[dB,T.QZ h,B5];split<;>rfl
theorem P5{t C:T Row}{i:Nat}{r:Option Row}(h:t.put i r=some C):fZ C=up (fZ t) i r:=by
 funext j;simp only[fZ,T.QZ h,B5]
def AL(t:T D):Option Nat->D->Option (T D)
 |none,_=>some t
 |some i,d=>t.put i (some d)
def Dn(m:T Row):List (Nat×Option Row)->Option (T Row)
 |[]=>some m
 |(i,r)::us=>match m.put i r with
  |some m'=>Dn m' us
  |none=>none
theorem JF{t C:T D}{dst:Option Nat}{d:D}(h:AL t dst d=some C)(m:Mem)(nx:Nat):(⟨dB C,m,nx⟩:St)=St.put ⟨dB t,m,nx⟩ dst d:=by
 cases dst with
 |none=>simp only[AL,aH] at h;subst h;rfl
 |some i=>simp only[AL] at h;simp only[St.put,Jc h]
theorem P6:∀ {us:List (Nat×Option Row)} {m m':T Row},Dn m us=some m'->fZ m'=cH (fZ m) us
 |[],m,m',h=>by simp only[Dn,aH] at h;subst h;rfl
 |(i,r)::us,m,m',h=>by
  simp only[Dn] at h;cases hp:m.put i r with
  |none=>rw[hp] at h;cases h
  |some C=>
   rw[hp] at h;simp only at h;rw[P6 h,P5 hp];rfl
def qq:Nat->D->Bool
 |0,_=>false
 |n+1,d=>match d with
  | .rs .. | .rp .. | .mp _ | .sc .. =>false
  | .cw _ d=>qq n d
  | .agg cs | .aM cs | .pt cs | .sl cs _=>cs.all (qq n)
  | .fn _ fs cs=>fs.all (qq n)&&cs.all (qq n)
  | .im es=>es.all fun x=>qq n x.2
  |_=>true
section
variable{P:Program}{F:Nat->Prop}{β:aE}{w:World}
theorem pI:∀ {n:Nat} {d:D},qq n d=true->Tr d
 |0,_,h=>by cases h
 |n+1,d,h=>by
  cases d with
  |rs=>cases h
  |rp=>cases h
  |mp=>cases h
  |sc=>cases h
  |cw c d=>exact .cw (pI h)
  |agg cs=>exact .agg fun d hd=>pI (bV.1 h d hd)
  |aM cs=>exact .aM fun d hd=>pI (bV.1 h d hd)
  |sl cs n=>exact .sl fun d hd=>pI (bV.1 h d hd)
  |pt cs=>exact .pt fun d hd=>pI (bV.1 h d hd)
  |fn f fs cs=>
   simp only[qq,ba] at h;exact .fn (fun d hd=>pI (bV.1 h.1 d hd)) fun d hd=>pI (bV.1 h.2 d hd)
  |im es=>exact .im fun x hx=>pI (bV.1 h x hx)
  |s v=>exact .s v
  |ub=>exact .ub
  |u=>exact .u
  |z=>exact .z
def gY{α β:Type}(f:α->Option (β×List Nat)):List α->Option (List β×List Nat)
 |[]=>some ([],[])
 |x::xs=>match f x with
  |none=>none
  |some y=>match gY f xs with
   |none=>none
   |some ys=>some (y.1::ys.1,y.2++ys.2)
theorem EI{α β:Type}{f:α->Option (β×List Nat)}:∀ {xs:List α} {ys:List β} {r:List Nat},gY f xs=some (ys,r)->
 ys.length=xs.length/\(∀ (k:Nat) (y:β),ys[k]? =some y->∃ x r',xs[k]? =some x/\f x=some (y,r')/\∀ i∈r',i∈r)
 |[],ys,r,h=>by simp only[gY,aH,bP] at h;obtain⟨rfl,rfl⟩:=h;simp
 |x::xs,ys,r,h=>by
  simp only[gY] at h;cases hx:f x with
  |none=>rw[hx] at h;cases h
  |some y=>
   rw[hx] at h;simp only at h;cases C:gY f xs with
   |none=>rw[C] at h;cases h
   |some J=>
    rw[C] at h;simp only[aH,bP] at h;obtain⟨rfl,rfl⟩:=h;obtain⟨h1,h2⟩:=EI (ys:=J.1) (r:=J.2) C;refine⟨by simp[h1],fun k z hz=>?_⟩;cases k with
    |zero=>
     simp only[List.getElem?_cons_zero,aH] at hz;subst hz;exact⟨x,y.2,rfl,hx,fun i hi=>by simp[hi]⟩
    |succ k=>
     obtain⟨x',r',M,U,X⟩:=h2 k z (by simpa using hz);exact⟨x',r',by simpa using M,U,fun i hi=>by simp[X i hi]⟩
def cG(P:Program)(m:Mem):Nat->D->Option (D×List Nat)
 |0,_=>none
 |n+1,d=>match d with
  | .mp i=>match m i with
   |some (.map es)=>(gY (fun x=>(cG P m n x.2).map fun y=>((x.1,y.1),y.2)) es).map fun x=>(.im x.1,i::x.2)
   |_=>none
  | .im es=>(gY (fun x=>(cG P m n x.2).map fun y=>((x.1,y.1),y.2)) es).map fun x=>(.im x.1,x.2)
  | .rs i off k=>match m i with
   |some (.cells cs e)=>(gY (cG P m n) ((cs.drop off).take (k*P.cellsOf e))).map fun x=>(.sl x.1 k,i::x.2)
   |_=>none
  | .rp i off=>match m i with
   |some (.cells cs _)=>(gY (cG P m n) (cs.drop off)).map fun x=>(.pt x.1,i::x.2)
   |_=>none
  | .cw true d=>(cG P m n d).map fun x=>(.cw true x.1,x.2)
  | .cw false _=>some (.cw false .u,[])
  | .agg cs=>(gY (cG P m n) cs).map fun x=>(.agg x.1,x.2)
  | .aM cs=>(gY (cG P m n) cs).map fun x=>(.aM x.1,x.2)
  | .sl cs k=>(gY (cG P m n) cs).map fun x=>(.sl x.1 k,x.2)
  | .pt cs=>(gY (cG P m n) cs).map fun x=>(.pt x.1,x.2)
  | .fn f fs cs=>match gY (cG P m n) fs with
   |none=>none
   |some x=>(gY (cG P m n) cs).map fun y=>(.fn f x.1 y.1,x.2++y.2)
  | .s v=>some (.s v,[])
  | .ub=>some (.ub,[])
  | .u=>some (.u,[])
  | .z=>some (.z,[])
  | .sc .. =>none
theorem qK{α β:Type}{f:α->Option (β×List Nat)}{xs:List α}{ys:List β}{r:List Nat}(h:gY f xs=some (ys,r)){p:β->Prop}(hp:∀ x y r',f x=some (y,r')->p y):∀ y∈ys,p y:=fun y hy=>by
 obtain⟨k,hk⟩:=ep hy;obtain⟨x,r',_,h2,_⟩:=(EI h).2 k y hk;exact hp x y r' h2
theorem Fm{m:Mem}:∀ {n:Nat} {d d':D} {r:List Nat},cG P m n d=some (d',r)->Tr d'
 |0,_,_,_,h=>by cases h
 |n+1,d,d',r,h=>by
  have ih:∀ x y r',cG P m n x=some (y,r')->Tr y:=fun x y r' h=>Fm h
  have C:∀ (x:Value×D) (y:Value×D) r',(cG P m n x.2).map (fun y=>((x.1,y.1),y.2))=some (y,r')->Tr y.2:=fun x y r' h=>by
   simp only[cU,bP] at h;obtain⟨z,hz,rfl,_⟩:=h;exact Fm (r:=z.2) hz
  cases d with
  |sc=>cases h
  |mp i=>
   simp only[cG] at h;split at h
   .simp only[cU,bP] at h;obtain⟨x,hx,rfl,_⟩:=h;exact .im (qK (ys:=x.1) (r:=x.2) hx C)
   .cases h
  |im es=>
   simp only[cG,cU,bP] at h;obtain⟨x,hx,rfl,_⟩:=h;exact .im (qK (ys:=x.1) (r:=x.2) hx C)
  |rs i off k=>
   simp only[cG] at h;split at h
   .simp only[cU,bP] at h;obtain⟨x,hx,rfl,_⟩:=h;exact .sl (qK (ys:=x.1) (r:=x.2) hx ih)
   .cases h
  |rp i off=>
   simp only[cG] at h;split at h
   .simp only[cU,bP] at h;obtain⟨x,hx,rfl,_⟩:=h;exact .pt (qK (ys:=x.1) (r:=x.2) hx ih)
   .cases h
  |cw c d=>
   cases c with
   |true=>
    simp only[cG,cU,bP] at h;obtain⟨x,hx,rfl,_⟩:=h;exact .cw (Fm (r:=x.2) hx)
   |false=>simp only[cG,aH,bP] at h;obtain⟨rfl,_⟩:=h;exact .cw .u
  |agg cs=>
   simp only[cG,cU,bP] at h;obtain⟨x,hx,rfl,_⟩:=h;exact .agg (qK (ys:=x.1) (r:=x.2) hx ih)
  |aM cs=>
   simp only[cG,cU,bP] at h;obtain⟨x,hx,rfl,_⟩:=h;exact .aM (qK (ys:=x.1) (r:=x.2) hx ih)
  |sl cs k=>
   simp only[cG,cU,bP] at h;obtain⟨x,hx,rfl,_⟩:=h;exact .sl (qK (ys:=x.1) (r:=x.2) hx ih)
  |pt cs=>
   simp only[cG,cU,bP] at h;obtain⟨x,hx,rfl,_⟩:=h;exact .pt (qK (ys:=x.1) (r:=x.2) hx ih)
  |fn f fs cs=>
   simp only[cG] at h;cases hx:gY (cG P m n) fs with
   |none=>rw[hx] at h;cases h
   |some x=>
    rw[hx] at h;simp only[cU,bP] at h;obtain⟨y,hy,rfl,_⟩:=h;exact .fn (qK (ys:=x.1) (r:=x.2) hx ih) (qK (ys:=y.1) (r:=y.2) hy ih)
  |s v=>simp only[cG,aH,bP] at h;obtain⟨rfl,_⟩:=h;exact .s v
  |ub=>simp only[cG,aH,bP] at h;obtain⟨rfl,_⟩:=h;exact .ub
  |u=>simp only[cG,aH,bP] at h;obtain⟨rfl,_⟩:=h;exact .u
  |z=>simp only[cG,aH,bP] at h;obtain⟨rfl,_⟩:=h;exact .z
def Looks(P:Program)(F:Nat->Prop)(β:aE)(w:World)(m:Mem)(rds:List Nat):Prop:=∀ i∈rds,∀ r,m i=some r->∃ p,β i=some p/\cB P F β w r p/\∀ b,p.bG=some b->¬ F b
theorem zy(b:Nat):gz.free b:=fun i p hp=>by cases hp
theorem Cz{m:Mem}:∀ {n:Nat} {d d':D} {r:List Nat},cG P m n d=some (d',r)->Looks P F β w m r->∀ {v:Value},R F β w d v->R F gz w d' v
 |0,_,_,_,h,_,_,_=>by cases h
 |n+1,d,d',r,h,hl,v,hv=>by
  have many:∀ {xs ys:List D} {r':List Nat},gY (cG P m n) xs=some (ys,r')->(∀ i∈r',i∈r)->ys.length=xs.length/\∀ (k:Nat) (d:D) (u:Value),ys[k]? =some d->(∀ M,xs[k]? =some M->R F β w M u)->R F gz w d u:=fun h hr=>by
   obtain⟨h1,h2⟩:=EI h;refine⟨h1,fun k d u hd hu=>?_⟩;obtain⟨x,r2,C,J,X⟩:=h2 k d hd;exact Cz J (fun i hi=>hl i (hr i (X i hi))) (hu x C)
  have look:∀ {i:Nat} {cs:List D} {e:TypeId},i∈r->m i=some (.cells cs e)->∃ p,β i=some p/\cB P F β w (.cells cs e) p/\∀ b,p.bG=some b->¬ F b:=fun hi hm=>hl _ hi _ hm
  have TR:∀ {es ys:List (Value×D)} {r':List Nat} {ms:Array MapEntry},gY (fun x=>(cG P m n x.2).map fun y=>((x.1,y.1),y.2)) es=some (ys,r')->(∀ i∈r',i∈r)->ms.size=es.length->(es.map (·.1)).Nodup->
   (∀ (k:Nat) (x:Value×D) (m:MapEntry),es[k]? =some x->ms[k]? =some m->m.key=x.1/\R F β w x.2 m.val)->
   ms.size=ys.length/\(ys.map (·.1)).Nodup/\(∀ (k:Nat) (x:Value×D) (m:MapEntry),ys[k]? =some x->ms[k]? =some m->m.key=x.1)/\∀ (k:Nat) (x:Value×D) (m:MapEntry),ys[k]? =some x->ms[k]? =some m->R F gz w x.2 m.val:=fun {es ys r' ms} h hr bC dZ hh=>by
   obtain⟨h1,h2⟩:=EI h
   have key:∀ (k:Nat) (y:Value×D),ys[k]? =some y->∃ x r2,es[k]? =some x/\y.1=x.1/\cG P m n x.2=some (y.2,r2)/\∀ i∈r2,i∈r':=fun k y hy=>by
    obtain⟨x,r2,C,J,X⟩:=h2 k y hy;simp only[cU,bP] at J;obtain⟨z,hz,rfl,rfl⟩:=J;exact⟨x,z.2,C,rfl,hz,X⟩
   have keys:ys.map (·.1)=es.map (·.1):=by
    refine List.ext_getElem? fun k=>?_;simp only[List.getElem?_map];cases hy:ys[k]? with
    |some y=>
     obtain⟨x,_,C,J,_⟩:=key k y hy;simp[C,J]
    |none=>
     have:es[k]? =none:=by
      rw[List.getElem?_eq_none_iff] at hy ⊢;omega
     simp[this]
   refine⟨by rw[h1];exact bC,by rw[keys];exact dZ,fun k y mm hy fa=>?_,fun k y mm hy fa=>?_⟩
   .obtain⟨x,r2,C,J,_⟩:=key k y hy;rw[J];exact(hh k x mm C fa).1
   .obtain⟨x,r2,C,_,X,g4⟩:=key k y hy;exact Cz X (fun i hi=>hl i (hr i (g4 i hi))) (hh k x mm C fa).2
  cases d with
  |sc=>cases h
  |mp i=>
   simp only[cG] at h;split at h
   .rename_i es hm;simp only[cU,bP] at h;obtain⟨x,hx,rfl,rfl⟩:=h;obtain⟨p,hp,aq,oK⟩:=hl i (List.mem_cons_self ..) _ hm;cases hv with
    |yM _ _ h1 _=>rw[h1] at hp;cases hp;exact absurd rfl aq.live
    |mp _ b h1=>
     rw[h1] at hp;cases hp;cases aq with
     |map _ _ ms clock C J X g4=>
      obtain⟨k1,k2,k3,k4⟩:=TR (ys:=x.1) (r':=x.2) hx (fun i hi=>List.mem_cons_of_mem _ hi) J X g4;exact .im x.1 b ms clock (oK b rfl) (zy b) C k1 k2 k3 k4
   .cases h
  |im es=>
   simp only[cG,cU,bP] at h;obtain⟨x,hx,rfl,rfl⟩:=h;cases hv with
   |im _ b ms clock hf hb hc J X g4 g5=>
    obtain⟨k1,k2,k3,k4⟩:=TR (ys:=x.1) (r':=x.2) hx (fun _ h=>h) J X (fun k x m hx hm=>⟨g4 k x m hx hm,g5 k x m hx hm⟩);exact .im x.1 b ms clock hf (zy b) hc k1 k2 k3 k4
  |rs i off k=>
   simp only[cG] at h;split at h
   .rename_i cs e hm;simp only[cU,bP] at h;obtain⟨x,hx,rfl,rfl⟩:=h;obtain⟨p,hp,aq,oK⟩:=look (List.mem_cons_self ..) hm;obtain⟨C,J⟩:=many (ys:=x.1) (r':=x.2) hx (fun i hi=>List.mem_cons_of_mem _ hi)
    have nil:(cs.drop off).take (k*P.cellsOf e)=[]->x.1=[]:=fun e=>by
     rw[e] at C;exact List.eq_nil_of_length_eq_zero (by simpa using C)
    cases hv with
    |kG _ _ _ _ h1 _=>
     rw[h1] at hp;cases hp;exact absurd rfl aq.live
    |iO _ a h1=>
     rw[h1] at hp;cases hp;cases aq;rw[nil oS];exact .gg a 0
    |jK _ _ a b o len room sz h1=>
     rw[nil oS];exact .gg a 0
    |rs _ _ _ cap b o len room sz h1 hn dh h2 h3=>
     rw[h1] at hp;cases hp;obtain⟨dp,hl,bC,_⟩:=aq.rd;obtain⟨us,u1,u2⟩:=(dp.drop off).take (k*P.cellsOf e)
     have ah:b<w.heap.size:=by
      cases aq with
      |cells _ _ _ _ _ _ c hb=>exact(Array.getElem?_eq_some_iff.1 hb).1
     exact .sl x.1 k b (o+off) cap us (oK b rfl) (zy b) ah hn dh (fun j hj=>u1 j (by rw[<- C];exact hj)) fun j d hd=>J j d _ hd fun M U=>u2 j M U
   .cases h
  |rp i off=>
   simp only[cG] at h;split at h
   .rename_i cs e hm;simp only[cU,bP] at h;obtain⟨x,hx,rfl,rfl⟩:=h;obtain⟨p,hp,aq,oK⟩:=look (List.mem_cons_self ..) hm;obtain⟨C,J⟩:=many (ys:=x.1) (r':=x.2) hx (fun i hi=>List.mem_cons_of_mem _ hi);cases hv with
    |qk _ _ _ h1 _=>
     rw[h1] at hp;cases hp;exact absurd rfl aq.live
    |rp _ _ b o len room sz h1=>
     rw[h1] at hp;cases hp;obtain⟨dp,hl,bC,_⟩:=aq.rd;obtain⟨us,u1,u2⟩:=dp.drop off
     have ah:b<w.heap.size:=by
      cases aq with
      |cells _ _ _ _ _ _ c hb=>exact(Array.getElem?_eq_some_iff.1 hb).1
     exact .pt x.1 b (o+off) us (oK b rfl) (zy b) ah (fun j hj=>u1 j (by rw[<- C];exact hj)) fun j d hd=>J j d _ hd fun M U=>u2 j M U
   .cases h
  |cw c d=>
   cases hv with
   |cw _ _ _ h1 h2=>
   cases c with
   |true=>
    simp only[cG,cU,bP] at h;obtain⟨x,hx,rfl,rfl⟩:=h;exact .cw true _ v (fun _=>Cz (r:=x.2) hx hl (h1 rfl)) oS
   |false=>simp only[cG,aH,bP] at h;obtain⟨rfl,_⟩:=h;exact .cw false _ v oS h2
  |agg cs=>
   simp only[cG,cU,bP] at h;obtain⟨x,hx,rfl,rfl⟩:=h;obtain⟨vs,rfl,oF,hh⟩:=hv.rV;obtain⟨C,J⟩:=many (ys:=x.1) (r':=x.2) hx (fun _ h=>h);exact .agg _ vs (by rw[C];exact oF) fun k d u hd hu=>J k d u hd fun M U=>hh k M u U hu
  |aM cs=>
   simp only[cG,cU,bP] at h;obtain⟨x,hx,rfl,rfl⟩:=h;obtain⟨vs,rfl,oF,hh⟩:=hv.Cd;obtain⟨C,J⟩:=many (ys:=x.1) (r':=x.2) hx (fun _ h=>h);exact .aM _ vs (by rw[C];exact oF) fun k d u hd hu=>J k d u hd fun M U=>hh k M u U hu
  |sl cs k=>
   simp only[cG,cU,bP] at h;obtain⟨x,hx,rfl,rfl⟩:=h;obtain⟨C,J⟩:=many (ys:=x.1) (r':=x.2) hx (fun _ h=>h);cases hv with
   |gg a cap=>
    have:x.1=[]:=List.eq_nil_of_length_eq_zero (by simpa using C);rw[this];exact .gg a cap
   |sl _ _ b o cap us hf hb ah ot dh hc hh=>
    exact .sl _ k b o cap us hf (zy b) ah ot dh (fun j hj=>hc j (by rw[<- C];exact hj)) fun j d hd=>J j d _ hd fun M U=>hh j M U
  |pt cs=>
   simp only[cG,cU,bP] at h;obtain⟨x,hx,rfl,rfl⟩:=h;obtain⟨C,J⟩:=many (ys:=x.1) (r':=x.2) hx (fun _ h=>h);cases hv with
   |pt _ b o us hf hb ah hc hh=>
    exact .pt _ b o us hf (zy b) ah (fun j hj=>hc j (by rw[<- C];exact hj)) fun j d hd=>J j d _ hd fun M U=>hh j M U
  |fn f fs cs=>
   simp only[cG] at h;cases hx:gY (cG P m n) fs with
   |none=>rw[hx] at h;cases h
   |some x=>
    rw[hx] at h;simp only[cU,bP] at h;obtain⟨y,hy,rfl,rfl⟩:=h;obtain⟨C,J⟩:=many (ys:=x.1) (r':=x.2) hx (fun _ h=>List.mem_append_left _ h);obtain⟨k1,k2⟩:=many (ys:=y.1) (r':=y.2) hy (fun _ h=>List.mem_append_right _ h);cases hv with
    |fn _ _ _ us vs yJ oF h1 h2=>
     exact .fn f _ _ us vs (by rw[C];exact yJ) (by rw[k1];exact oF) (fun k d u hd hu=>J k d u hd fun M U=>h1 k M u U hu) fun k d u hd hu=>k2 k d u hd fun M U=>h2 k M u U hu
  |s v=>simp only[cG,aH,bP] at h;obtain⟨rfl,_⟩:=h;obtain⟨rfl,h⟩:=hv.cX;exact .s _ h
  |ub=>simp only[cG,aH,bP] at h;obtain⟨rfl,_⟩:=h;obtain⟨b,rfl⟩:=hv.F5;exact .ub b
  |u=>simp only[cG,aH,bP] at h;obtain⟨rfl,_⟩:=h;exact .u v
  |z=>simp only[cG,aH,bP] at h;obtain⟨rfl,_⟩:=h;obtain⟨a,rfl⟩:=hv.tY;exact .z a
end
section
variable(P:Program)
def vJ(env:Env)(o:Op):Bool:=match o with
 | .pick c _ _=>decide (opd env c).ask
 |o=>o.operands.toList.all fun x=>decide (opd env x).ask
theorem Iw{env:Env}{o:Op}(h:vJ env o=true):asks env o:=by
 unfold vJ at h;unfold asks;cases o<;>first|exact of_decide_eq_true h|exact fun x hx=>of_decide_eq_true (bV.1 h x hx)
abbrev sG:=FuncId->List D->Bool->T Row->Nat->Option (D×T Row×Nat×List Nat×List Nat)
def Fo(call:sG)(f:FuncId)(args:List D)(dr:Bool)(o:Oper)(c:cS):Option (cS×List Nat×List Nat):=
 bif vJ (dB c.env) o.op then match call f args dr c.mem c.nx with
  |some (r,m,nx,rd,wr)=>match AL c.env o.dst r with
   |some env=>some (⟨env,m,nx⟩,rd,wr)
   |none=>none
  |none=>none
 else none
def G6(e:eW)(o:Oper)(c:cS):Option (cS×List Nat×List Nat):=
 bif vJ (dB c.env) o.op then match e.dec with
  |isTrue _=>match Dn c.mem e.aT with
   |some m=>match AL c.env o.dst e.val with
    |some env=>some (⟨env,m,c.nx+e.new⟩,e.rd,e.aT.map (·.1))
    |none=>none
   |none=>none
  |isFalse _=>none
 else none
def vK(o:Oper)(d:D)(rd:List Nat)(c:cS):Option (cS×List Nat×List Nat):=match AL c.env o.dst d with
 |some env=>some (⟨env,c.mem,c.nx⟩,rd,[])
 |none=>none
def Mt(call:sG)(ops:Array Oper)(dr:Bool)(o:Oper)(c:cS):Option (cS×List Nat×List Nat):=
 match o.guard with
 |none=>match dI (aZ (dB c.env) o.op) o.op with
  |some (f,args)=>Fo call f args dr o c
  |none=>match kU (aZ (dB c.env) o.op) o.op with
   |some _=>none
   |none=>match jH P o.op (aZ (dB c.env) o.op) (fZ c.mem) c.nx with
    |some e=>G6 e o c
    |none=>none
 |some (j,b)=>match ((ops[j]?).bind (·.dst)).bind fun t=>jV (dB c.env t) b with
  |none=>none
  |some g=>match dI (aZ (dB c.env) o.op) o.op with
   |some (f,args)=>bif g then Fo call f args dr o c else vK o ua [] c
   |none=>match kU (aZ (dB c.env) o.op) o.op with
    |some _=>bif g then none else vK o ua [] c
    |none=>match jH P o.op (aZ (dB c.env) o.op) (fZ c.mem) c.nx with
     |some e=>bif e.aT.isEmpty&&Nat.beq e.new 0 then
      bif g then bif vJ (dB c.env) o.op then match e.dec with
       |isTrue _=>vK o (.cw true e.val) e.rd c
       |isFalse _=>none
      else none
      else vK o (.cw false e.val) e.rd c
      else bif g then G6 e o c else vK o ua [] c
     |none=>bif g then none else vK o ua [] c
def AM(call:sG)(ops:Array Oper)(dr:Bool):List Oper->cS->jN->Option (cS×jN)
 |[],c,tr=>some (c,tr)
 |o::os,c,tr=>match Mt P call ops dr o c with
  |some (c',rd,wr)=>AM call ops dr os c' (tr++[(rd,wr)])
  |none=>none
def Gd(tr:jN)(i j:Nat):Bool:=
 let a:=tr.getD i ([],[])
 let b:=tr.getD j ([],[])
 (a.2.all fun x=> !(b.1.any (Nat.beq x))&& !(b.2.any (Nat.beq x)))&&b.2.all fun x=> !(a.1.any (Nat.beq x))
theorem aaj{tr:jN}{i j:Nat}(h:Gd tr i j=true):pH tr i j:=by
 unfold Gd at h;simp only[ba,bV,Bool.not_eq_true',List.any_eq_false,Nat.beq_eq] at h;obtain⟨h1,h2⟩:=h;exact⟨fun x hx=>⟨fun hb=>(h1 x hx).1 x hb rfl,fun hb=>(h1 x hx).2 x hb rfl⟩,fun x hx ha=>h2 x hx x ha rfl⟩
def JG(call:sG)(ops:Array Oper)(dr:Bool)(c:cS):Option cS:=
 bif dr then match bR ops with
  |some cf=>match AM P call ops true ops.toList c [] with
   |some (c',tr)=>bif cf.all fun q=>Gd tr q.1 q.2 then some c' else none
   |none=>none
  |none=>none
 else match AM P call ops false ops.toList c [] with
  |some (c',_)=>some c'
  |none=>none
def CA(call:sG):Prop:=∀ f args dr m nx r m' C rd wr,call f args dr m nx=some (r,m',C,rd,wr)->∀ env (K:D->Mem->Nat->List Nat->List Nat->Prop),K r (fZ m') C rd wr->sf P dr ⟨env,fZ m,nx⟩ f args K
end
section
variable{P:Program}
theorem Ow{call:sG}(hc:CA P call){f:FuncId}{args:List D}{dr:Bool}{o:Oper}{c:cS}{C:cS}{rd wr:List Nat}(h:Fo call f args dr o c=some (C,rd,wr)){K:St->List Nat->List Nat->Prop}(J:K C.st rd wr):
 asks c.st.env o.op/\sf P dr c.st f args fun r m nx rd wr=>K (St.put ⟨c.st.env,m,nx⟩ o.dst r) rd wr:=by
 unfold Fo at h;cases ha:vJ (dB c.env) o.op with
 |false=>rw[ha] at h;cases h
 |true=>
  rw[ha] at h;simp only[cond_true] at h;refine⟨Iw ha,?_⟩;split at h
  .rename_i r m nx Mu U M;split at h
   .rename_i env X;simp only[aH,bP] at h;obtain⟨rfl,rfl,rfl⟩:=h;refine hc _ _ _ _ _ _ _ _ _ _ M _ _ ?_;have:=JF X (fZ m) nx;simp only[cS.st] at J ⊢;rw[<- this];exact J
   .cases h
  .cases h
theorem zF{o:Oper}{d:D}{rd C wr:List Nat}{c J:cS}(h:vK o d rd c=some (J,C,wr)):J.st=St.put c.st o.dst d/\C=rd/\wr=[]:=by
 unfold vK at h;split at h
 .rename_i env M;simp only[aH,bP] at h;obtain⟨rfl,rfl,rfl⟩:=h;exact⟨JF M (fZ c.mem) c.nx,rfl,rfl⟩
 .cases h
theorem P7{e:eW}{o:Oper}{c C:cS}{rd wr:List Nat}(h:G6 e o c=some (C,rd,wr)){K:St->List Nat->List Nat->Prop}(J:K C.st rd wr):
 asks c.st.env o.op/\e.pre/\K (St.put ⟨c.st.env,cH c.st.mem e.aT,c.st.nx+e.new⟩ o.dst e.val) e.rd (e.aT.map (·.1)):=by
 unfold G6 at h;cases ha:vJ (dB c.env) o.op with
 |false=>rw[ha] at h;cases h
 |true=>
  rw[ha] at h;simp only[cond_true] at h;refine⟨Iw ha,?_⟩;split at h
  .rename_i hp _;refine⟨hp,?_⟩;split at h
   .rename_i m hm;split at h
    .rename_i env M;simp only[aH,bP] at h;obtain⟨rfl,rfl,rfl⟩:=h;have:=JF M (fZ m) (c.nx+e.new);simp only[cS.st] at J ⊢;rw[<- P6 hm, <- this];exact J
    .cases h
   .cases h
  .cases h
theorem Pf{o:Op}{ρ:Operand->D}{m:Mem}{nx:Nat}{e:eW}(h:jH P o ρ m nx=some e):bd P o ρ m nx=some e.iw:=by rw[QY,h];rfl
theorem YG{o:Op}{ρ:Operand->D}{m:Mem}{nx:Nat}(h:jH P o ρ m nx=none):bd P o ρ m nx=none:=by rw[QY,h];rfl
theorem ade{call:sG}(mA:CA P call){ops:Array Oper}{dr:Bool}{o:Oper}{c c':cS}{rd wr:List Nat}(h:Mt P call ops dr o c=some (c',rd,wr)){K:St->List Nat->List Nat->Prop}(C:K c'.st rd wr):
 iS P cZ ops dr o c.st K:=by
 unfold Mt at h;unfold iS;split at h
 .rename_i hg;simp only[hg];split at h
  .rename_i f args hc;obtain⟨h1,h2⟩:=Ow mA h C;refine⟨h1,?_⟩;simp only[cS.st] at h2 ⊢;rw[hc];exact h2
  .rename_i hc;split at h
   .cases h
   .rename_i hy;split at h
    .rename_i e he;obtain⟨h1,h2,h3⟩:=P7 h C;refine⟨h1,?_⟩;have:=Pf he;simp only[cS.st] at h2 h3 ⊢;rw[hc];simp only;rw[hy];simp only;rw[this];exact⟨h2,h3⟩
    .cases h
 .rename_i j b hg;simp only[hg];split at h
  .cases h
  .rename_i g hgc;have U:(((ops[j]?).bind (·.dst)).bind fun t=>jV (c.st.env t) b)=some g:=hgc;rw[U];simp only;split at h
   .rename_i f args hc;have wH:dI (aZ c.st.env o.op) o.op=some (f,args):=hc;rw[wH];simp only;cases g with
    |true=>
     simp only[cond_true] at h;exact .inr ⟨fun _=>Ow mA h C,oS⟩
    |false=>
     simp only[cond_false] at h;obtain⟨h1,rfl,rfl⟩:=zF h;exact .inr ⟨oS,fun _=>h1▸C⟩
   .rename_i hc;have wH:dI (aZ c.st.env o.op) o.op=none:=hc;rw[wH];simp only;split at h
    .rename_i y hy;have M:kU (aZ c.st.env o.op) o.op=some y:=hy;rw[M];obtain⟨l,args⟩:=y;cases g with
     |true=>simp at h
     |false=>
      simp only[cond_false] at h;obtain⟨h1,rfl,rfl⟩:=zF h;exact⟨oS,fun _=>h1▸C⟩
    .rename_i hy;have M:kU (aZ c.st.env o.op) o.op=none:=hy;rw[M];simp only;split at h
     .rename_i e he;have X:bd P o.op (aZ c.st.env o.op) c.st.mem c.st.nx=some e.iw:=Pf he;rw[X];cases J:(e.aT.isEmpty&&Nat.beq e.new 0) with
      |true=>
       have hb:(e.iw.aT.isEmpty&&e.iw.new==0)=true:=by
        have:∀ a:Nat,(a==0)=Nat.beq a 0:=fun a=>by cases a<;>rfl
        simp only[eW.iw,this];exact J
       simp only[hb,if_true];rw[J] at h;simp only[cond_true] at h;cases g with
       |true=>
        simp only[cond_true] at h;cases ha:vJ (dB c.env) o.op with
        |false=>rw[ha] at h;cases h
        |true=>
         rw[ha] at h;simp only[cond_true] at h;split at h
         .rename_i hp _;obtain⟨h1,rfl,rfl⟩:=zF h;exact⟨fun _=>⟨Iw ha,hp⟩,h1▸C⟩
         .cases h
       |false=>
        simp only[cond_false] at h;obtain⟨h1,rfl,rfl⟩:=zF h;exact⟨oS,h1▸C⟩
      |false=>
       have hb:(e.iw.aT.isEmpty&&e.iw.new==0)=false:=by
        have:∀ a:Nat,(a==0)=Nat.beq a 0:=fun a=>by cases a<;>rfl
        simp only[eW.iw,this];exact J
       simp only[hb,Bool.false_eq_true,if_false];rw[J] at h;simp only[cond_false] at h;cases g with
       |true=>
        simp only[cond_true] at h;exact⟨fun _=>P7 h C,oS⟩
       |false=>
        simp only[cond_false] at h;obtain⟨h1,rfl,rfl⟩:=zF h;exact⟨oS,fun _=>h1▸C⟩
     .rename_i he;have X:bd P o.op (aZ c.st.env o.op) c.st.mem c.st.nx=none:=YG he;rw[X];simp only;cases g with
      |true=>simp at h
      |false=>
       simp only[cond_false] at h;obtain⟨h1,rfl,rfl⟩:=zF h;exact⟨rfl,h1▸C⟩
theorem Jd{call:sG}(M:CA P call){ops:Array Oper}{dr:Bool}{cf:List (Nat×Nat)}{Q:Exit->St->Prop}:∀ (os:List Oper) (c C:cS) (tr J:jN),AM P call ops dr os c tr=some (C,J)->(∀ q∈cf,pH J q.1 q.2)->Q .normal C.st->
 av P cZ ops dr cf Q os c.st tr
 |[],c,C,tr,J,h,jL,hQ=>by
  simp only[AM,aH,bP] at h;obtain⟨rfl,rfl⟩:=h;exact⟨jL,hQ⟩
 |o::os,c,C,tr,J,h,jL,hQ=>by
  simp only[AM] at h;split at h
  .rename_i c1 rd wr h1;exact .inl<| ade M h1 (Jd M os c1 C _ J h jL hQ)
  .cases h
theorem XB{call:sG}(U:CA P call){ops:Array Oper}{dr:Bool}{c J:cS}(h:JG P call ops dr c=some J){id:Nat}{rf:Bool}{Q:Exit->St->Prop}(M:Q .normal J.st):AW P cZ rf (.region id ops dr) Q c.st:=by
 unfold JG at h;cases dr with
 |true=>
  simp only[cond_true] at h;split at h
  .rename_i cf X;split at h
   .rename_i c1 tr h1;cases C:cf.all fun q=>Gd tr q.1 q.2 with
    |false=>rw[C] at h;cases h
    |true=>
     rw[C] at h;simp only[cond_true,aH] at h;subst h
     show match bR ops with
      |some cf=>Cx P cZ ops cf Q c.st
      |none=>False
     rw[X];exact .inl<| Jd U _ _ _ _ _ h1 (fun q hq=>aaj (bV.1 C q hq)) M
   .cases h
  .cases h
 |false=>
  simp only[cond_false] at h;split at h
  .rename_i c1 tr h1;simp only[aH] at h;subst h;exact Jd (cf:=[]) U _ _ _ _ _ h1 oS M
  .cases h
end
structure Ctx where
 ma:FuncId->Option (Func×Code)
 iter:FuncId->List D->List D->Option (List (List D))
 known:FuncId->List D->Option D
structure Ctx.Ok(P:Program)(x:Ctx):Prop where
 mix:P.follows .mixedOrders=true
 ma:∀ f fn c,x.ma f=some (fn,c)->lb P f fn c
 iter:∀ f fs cs xs,x.iter f fs cs=some xs->vX P f fs cs xs/\∀ y∈xs,∀ d∈y,Tr d
 known:∀ f args r,x.known f args=some r->aD P f args r
def Ad:Nat->List D->T D->Option (T D)
 |_,[],t=>some t
 |k,d::ds,t=>match t.put k (some d) with
  |some C=>Ad (k+1) ds C
  |none=>none
theorem Ox:∀ {ds:List D} {k:Nat} {t C:T D},Ad k ds t=some C->∀ j,dB C j=if k<=j/\j<k+ds.length then ds.getD (j - k) .u else dB t j
 |[],k,t,C,h,j=>by
  simp only[Ad,aH] at h;subst h;rw[if_neg oS]
 |d::ds,k,t,C,h,j=>by
  simp only[Ad] at h;split at h
  .rename_i t1 h1;rw[Ox h j,Jc h1];by_cases hj:j=k
   .subst hj;rw[if_neg oG,al,if_pos oS];simp
   .rw[aB _ _ hj];by_cases ah:k+1<=j/\j<k+1+ds.length
    .rw[if_pos ah,if_pos oP];have:j - k=(j - (k+1))+1:=by omega
     rw[this];simp
    .rw[if_neg ah,if_neg oP]
  .cases h
theorem XC{args:List D}{t:T D}(h:Ad 0 args .leaf=some t):dB t=io args:=by
 funext j;rw[Ox h j];unfold io;split
 .simp
 .rename_i hj;have:args.length<=j:=by omega
  simp[dB,T.get,this]
def zS:T D->List Tmp->List D->Option (T D)
 |t,p::ps,d::ds=>match t.put p (some d) with
  |some C=>zS C ps ds
  |none=>none
 |t,_,_=>some t
theorem N7:∀ {ps:List Tmp} {ds:List D} {t C:T D},zS t ps ds=some C->dB C=nj (dB t) ps ds
 |[],ds,t,C,h=>by simp only[zS,aH] at h;subst h;rfl
 |_::_,[],t,C,h=>by simp only[zS,aH] at h;subst h;rfl
 |p::ps,d::ds,t,C,h=>by
  simp only[zS] at h;split at h
  .rename_i t1 h1;rw[N7 h,Jc h1];rfl
  .cases h
section
variable(P:Program)
def Lp(c:cS):ResultVar->Option D
 | .tmp t=>some (dB c.env t)
 | .cell a t=>match dB c.env a with
  | .rp i off=>match c.mem.get i with
   |some (.cells cs _)=>bif aI P t&&Nat.ble (off+P.cellsOf t) cs.length then some (gE P t (cs.drop off)) else none
   |_=>none
  | .pt cs=>bif aI P t&&Nat.ble (P.cellsOf t) cs.length then some (gE P t cs) else none
  |_=>none
def AN(c:cS):List ResultVar->Option (List D)
 |[]=>some []
 |r::rs=>match Lp P c r with
  |some d=>match AN c rs with
   |some ds=>some (d::ds)
   |none=>none
  |none=>none
def Dp(x:Ctx)(C:Bool->Code->cS->Option (Exit×cS))(f:FuncId)(args:List D)(m:T Row)(nx:Nat):Option (D×T Row×Nat):=
 match x.ma f with
 |none=>none
 |some (fn,c)=>bif Nat.ble args.length fn.ntmps then
  match Ad 0 args .leaf with
  |none=>none
  |some t=>match C true c ⟨t,m,nx⟩ with
   |some (.normal,s)=>match AN P s fn.results.toList with
    |some ds=>some (p7 ds,s.mem,s.nx)
    |none=>none
   |some (.ret,s)=>match AN P s fn.results.toList with
    |some ds=>some (p7 ds,s.mem,s.nx)
    |none=>none
   |_=>none
  else none
def depth:Nat:=12
def Av(x:Ctx)(C:Bool->Code->cS->Option (Exit×cS))(f:FuncId)(args:List D):Option (D ⊕ (List D×Nat×TypeId)):=
 match Dp P x C f args .leaf 0 with
 |none=>none
 |some (d,m,_)=>match d with
  | .rs i 0 k=>match m.get i with
   |some (.cells es t)=>bif es.all (qq depth) then some (.inr (es,k,t)) else match cG P (fZ m) depth (.rs i 0 k) with
    |some (r,_)=>some (.inl r)
    |none=>none
   |_=>none
  |d=>match cG P (fZ m) depth d with
   |some (r,_)=>some (.inl r)
   |none=>none
def KN(x:Ctx)(C:Bool->Code->cS->Option (Exit×cS)):sG:=fun f args dr m nx=>
 match x.known f args with
 |some r=>some (r,m,nx,[],[])
 |none=>bif args.all (qq depth) then match Av P x C f args with
  |some (.inl r)=>some (r,m,nx,[],[])
  |some (.inr (es,k,t))=>match m.put nx (some (.cells es t)) with
   |some m'=>some (.rs nx 0 k,m',nx+1,[],[nx])
   |none=>none
  |none=>none
  else bif dr then match gY (cG P (fZ m) depth) args with
   |none=>none
   |some (dW,rds)=>match x.known f dW with
    |some r=>bif r.gn then some (r,m,nx,rds,[]) else none
    |none=>match Av P x C f dW with
     |some (.inl r)=>bif r.gn then some (r,m,nx,rds,[]) else none
     |_=>none
  else match Dp P x C f args m nx with
   |some (d,m',ao)=>some (d,m',ao,[],[])
   |none=>none
def Ci(C:Bool->Code->cS->Option (Exit×cS))(env:T D)(ps:List Tmp)(assign body:Code):List (List D)->T Row->Nat->Option (Exit×T Row×Nat)
 |[],m,nx=>some (.normal,m,nx)
 |y::ys,m,nx=>match zS env ps y with
  |none=>none
  |some t=>match C false assign ⟨t,m,nx⟩ with
   |some (.normal,s)=>match C false body s with
    |some (.normal,s')=>Ci C env ps assign body ys s'.mem s'.nx
    |some (.ret,s')=>some (.ret,s'.mem,s'.nx)
    |some (.exit i,s')=>some (.exit i,s'.mem,s'.nx)
    |_=>none
   |_=>none
def pJ(x:Ctx)(C:Bool->Code->cS->Option (Exit×cS))(rf:Bool)(c:Code)(s:cS):Option (Exit×cS):=match c with
 | .skip=>some (.normal,s)
 | .region _ ops dr=>match JG P (KN P x C) ops dr s with
  |some s'=>some (.normal,s')
  |none=>none
 | .seq a b=>match C rf a s with
  |some (.normal,s')=>C rf b s'
  |r=>r
 | .cond c a b=>bif decide (opd (dB s.env) c).ask then match (opd (dB s.env) c).core with
   | .s (.bool t)=>bif t then C rf a s else C rf b s
   |_=>none
  else none
 | .block id b=>match C rf b s with
  |some (.exit i,s')=>bif Nat.beq i id then some (.normal,s') else some (.exit i,s')
  |r=>r
 | .scope b=>match C rf b s with
  |some (.goto _,_)=>none
  |r=>r
 | .loop b=>match C rf b s with
  |some (.normal,s')=>C rf (.loop b) s'
  |r=>r
 | .rangeFunc g ps assign body=>bif rf&&decide (opd (dB s.env) g).ask then match (opd (dB s.env) g).core with
   | .fn (.func f) fs cs=>match x.iter f fs cs with
    |some ys=>bif ys.all fun y=>Nat.beq y.length ps.size then match Ci C s.env ps.toList assign body ys s.mem s.nx with
     |some (e,m,nx)=>some (e,⟨s.env,m,nx⟩)
     |none=>none
     else none
    |none=>none
   |_=>none
  else none
 | .exit id=>some (.exit id,s)
 | .label _=>some (.normal,s)
 | .ret=>some (.ret,s)
 |_=>none
def Bh(x:Ctx):Nat->Bool->Code->cS->Option (Exit×cS)
 |0=>fun _ _ _=>none
 |n+1=>pJ P x (Bh x n)
end
section
variable{P:Program}{x:Ctx}
theorem Kd{c:cS}{K:List D->Prop}:∀ {rs:List ResultVar} {ds acc:List D},AN P c rs=some ds->K (acc++ds)->nH P c.st rs acc K
 |[],ds,acc,h,hK=>by
  simp only[AN,aH] at h;subst h;simpa[nH] using hK
 |r::rs,ds,acc,h,hK=>by
  simp only[AN] at h;split at h
  .rename_i d hd;split at h
   .rename_i U C;simp only[aH] at h;subst h
    have M:∃ p,nG P c.st r=some (p,d)/\p:=by
     cases r with
     |tmp t=>
      simp only[Lp,aH] at hd;exact⟨True,by simp only[nG,cS.st,hd],trivial⟩
     |cell a t=>
      simp only[Lp] at hd;simp only[nG,cS.st];split at hd
      .rename_i i off ha;rw[ha];simp only;split at hd
       .rename_i cs e hm;have J:fZ c.mem i=some (.cells cs e):=hm;rw[J];simp only;cases hb:(aI P t&&Nat.ble (off+P.cellsOf t) cs.length) with
        |false=>rw[hb] at hd;cases hd
        |true=>
         rw[hb] at hd;simp only[cond_true,aH] at hd;simp only[ba,Nat.ble_eq] at hb;exact⟨_,by rw[hd],hb⟩
       .cases hd
      .rename_i cs ha;rw[ha];simp only;cases hb:(aI P t&&Nat.ble (P.cellsOf t) cs.length) with
       |false=>rw[hb] at hd;cases hd
       |true=>
        rw[hb] at hd;simp only[cond_true,aH] at hd;simp only[ba,Nat.ble_eq] at hb;exact⟨_,by rw[hd],hb⟩
      .cases hd
    obtain⟨p,h1,h2⟩:=M;simp only[nH,h1];exact⟨h2,Kd C (by simpa using hK)⟩
   .cases h
  .cases h
def Dq(P:Program)(C:Bool->Code->cS->Option (Exit×cS)):Prop:=∀ rf c s e s',C rf c s=some (e,s')->∀ Q:Exit->St->Prop,Q e s'.st->AW P cZ rf c Q s.st
theorem Q3(hx:x.Ok P){M:Bool->Code->cS->Option (Exit×cS)}(X:Dq P M){f:FuncId}{args:List D}{m m':T Row}{nx J:Nat}{d:D}(h:Dp P x M f args m nx=some (d,m',J)):
 ∃ fn c,lb P f fn c/\Nat.ble args.length fn.ntmps=true/\∀ K:D->St->Prop,(∀ env,K d ⟨env,fZ m',J⟩)->AW P cZ true c (gX P fn.results.toList K) ⟨io args,fZ m,nx⟩:=by
 unfold Dp at h;split at h
 .cases h
 .rename_i fn c Lq;cases hb:Nat.ble args.length fn.ntmps with
  |false=>rw[hb] at h;cases h
  |true=>
   rw[hb] at h;simp only[cond_true] at h;split at h
   .cases h
   .rename_i t ht;refine⟨fn,c,hx.ma f fn c Lq,hb,fun K U=>?_⟩;rw[<- XC ht];split at h
    .rename_i s hs;split at h
     .rename_i ds C;simp only[aH,bP] at h;obtain⟨rfl,rfl,rfl⟩:=h;exact X _ _ _ _ _ hs _ (Kd (K:=fun ds=>K (p7 ds) s.st) C (U _))
     .cases h
    .rename_i s hs;split at h
     .rename_i ds C;simp only[aH,bP] at h;obtain⟨rfl,rfl,rfl⟩:=h;exact X _ _ _ _ _ hs _ (Kd (K:=fun ds=>K (p7 ds) s.st) C (U _))
     .cases h
    .cases h
theorem XD(J:P.follows .mixedOrders=true){fn:Func}{f:FuncId}{c:Code}(hf:lb P f fn c){args:List D}(hn:Nat.ble args.length fn.ntmps=true)(ht:∀ a∈args,Tr a){d r:D}{m:Mem}{n:Nat}{rds:List Nat}(hd:cG P m n d=some (r,rds))
 (h:AW P cZ true c (gX P fn.results.toList fun d' st=>d'=d/\st.mem=m) ⟨io args,fun _=>none,0⟩):aD P f args r:=
 ⟨hf.he,ht,fun F w vs X hR=>(zL J hf.hf hf.hb hf.ah hn h (fun _ _ _ _ _ h=>h.elim) (EG X) (fun _ _=>rfl) hR).mono fun e w' hp=>by
  obtain⟨v,d',st',β',h1,⟨rfl,rfl⟩,M,C,h5,U,h7,h8⟩:=hp
  exact⟨v,h1,Cz hd (fun i _ r hr=>by
   obtain⟨p,hp,aq⟩:=C.row i r hr
   exact⟨p,hp,aq,fun b hb=>C.nf i p b hp hb⟩) M,Er U⟩⟩
theorem Ez(hx:x.Ok P){J:Bool->Code->cS->Option (Exit×cS)}(X:Dq P J){f:FuncId}{args:List D}(ht:∀ a∈args,Tr a):
 (∀ r,Av P x J f args=some (.inl r)->aD P f args r)/\∀ es k t,Av P x J f args=some (.inr (es,k,t))->kv P f args es k t:=by
 unfold Av;cases U:Dp P x J f args .leaf 0 with
 |none=>exact⟨fun r h=>oH,fun es k t h=>oH⟩
 |some q=>
  obtain⟨d,m,nx⟩:=q;obtain⟨fn,c,hf,hn,C⟩:=Q3 hx X U
  have deep:∀ d r rds,d=d->cG P (fZ m) depth d=some (r,rds)->(∀ K:D->St->Prop,(∀ env,K d ⟨env,fZ m,nx⟩)->AW P cZ true c (gX P fn.results.toList K) ⟨io args,fZ .leaf,0⟩)->aD P f args r:=fun d r rds _ hd C=>
   XD hx.mix hf hn ht hd (C _ fun env=>⟨rfl,rfl⟩)
  simp only;split
  .rename_i i k;split
   .rename_i es t hm;cases M:es.all (qq depth) with
    |true=>
     simp only[cond_true];refine⟨fun r h=>(by simp at h),fun es' k' t' h=>?_⟩;simp only[aH,Sum.inr.injEq,bP] at h;obtain⟨rfl,rfl,rfl⟩:=h;exact P4 hx.mix hf hn ht (fun a ha=>pI (bV.1 M a ha)) (C _ fun env=>⟨i,rfl,hm⟩)
    |false=>
     simp only[cond_false];split
     .rename_i r rds hd;exact⟨fun r' h=>(by simp only[aH,Sum.inl.injEq] at h;subst h;exact deep _ _ _ rfl hd C),fun es k t h=>(by simp at h)⟩
     .exact⟨fun r h=>oH,fun es k t h=>oH⟩
   .exact⟨fun r h=>oH,fun es k t h=>oH⟩
  .split
   .rename_i r rds hd;exact⟨fun r' h=>(by simp only[aH,Sum.inl.injEq] at h;subst h;exact deep _ _ _ rfl hd C),fun es k t h=>(by simp at h)⟩
   .exact⟨fun r h=>oH,fun es k t h=>oH⟩
theorem BN{m:Mem}{n:Nat}{rds:List Nat}:∀ {aS bs:List D} {r:List Nat},gY (cG P m n) aS=some (bs,r)->(∀ i∈r,i∈rds)->jr P rds m aS bs
 |[],bs,r,h,_=>by
  simp only[gY,aH,bP] at h;obtain⟨rfl,_⟩:=h;trivial
 |a::aS,bs,r,h,hr=>by
  simp only[gY] at h;split at h
  .cases h
  .rename_i y hy;split at h
   .cases h
   .rename_i ys C;simp only[aH,bP] at h;obtain⟨rfl,rfl⟩:=h;exact⟨fun F β w v hl hv=>Cz (r:=y.2) hy (fun i hi=>hl i (hr i (List.mem_append_left _ hi))) hv,BN (r:=ys.2) C fun i hi=>hr i (List.mem_append_right _ hi)⟩
theorem aak(hx:x.Ok P){ev:Bool->Code->cS->Option (Exit×cS)}(U:Dq P ev):CA P (KN P x ev):=by
 intro f args dr m nx r m' ao rd wr h env K C;unfold KN at h;split at h
 .rename_i r' hk;simp only[aH,bP] at h;obtain⟨rfl,rfl,rfl,rfl,rfl⟩:=h;exact .inl ⟨_,hx.known _ _ _ hk,C⟩
 .cases M:args.all (qq depth) with
  |true=>
   rw[M] at h;simp only[cond_true] at h;obtain⟨h1,h2⟩:=Ez hx U (f:=f) (args:=args) fun a ha=>pI (bV.1 M a ha);split at h
   .rename_i r' hp;simp only[aH,bP] at h;obtain⟨rfl,rfl,rfl,rfl,rfl⟩:=h;exact .inl ⟨_,h1 _ hp,C⟩
   .rename_i es k t hp;split at h
    .rename_i m1 hm;simp only[aH,bP] at h;obtain⟨rfl,rfl,rfl,rfl,rfl⟩:=h;rw[P5 hm] at C;exact .inr (.inr (.inl ⟨es,k,t,h2 _ _ _ hp,C⟩))
    .cases h
   .cases h
  |false=>
   rw[M] at h;simp only[cond_false] at h;cases dr with
   |true=>
    simp only[cond_true] at h;split at h
    .cases h
    .rename_i J rds X;have bf:∀ a∈J,Tr a:=qK X fun x y r' h=>Fm h;have eY:jr P rds (fZ m) args J:=BN X fun _ h=>h;split at h
     .rename_i r' hk;cases hs:r'.gn with
      |false=>rw[hs] at h;cases h
      |true=>
       rw[hs] at h;simp only[cond_true,aH,bP] at h;obtain⟨rfl,rfl,rfl,rfl,rfl⟩:=h;exact .inr (.inl ⟨J,_,_,eY,hx.known _ _ _ hk,hs,C⟩)
     .split at h
      .rename_i r' hp;cases hs:r'.gn with
       |false=>rw[hs] at h;cases h
       |true=>
        rw[hs] at h;simp only[cond_true,aH,bP] at h;obtain⟨rfl,rfl,rfl,rfl,rfl⟩:=h;exact .inr (.inl ⟨J,_,_,eY,(Ez hx U bf).1 _ hp,hs,C⟩)
      .cases h
   |false=>
    simp only[cond_false] at h;split at h
    .rename_i d m1 bQ di;simp only[aH,bP] at h;obtain⟨rfl,rfl,rfl,rfl,rfl⟩:=h;obtain⟨fn,c,hf,hn,yT⟩:=Q3 hx U di;exact .inr (.inr (.inr (.inl ⟨rfl,P3 hx.mix hf hn (yT (fun d st=>K d st.mem st.nx [] []) fun env=>C)⟩)))
    .cases h
theorem Oy{X:Bool->Code->cS->Option (Exit×cS)}(J:Dq P X){env:T D}{ps:List Tmp}{assign body:Code}{Q:Exit->St->Prop}:∀ {ys:List (List D)} {m m':T Row} {nx M:Nat} {e:Exit},Ci X env ps assign body ys m nx=some (e,m',M)->
 Q e ⟨dB env,fZ m',M⟩->∃ I:Nat->Mem->Nat->Prop,I 0 (fZ m) nx/\
  (∀ k m nx y,ys[k]? =some y->I k m nx->AW P cZ false assign (Cg fun s=>AW P cZ false body (xA (dB env) (I (k+1)) Q) s) ⟨nj (dB env) ps y,m,nx⟩)/\
  ∀ m nx,I ys.length m nx->Q .normal ⟨dB env,m,nx⟩
 |[],m,m',nx,M,e,h,hQ=>by
  simp only[Ci,aH,bP] at h;obtain⟨rfl,rfl,rfl⟩:=h;exact⟨fun _ a b=>a=fZ m/\b=nx,⟨rfl,rfl⟩,fun k _ _ y hy=>by simp at hy,fun a b h=>by obtain⟨rfl,rfl⟩:=h;exact hQ⟩
 |y::ys,m,m',nx,M,e,h,hQ=>by
  simp only[Ci] at h;split at h
  .cases h
  .rename_i t ht;have yr:=N7 ht;split at h
   .rename_i s hs
    have done:∀ (I:Nat->Mem->Nat->Prop),AW P cZ false body (xA (dB env) (I 0) Q) s.st->
     (∀ k m nx y,ys[k]? =some y->I k m nx->AW P cZ false assign (Cg fun s=>AW P cZ false body (xA (dB env) (I (k+1)) Q) s) ⟨nj (dB env) ps y,m,nx⟩)->
     (∀ m nx,I ys.length m nx->Q .normal ⟨dB env,m,nx⟩)->
     ∃ I:Nat->Mem->Nat->Prop,I 0 (fZ m) nx/\
      (∀ k m nx z,(y::ys)[k]? =some z->I k m nx->AW P cZ false assign (Cg fun s=>AW P cZ false body (xA (dB env) (I (k+1)) Q) s) ⟨nj (dB env) ps z,m,nx⟩)/\
      ∀ m nx,I (y::ys).length m nx->Q .normal ⟨dB env,m,nx⟩:=fun I h1 h2 h3=>by
     refine⟨fun k a b=>match k with|0=>a=fZ m/\b=nx|k+1=>I k a b,⟨rfl,rfl⟩,fun k a b z hz U=>?_,fun a b U=>h3 a b U⟩;cases k with
     |zero=>
      obtain⟨rfl,rfl⟩:=U;simp only[List.getElem?_cons_zero,aH] at hz;subst hz;rw[<- yr];exact J _ _ _ _ _ hs _ h1
     |succ k=>exact h2 k a b z (by simpa using hz) U
    split at h
    .rename_i s' C;obtain⟨I,g1,g2,g3⟩:=Oy J h hQ;exact done I (J _ _ _ _ _ C _ g1) g2 g3
    .rename_i s' C;simp only[aH,bP] at h;obtain⟨rfl,rfl,rfl⟩:=h;exact done (fun _ _ _=>False) (J _ _ _ _ _ C _ hQ) (fun _ _ _ _ _ h=>h.elim) fun _ _ h=>h.elim
    .rename_i i s' C;simp only[aH,bP] at h;obtain⟨rfl,rfl,rfl⟩:=h;exact done (fun _ _ _=>False) (J _ _ _ _ _ C _ hQ) (fun _ _ _ _ _ h=>h.elim) fun _ _ h=>h.elim
    .cases h
   .cases h
theorem R4(hx:x.Ok P):∀ n,Dq P (Bh P x n):=by
 intro n
 induction n using Nat.strongRecOn with
 |_ n ih=>
  cases n with
  |zero=>intro rf c s e s' h;cases h
  |succ n=>
   have J:=ih n (Nat.lt_succ_self n);intro rf c s e s' h Q C;simp only[Bh] at h;cases c with
   |skip=>
    simp only[pJ,aH,bP] at h;obtain⟨rfl,rfl⟩:=h;exact C
   |ret=>
    simp only[pJ,aH,bP] at h;obtain⟨rfl,rfl⟩:=h;exact C
   |label l=>
    simp only[pJ,aH,bP] at h;obtain⟨rfl,rfl⟩:=h;exact C
   |exit id=>
    simp only[pJ,aH,bP] at h;obtain⟨rfl,rfl⟩:=h;exact C
   |region id ops dr=>
    simp only[pJ] at h;split at h
    .rename_i X h1;simp only[aH,bP] at h;obtain⟨rfl,rfl⟩:=h;exact XB (aak hx J) h1 C
    .cases h
   |seq a b=>
    simp only[pJ] at h;split at h
    .rename_i X h1;exact J _ _ _ _ _ h1 _ ⟨_,.refl _,J _ _ _ _ _ h _ C⟩
    .rename_i U;refine J _ _ _ _ _ h _ ?_;cases e with
     |normal=>exact absurd h (U s')
     |_=>exact C
   |cond c a b=>
    simp only[pJ] at h;cases M:decide (opd (dB s.env) c).ask with
    |false=>rw[M] at h;cases h
    |true=>
     rw[M] at h;simp only[cond_true] at h;refine⟨of_decide_eq_true M,?_⟩;split at h
     .rename_i t ht;have ht':(opd s.st.env c).core=.s (.bool t):=ht;rw[ht'];cases t with
      |true=>exact⟨fun _=>J _ _ _ _ _ h _ C,fun h=>by cases h⟩
      |false=>exact⟨fun h=>oH,fun _=>J _ _ _ _ _ h _ C⟩
     .cases h
   |block id b=>
    simp only[pJ] at h;split at h
    .rename_i i X h1;refine J _ _ _ _ _ h1 (fx id Q) ?_;simp only[fx];cases hb:Nat.beq i id with
     |true=>
      rw[hb] at h;simp only[cond_true,aH,bP] at h;obtain⟨rfl,rfl⟩:=h;rw[if_pos (Nat.eq_of_beq_eq_true hb)];exact C
     |false=>
      rw[hb] at h;simp only[cond_false,aH,bP] at h;obtain⟨rfl,rfl⟩:=h;rw[if_neg (Nat.ne_of_beq_eq_false hb)];exact C
    .rename_i U;refine J _ _ _ _ _ h (fx id Q) ?_;cases e with
     |exit i=>exact absurd h (U i s')
     |_=>exact C
   |scope b=>
    simp only[pJ] at h;split at h
    .cases h
    .rename_i U;refine J _ _ _ _ _ h (Cw Q) ?_;cases e with
     |goto l=>exact absurd h (U l s')
     |_=>exact C
   |loop b=>
    refine P8 (fun j st=>j<=n+1/\∃ s,st=s.st/\Bh P x j rf (.loop b) s=some (e,s')) (j₀:=n+1) ⟨bc _,s,rfl,h⟩ ?_;rintro j st ⟨hj,s,rfl,hs⟩;cases j with
    |zero=>cases hs
    |succ j=>
     have US:=ih j oG;simp only[Bh,pJ] at hs;split at hs
     .rename_i X h1;exact US _ _ _ _ _ h1 _ ⟨_,.refl _,j,Nat.lt_succ_self j,oG,X,rfl,hs⟩
     .rename_i U;refine US _ _ _ _ _ hs _ ?_;cases e with
      |normal=>exact absurd hs (U s')
      |_=>exact C
   |rangeFunc g ps assign body=>
    simp only[pJ] at h;cases M:(rf&&decide (opd (dB s.env) g).ask) with
    |false=>rw[M] at h;cases h
    |true=>
     rw[M] at h;simp only[cond_true] at h;simp only[ba] at M;split at h
     .rename_i f fs cs tZ;split at h
      .rename_i ys Mw;cases bx:ys.all fun y=>Nat.beq y.length ps.size with
       |false=>rw[bx] at h;cases h
       |true=>
        rw[bx] at h;simp only[cond_true] at h;split at h
        .rename_i e1 m nx hr;simp only[aH,bP] at h;obtain⟨rfl,rfl⟩:=h;obtain⟨I,g1,g2,g3⟩:=Oy J hr C;obtain⟨k1,k2⟩:=hx.iter _ _ _ _ Mw;exact⟨M.1,of_decide_eq_true M.2,f,fs,cs,ys,I,tZ,k1,fun y hy=>⟨Nat.eq_of_beq_eq_true (bV.1 bx y hy),k2 y hy⟩,g1,g2,g3⟩
        .cases h
      .cases h
     .cases h
   |_=>cases h
theorem n1(hx:x.Ok P)(n:Nat){f:FuncId}{args:List D}{r:D}(ht:args.all (qq depth)=true)(h:Av P x (Bh P x n) f args=some (.inl r)):aD P f args r:=
 (Ez hx (R4 hx n) fun a ha=>pI (bV.1 ht a ha)).1 r h
end
end Go.Abs
namespace Go.Proofs.Tryz.K
open Go.Abs
noncomputable def LD:T (Func×Code):=
 (.node none (.node none .leaf (.node none .leaf (.node none .leaf (.node none (.node none (.node none (.node none (.node (some (Tryz.f269,RK)) .leaf .leaf) .leaf) .leaf) .leaf) (.node none .leaf (.node none .leaf (.node (some (Tryz.f253,RI)) .leaf .leaf))))))) (.node none (.node none (.node none (.node none (.node none (.node none (.node none (.node (some (Tryz.f256,RJ)) .leaf .leaf) .leaf) .leaf) .leaf) .leaf) .leaf) .leaf) (.node none (.node none (.node none .leaf (.node none .leaf (.node none (.node (some (Tryz.f178,RH)) .leaf .leaf) .leaf))) .leaf) .leaf)))
def Hs(p:Nat->Func×Code->Prop):(Nat->Nat)->T (Func×Code)->Prop
 |_,.leaf=>True
 |g,.node v l r=>(∀ a,v=some a->p (g 0) a)/\Hs p (fun i=>g (2*i+1)) l/\Hs p (fun i=>g (2*i+2)) r
theorem Ju{p:Nat->Func×Code->Prop}:∀ {t:T (Func×Code)} {g:Nat->Nat},Hs p g t->∀ i a,t.get i=some a->p (g i) a
 | .leaf,_,_,i,a,h=>by cases h
 | .node v l r,g,⟨h1,h2,h3⟩,i,a,h=>by
  rw[T.tz] at h;by_cases h0:i=0
  .subst h0;exact h1 a (by simpa using h)
  .rw[if_neg h0] at h;by_cases C:i % 2=1
   .rw[if_pos C] at h;have:=Ju h2 _ a h;have e:2*(i / 2)+1=i:=by omega
    simpa only[e] using this
   .rw[if_neg C] at h;have:=Ju h3 _ a h;have e:2*(i / 2 - 1)+2=i:=by omega
    simpa only[e] using this
theorem e0{p:Func×Code->Prop}:∀ a,(none:Option (Func×Code))=some a->p a:=fun _ h=>by cases h
theorem e1{i:Nat}{fn:Func}{c:Code}(h:lb prog i fn c):∀ a,some (fn,c)=some a->lb prog i a.1 a.2:=fun _ e=>by cases e;exact h
theorem acP:Hs (fun i a=>lb prog i a.1 a.2) (fun i=>i) LD:=
 ⟨e0,⟨e0,trivial,⟨e0,trivial,⟨e0,trivial,⟨e0,⟨e0,⟨e0,⟨e0,⟨e1 agT,trivial,trivial⟩,trivial⟩,trivial⟩,trivial⟩,⟨e0,trivial,⟨e0,trivial,⟨e1 agR,trivial,trivial⟩⟩⟩⟩⟩⟩⟩,⟨e0,⟨e0,⟨e0,⟨e0,⟨e0,⟨e0,⟨e0,⟨e1 agS,trivial,trivial⟩,trivial⟩,trivial⟩,trivial⟩,trivial⟩,trivial⟩,trivial⟩,⟨e0,⟨e0,⟨e0,trivial,⟨e0,trivial,⟨e0,⟨e1 agQ,trivial,trivial⟩,trivial⟩⟩⟩,trivial⟩,trivial⟩⟩⟩
theorem ado(f:FuncId)(fn:Func)(c:Code)(h:LD.get f=some (fn,c)):lb prog f fn c:=Ju acP f (fn,c) h
end Go.Proofs.Tryz.K
section
open Go Go.Abs Go.Proofs Go.Argus
namespace Go.Proofs.Tryz.K
noncomputable def cx0:Ctx:=⟨fun f=>LD.get f,fun _ _ _=>none,fun _ _=>none⟩
theorem n8:cx0.Ok prog:=⟨mixed,ado,fun _ _ _ _ h=>oH,fun _ _ _ h=>oH⟩
theorem B8{off:Nat}{vs cs:List D}(hv:vs.length=20)(hl:off+20<=cs.length)(C:vs.all D.one=true):aI prog 201=true/\vs.length=prog.cellsOf 201/\off+prog.cellsOf 201<=cs.length/\vs.all D.one=true:=by
 rw[rj];exact⟨t201,hv,hl,C⟩
theorem lh{w:List Int}{m:Nat}(U:w.length=20)(hm:m<1280):aD prog 135 [gp w,I m] (B (p9 w m)):=by
 have M:∀ a∈[gp w,I m],Tr a:=.cons (qb _) (.cons (.s _) .nil);have hi:w[m / 64]? =some w[m / 64]:=a8 oG;have hg:w.getD (m / 64) 0=w[m / 64]:=by simp[du,hi]
 have C:=S6 (m:=m) oG;have J:=S7 m;have kd:=na (f:=cP) hi;refine bj aeo M (Tr.s _) ?_;rw[aep];refine ws ?_;refine ag ?_;refine er ?_;refine SS ?_;refine ax (Sd rfl rfl C) ak ⟨rfl,oG⟩ ?_;refine ay ?_;refine ax (Se rfl rfl J) ak ⟨rfl,oG⟩ ?_;refine ax (adZ rfl rfl) ak oG ?_;refine ax (SG rfl rfl) ak rfl ?_;refine ag ?_;refine af (aJ (d:=.s (.bool _)) rfl ?_);unfold p9;rw[hg];rfl
theorem qd{w:List Int}{n:Int}(X:w.length=20)(hn: -1000000<=n/\n<1280):aD prog 179 [gp w,I n] (gp (qZ w n)):=by
 have U:∀ a∈[gp w,I n],Tr a:=.cons (qb _) (.cons (.s _) .nil);refine bj aeq U (qb _) ?_;rw[aer];refine ws ?_;refine ag ?_;refine af (aC (aj ?_));by_cases h0:0<=n
 .obtain⟨m,rfl⟩:=iQ h0;have hm:m<1280:=by omega
  have hi:w[m / 64]? =some w[m / 64]:=a8 oG;have hg:w.getD (m / 64) 0=w[m / 64]:=by simp[du,hi]
  have J:=S6 (m:=m) oG;have M:=S7 m;have kd:=na (f:=cP) hi;have C:decide (0<=(m:Int))=true:=by simp
  refine SS ?_;refine ax (Ah rfl rfl C) ak rfl ?_;refine af (GL (eg YY ?_));refine SS ?_;refine ax (Sd rfl rfl J) ak ⟨rfl,oG⟩ ?_;refine ay ?_;refine ax (Se rfl rfl M) ak ⟨rfl,oG⟩ ?_;refine ax (adY rfl rfl) ak oG ?_;refine ax (ag5 rfl rfl) ak rfl ?_;refine ag ?_;refine cu cE (aj ?_);refine ag ?_;refine af (ss (gP rfl rfl a201 rj (nw (by first|rfl|simp;omega)) t201 oP) ?_);simp only[qZ,h0,if_true,iv,CW,hg,gp,List.map_set];rfl
 .have C:decide (0<=n)=false:=by simpa using h0
  refine SS ?_;refine ax (Ah rfl rfl C) ak rfl ?_;refine af (nv (bX (aj ?_)));refine ag ?_;refine af (ss (gP rfl rfl a201 rj (nw oP) t201 oP) ?_);simp only[qZ,h0,if_false]
theorem Ha{w v:List Int}(M:w.length=20)(hv:v.length=20):aD prog 180 [gp w,gp v] (gp (mB w v)):=by
 have X:∀ a∈[gp w,gp v],Tr a:=.cons (qb _) (.cons (qb _) .nil);refine bj aes X (qb _) ?_;rw[aet];refine ws ?_;refine ay ?_;refine af (aC (az ?_));refine SS ?_
 refine af (cz (fun s=>aL prog s ⟨aA [(2,.rp 0 0),(3,.rp 1 0),(4,.rp 2 0)],bu [(0,.cells ((mB w v).map cP) 201),(1,.cells (v.map cP) 201),(2,.cells (replicate 20 (cP 0)) 201)],3⟩) (cy (α:=Nat)
  (fun k=>⟨aA [(2,.rp 0 0),(3,.rp 1 0),(4,.rp 2 0),(6,I k)],bu [(0,.cells ((gU w v k).map cP) 201),(1,.cells (v.map cP) 201),(2,.cells (replicate 20 (cP 0)) 201)],3⟩)
  (fun k=>k<=20) (fun k=>20 - k) 0 (cq eH eH) oG ?_) ?_)
 .intro k hk;refine SS ?_;refine af ⟨_,rfl,fun h=>?_,fun h=>?_⟩
  .have ah:k<20:=by have h:(k:Int)<20:=by simpa using h
                    omega
   have DJ:(gU w v k).length=20:=by simp[M]
   have hi:(gU w v k)[k]? =some (gU w v k)[k]:=a8 oG;have hj:v[k]? =some v[k]:=a8 oG;have hg:(gU w v k).getD k 0=(gU w v k)[k]:=by simp[du,hi]
   have C:v.getD k 0=v[k]:=by simp[du,hj]
   have kd:=na (f:=cP) hi;have U:=na (f:=cP) hj;refine ws ?_;refine ag ?_;refine af (zU YZ ?_);refine bA ?_;refine ax (j9 rfl rfl U V.h) ak (ka V.h V.h U) ?_;refine ax (SG rfl rfl) ak rfl ?_;refine ag ?_;refine cu cE ?_;refine ag ?_;refine af (bh (k+1) (cq eH ⟨?_,rfl,rfl,trivial⟩) oG oG);rw[al];simp only[gU,hg,C,List.map_set];rfl
  .have bq:¬ k<20:=by intro hh;simp at h;omega
   have:k=20:=by omega
   subst this;exact .forget _ _ _ _ fun t=>pD (l:=[(2,.rp 0 0),(3,.rp 1 0),(4,.rp 2 0)]) ⟨rfl,rfl,rfl,trivial⟩ t
 .intro s hg;have J:(mB w v).length=20:=by simp[M]
  generalize mB w v=u at hg J ⊢;refine⟨_,hg,aj ?_⟩;refine ag ?_;refine af (ss (gP rfl rfl a201 rj (nw oP) t201 oP) ?_);rfl
def ahR:Int:=18446744073709551615
theorem LH:aD prog 178 [] (gp (replicate 20 ahR)):=by
 exact n1 n8 100 rfl kr
theorem Dt{w:List Int}{x:cV}(C:w.length=20)(hn:x.op=18->0<=x.n/\x.n<80)(ht:x.op≠18-> -1000000<=ke x/\ke x<1280):aD prog 183 [gp w,.agg (cA x)] (gp (qZ w (if x.op=18 then mZ x.n else ke x))):=by
 have J:∀ a∈[gp w,.agg (cA x)],Tr a:=.cons (qb _) (.cons (.agg (xj x)) .nil);refine bj aeu J (qb _) ?_;rw[aev];refine ws ?_;refine ay ?_;refine af (aC (aj ?_));refine ay ?_;refine af (ct rfl (fun h=>?_) fun h=>bX (eg Y0 ?_))
 .have h:x.op=18:=by simpa using h
  have hx:=hn h;have ur:=ur (n:=x.n) oG;have qd:=qd (w:=w) (n:=mZ x.n) C (by unfold mZ;omega);refine aC (eg Y1 ?_);refine ay ?_;refine cl ur ?_;refine cl qd ?_;refine SS ?_;refine cu cE (ew (ss (gP rfl rfl a201 rj (nw oP) t201 oP) ?_));simp[h]
 .have h:x.op≠18:=by simpa using h
  have AP:=AP (x:=x);have qd:=qd (w:=w) (n:=ke x) C (ht h);refine SS ?_;refine ax (ff (vs:=cA _) rfl rfl V.h V.h rfl) ak (fh V.h V.h (by first|(simp;done)|omega|exact bF rfl)) ?_;refine cl AP ?_;refine cl qd ?_;refine SS ?_;refine cu cE (ss (gP rfl rfl a201 rj (nw oP) t201 oP) ?_);simp[h]
end Go.Proofs.Tryz.K
namespace Go.Argus
def mU(x:End):Bool:=decide (0<=x.others)&&bO [5,6,8] x.kind
def eu(x:End):List Int:=if bO [3,4] x.kind then [] else x.to::((if bO [2,8] x.kind then [x.gN] else [])++(x.aU.map (·.to)++(if mU x then [x.others] else [])))
def pz(x:End):Nat:=if bO [2,8] x.kind then 2 else 1
theorem aaK{x:End}(h:bO [3,4] x.kind=false):(eu x)[0]? =some x.to/\(bO [2,8] x.kind=true->(eu x)[1]? =some x.gN)/\(∀ (j:Nat) w,x.aU[j]? =some w->(eu x)[pz x+j]? =some w.to)/\
 (mU x=true->(eu x)[pz x+x.aU.length]? =some x.others)/\(eu x).length=pz x+x.aU.length+(if mU x then 1 else 0):=by
 unfold eu pz;generalize mU x=c;rw[if_neg (by simp[h])];cases h2:bO [2,8] x.kind with
 |true=>
  refine⟨rfl,fun _=>rfl,fun j w hj=>?_,fun hc=>?_,?_⟩
  .have:j<x.aU.length:=(bM.1 hj).1;simp only[if_true,List.singleton_append];rw[show 2+j=j+1+1 by omega,List.getElem?_cons_succ,List.getElem?_cons_succ,List.getElem?_append_left (by simpa using this)];simp[hj]
  .simp only[if_true,List.singleton_append];rw[show 2+x.aU.length=x.aU.length+1+1 by omega,List.getElem?_cons_succ,List.getElem?_cons_succ,List.getElem?_append_right oS];rw[if_pos hc];simp
  .cases c<;>simp<;>omega
 |false=>
  refine⟨rfl,fun h=>oH,fun j w hj=>?_,fun hc=>?_,?_⟩
  .have:j<x.aU.length:=(bM.1 hj).1;simp only[Bool.false_eq_true,if_false,List.nil_append];rw[show 1+j=j+1 by omega,List.getElem?_cons_succ,List.getElem?_append_left (by simpa using this)];simp[hj]
  .simp only[Bool.false_eq_true,if_false,List.nil_append];rw[show 1+x.aU.length=x.aU.length+1 by omega,List.getElem?_cons_succ,List.getElem?_append_right oS];rw[if_pos hc];simp
  .cases c<;>simp<;>omega
def Kk(x:End)(b:Int):Bool:=dm x.to b&&dm ((eu x).count b:Nat) 1
theorem JS(x:End):(eu x).length<=x.aU.length+3:=by
 unfold eu;split
 .simp
 .simp only[List.length_cons,List.length_append,List.length_map];split<;>split<;>simp<;>omega
end Go.Argus
namespace Go.Abs
theorem xD{P:Program}{Y:eb}{rf:Bool}{Q:Exit->St->Prop}{st:St}[dA Y]{ops:Array Oper}{i:Nat}(h:av P Y ops false [] (eQ (Q .normal)) ops.toList st []):AW P Y rf (.region i ops false) Q st:=ly (rf:=rf) (id:=i) (av.iJ h fun _ h=>h)
section
variable{P:Program}{env:Env}{m:Mem}{nx:Nat}{x y:Operand}{t p:TypeId}{k:IntKind}{n n':Int}
theorem Sc(hx:(opd env x).core=.s (.int .i64 n))(hy:(opd env y).core=.s (.int .i64 n')){r:Int}(hd:n - n'=r/\ -9223372036854775808<=r/\r<=9223372036854775807):Ef P (.binOp .sub t x y p) env m nx ⟨IntKind.i64=IntKind.i64,.s (.int .i64 r),[],[],0⟩:=by
 obtain⟨rfl,h⟩:=hd;exact KG hx hy h
theorem mr{j i l:Nat}{e:TypeId}{r:Row}(hx:(opd env x).core=.rs j 0 l)(hy:(opd env y).core=.s (.int k (i:Int)))(hm:m j=some r)(he:aF P t=e)(hs:P.cellsOf e=1):
 Ef P (.indexAddr t x y) env m nx ⟨bg P t=true/\i<l,.rp j i,[],[j],0⟩:=by
 have h:=F8 (P:=P) (env:=env) (m:=m) (nx:=nx) (t:=t) hx hy hm he hs;have h1:0+((i:Int)).toNat*1=i:=by simp
 have h2:(bg P t=true/\(0:Int)<=(i:Int)/\(i:Int)<l)=(bg P t=true/\i<l):=by
  apply propext;constructor
  .rintro⟨a,_,b⟩;exact⟨a,oG⟩
  .rintro⟨a,b⟩;exact⟨a,oG,oG⟩
 rw[h1,h2] at h;exact h
theorem uh{α:Type}(f:Nat->α)(i:Nat)(a b:α):up (up f i a) i b=up f i b:=by
 funext j;simp only[up];split<;>rfl
variable{Y:eb}{rf:Bool}{Q:Exit->St->Prop}{st:St}{id fU i1 i3:Nat}{rc ri:Array Oper}{body:Code}{α:Type}{cf:List (Nat×Nat)}{u:Nat}
theorem adz[dA Y](hi:bR rc=some cf)(S:α->St)(J:α->Prop)(μ:α->Nat)(C:α)(hg:aL P st (S C))(U:J C)
 (h:∀ x,J x->av P Y rc true cf (eQ fun s=>∃ g,opd s.env (.tmp u)=.s (.bool g)/\(g=true->AW P Y rf body (k6 fU id (fun s=>av P Y ri false [] (eQ (xU P S J μ x)) ri.toList s []) Q) s)/\(g=false->Q .normal s)) rc.toList (S x) []):
 ∃ st',aL P st st'/\AW P Y rf (.block id (.loop (.seq (.seq (.region i1 rc true) (.cond (.tmp u) .skip (.exit id))) (.seq (.block fU body) (.region i3 ri false))))) Q st':=by
 refine Cj (Q:=fx id Q) S J μ C hg U (fun x hx=>?_) (a:=.skip) fun _ h=>h;refine aC (Af (rf:=rf) (id:=i1) hi (av.iJ (h x hx) fun s hs=>?_));obtain⟨g,h1,h2,M⟩:=hs;refine⟨s,.refl s,ct h1 (fun X=>?_) fun yV=>?_⟩
 .exact bX (JH (h2 X))
 .refine tm ?_;simp only[fM,fx,if_true];exact M yV
theorem tw{l:List (Nat×D)}{m':Mem}(h:kV l env)(hm:m=m'):aL P ⟨env,m,nx⟩ ⟨aA l,m',nx⟩:=hm▸aw h
end
end Go.Abs
namespace Go.Proofs.Tryz.K
theorem uw{x:Argus.End}:aD prog 175 [.agg (bE x)] (.fn (.func 234) [] [.pt (bE x)]):=by
 have C:∀ a∈[D.agg (bE x)],Tr a:=.cons (.agg (qQ x)) .nil;refine bj aeV C (.fn oS (.cons (.pt (qQ x)) .nil)) ?_;rw[aeW];refine az ?_;refine SS ?_;refine ax (jT (v:=.s .nilFunc) rfl) ak trivial ?_;refine af (bJ (dE [(0,bE x,57)] eH (l:=[(1,.pt (bE x))]) eH) (aj ?_));refine SS ?_;refine ax (jT (v:=.fn _ _ _) rfl) ak trivial ?_;exact af (aJ rfl rfl)
def MU(l:Nat)(x:Argus.End)(I':Nat->Mem->Nat->Prop)(n:Nat)(s:St):Prop:=∃ m nx,aL prog s ⟨aA [(0,.fn (.yield l) [] []),(1,.pt (bE x))],m,nx⟩/\I' n m nx
theorem T6{x:Argus.End}(hlen:x.aU.length<=100000):vX prog 234 [] [.pt (bE x)] ((eu x).map fun n=>[I n]):=by
 refine adb mixed aeX kr fun l I' Stop m nx hI CU h0=>?_;rw[aeY];by_cases U:bO [3,4] x.kind=true
 .have gZ:((eu x).map fun n=>[I n]).length=0:=by simp[eu,U]
  rw[gZ];by_cases M:x.kind=3
  .have l7:(x.kind==3)=true:=by simpa using M
   refine aC (aj ?_);refine aV ?_;(iterate 3 refine z fun _ _=>?_);refine ag ?_;(iterate 5 refine z fun _ _=>?_);refine SS ?_;refine af (ct rfl (fun h=>tR (bH (bD (vy (.inl h0))))) fun h=>oH)
  .have h4:x.kind=4:=by simpa[bO,M] using U
   have l7:(x.kind==3)=false:=by simpa using M
   have CV:(x.kind==4)=true:=by simpa using h4
   refine aC (aj ?_);refine bt ?_;(iterate 5 refine z fun _ _=>?_);refine SS ?_;refine af (ct rfl (fun h=>tR (bH (bD (vy (.inl h0))))) fun h=>oH)
 have U:bO [3,4] x.kind=false:=by simpa using U
 obtain⟨x0,x1,xw,xo,xl⟩:=aaK U;have C:∀ {k:Nat} {n:Int},(eu x)[k]? =some n->((eu x).map fun n=>[I n])[k]? =some [I n]:=fun h=>by simp[h]
 have CZ:((eu x).map fun n=>[I n]).length=pz x+x.aU.length+(if mU x then 1 else 0):=by simpa using xl
 have Vc:x.kind≠3/\x.kind≠4:=by simpa[bO] using U
 refine iC (MU l x I' 1) ?_ fun s hs=>?_
 .have l7:(x.kind==3)=false:=by simpa using Vc.1
  have CV:(x.kind==4)=false:=by simpa using Vc.2
  refine ws ?_;refine bt ?_;refine ay ?_;refine KQ rfl rfl rfl rfl aP ⟨rfl,0,C x0,h0,fun d m' J hp=>?_⟩;rcases hp with⟨rfl,hp⟩|⟨rfl,hp⟩
  .refine ag ?_;exact af (aR rfl (fun h=>oH) fun h=>cO ⟨m',J,aw eH,hp⟩)
  .refine ag ?_;exact af (aR rfl (fun h=>bH (bD (vy (.inr hp)))) fun h=>oH)
 obtain⟨m1,bQ,hg,h1⟩:=hs;refine⟨_,hg,?_⟩;clear hg h0;refine iC (MU l x I' (pz x)) ?_ fun s hs=>?_
 .have X:bO [2,8] x.kind=true->(eu x)[1]? =some x.gN/\pz x=2:=fun h=>⟨x1 h,by simp[pz,h]⟩
  by_cases h2:x.kind=2
  .obtain⟨y1,y2⟩:=X (by rw[h2];rfl);have l7:(x.kind==2)=true:=by simpa using h2
   refine ws ?_;refine aV ?_;(iterate 3 refine z fun _ _=>?_);refine bA ?_;refine KQ rfl rfl rfl rfl aP ⟨rfl,1,C y1,h1,fun d m' J hp=>?_⟩;rcases hp with⟨rfl,hp⟩|⟨rfl,hp⟩
   .refine ag ?_;exact af (aR rfl (fun h=>oH) fun h=>cO ⟨m',J,aw eH,y2▸hp⟩)
   .refine ag ?_;exact af (aR rfl (fun h=>bH (bD (vy (.inr hp)))) fun h=>oH)
  .have l7:(x.kind==2)=false:=by simpa using h2
   by_cases h8:x.kind=8
   .obtain⟨y1,y2⟩:=X (by rw[h8];rfl);have CV:(x.kind==8)=true:=by simpa using h8
    refine ws ?_;refine bt ?_;refine ay ?_;refine KQ rfl rfl rfl rfl aP ⟨rfl,1,C y1,h1,fun d m' J hp=>?_⟩;rcases hp with⟨rfl,hp⟩|⟨rfl,hp⟩
    .refine ag ?_;exact af (aR rfl (fun h=>oH) fun h=>cO ⟨m',J,aw eH,y2▸hp⟩)
    .refine ag ?_;exact af (aR rfl (fun h=>bH (bD (vy (.inr hp)))) fun h=>oH)
   .have CV:(x.kind==8)=false:=by simpa using h8
    have hb:pz x=1:=by simp[pz,bO,h2,h8]
    refine ws ?_;refine bt ?_;(iterate 5 refine z fun _ _=>?_);refine SS ?_;exact af (aR rfl (fun h=>oH) fun h=>cO ⟨m1,bQ,aw eH,hb▸h1⟩)
 obtain⟨m2,gL,hg,h2⟩:=hs;refine⟨_,hg,?_⟩;clear hg;refine iC (MU l x I' (pz x+x.aU.length)) (az ?_) fun s hs=>?_
 .refine aV ?_
  refine af (cy (α:=Nat×Mem×Nat) (fun k=>⟨aA [(0,.fn (.yield l) [] []),(1,.pt (bE x)),(36,lz x.aU),(37,I x.aU.length),(38,I k.1)],k.2.1,k.2.2⟩)
   (fun k=>k.1<=x.aU.length/\I' (pz x+k.1) k.2.1 k.2.2) (fun k=>x.aU.length - k.1) (0,m2,gL) (aw eH) ⟨oG,h2⟩ ?_)
  rintro⟨k,m3,Vd⟩ ⟨hk,Hu⟩;refine SS ?_;refine af ⟨_,rfl,fun h=>?_,fun h=>?_⟩
  .have ah:k<x.aU.length:=by simpa using h
   have hx:x.aU[k]? =some x.aU[k]:=by simp[ah]
   generalize x.aU[k]=w at hx;refine ws ?_;refine aV ?_;refine er ?_;refine ag ?_;refine ax (j9 rfl (al _ _ _) rfl V.h) ak (ka V.h V.h rfl) ?_;refine Ly rfl rfl aP ⟨rfl,pz x+k,C (xw k w hx),hI _ _ _ _ _ Hu oG (fun i hi=>ai oG (ai oG rfl)),fun d m' J hp=>?_⟩;rcases hp with⟨rfl,hp⟩|⟨rfl,hp⟩
   .refine SS ?_;refine af (aR rfl (fun h=>oH) fun h=>c7 ?_);refine ag ?_;exact af (bh (k+1,m',J) (aw eH) ⟨by simp only;omega,hp⟩ (by simp only;omega))
   .refine SS ?_;exact af (aR rfl (fun h=>bH (cv (bD (vy (.inr hp))))) fun h=>oH)
  .have bq:¬ k<x.aU.length:=by simpa using h
   have:k=x.aU.length:=by simp only at hk;omega
   subst this;exact⟨m3,Vd,.forget _ _ _ _ fun t=>pD (l:=[(0,.fn (.yield l) [] []),(1,.pt (bE x))]) ⟨rfl,rfl,trivial⟩ t,Hu⟩
 obtain⟨m3,Vd,hg,M⟩:=hs;refine⟨_,hg,aj ?_⟩;refine bt ?_;refine bt ?_;refine af (aR rfl (fun h=>?_) fun h=>?_)
 .have hc:mU x=true:=by
   revert h;unfold mU bO;simp[ib,or_assoc]
  refine xD ?_;refine ay ?_;refine Ly rfl rfl aP ⟨rfl,_,C (xo hc),M,fun d m' J hp=>?_⟩;refine af (vz ?_);rcases hp with⟨rfl,hp⟩|⟨rfl,hp⟩
  .left;rw[CZ,if_pos hc];exact hp
  .exact .inr hp
 .have hc:mU x=false:=by
   revert h;unfold mU bO;simp[ib,and_assoc]
  refine c7 (vz (.inl ?_));rw[CZ,hc];exact M
theorem LN{x:Argus.End}{b:Int}(hlen:x.aU.length<=1000):aD prog 185 [.agg (bE x),I b] (B (Kk x b)):=by
 have J:∀ a∈[D.agg (bE x),I b],Tr a:=.cons (.agg (qQ x)) (.cons (.s _) .nil);have uw:=uw (x:=x);have hl:=JS x;refine bj ae6 J (Tr.s _) ?_;rw[ae7];refine az ?_;refine SS ?_;refine eC (F6 (d:=.s (.int _ _)) rfl rfl) ak rfl ?_;refine SS ?_;refine af (bJ (dE [(0,bE x,57),(1,[I b],3)] eH (l:=[(2,.pt (bE x)),(3,.pt [I b])]) eH) (aj ?_));refine ag ?_;refine af ?_;refine iC (fun s=>∃ n',aL prog s ⟨aA [(2,.pt (bE x)),(3,.pt [I b]),(5,.rp 2 0)],bu [(2,.cells [I ((eu x).count b:Nat)] 3)],n'⟩) (aj ?_) fun s hs=>?_
 .refine SS ?_;refine cl uw ?_;refine af (pE ?_);refine⟨rfl,trivial,234,[],[.pt (bE x)],(eu x).map (fun n=>[I n]),fun k m nx=>m 2=some (.cells [I (((eu x).take k).count b:Nat)] 3)/\3<=nx,rfl,T6 oG,?_,⟨rfl,oS⟩,?_,?_⟩
  .intro y hy;obtain⟨n,_,rfl⟩:=List.mem_map.1 hy;exact⟨rfl,.cons (.s _) .nil⟩
  .rintro k m nx y hy ⟨aq,M⟩;simp only[List.getElem?_map,cU] at hy;obtain⟨n,hn,rfl⟩:=hy;have hk:k<(eu x).length:=(bM.1 hn).1
   have hc:((eu x).take (k+1)).count b=((eu x).take k).count b+(if n=b then 1 else 0):=by
    rw[List.take_add_one,hn,List.count_append];by_cases e:n=b
    .subst e;simp
    .simp[e]
   have C:((eu x).take k).count b<=k:=Nat.le_trans List.count_le_length oP;generalize ((eu x).take k).count b=c at aq hc C;refine xD ?_;refine SS ?_;refine af (show AW _ _ _ _ _ _ from pE (aj ?_));refine ay ?_;refine af (aR rfl (fun h=>?_) fun h=>?_)
   .have h:n=b:=by simpa using h
    refine xD ?_;refine ag ?_;refine bL (eF (d:=.s (.int _ _)) (cs':=[_]) rfl rfl aq rfl rfl) ak (bY V.h V.h (by first|(simp;done)|exact⟨rfl,bF rfl⟩|(simp;omega)) rfl) ?_;refine af ?_;refine⟨?_,oM⟩;dsimp only;refine(al _ _ _).trans ?_;rw[hc,if_pos h];simp
   .have h:¬ n=b:=by simpa using h
    exact c7 ⟨by rw[hc,if_neg h];exact aq,M⟩
  .rintro m nx ⟨h1,h2⟩;refine⟨nx,cq eH ⟨?_,trivial⟩⟩;rw[h1,List.length_map,List.take_length]
 obtain⟨n',hg⟩:=hs;refine⟨_,hg,aj ?_⟩;refine bt ?_;refine af (aJ (d:=.s (.bool _)) rfl ?_);simp[Kk,dm,ib]
theorem LO{f:FuncId}{cs:List D}{xs:List Int}(hs:vX prog f [] cs (xs.map fun n=>[I n]))(ht:Tr (.fn (.func f) [] cs))(hlen:xs.length<=100000):kv prog 251 [.z,.fn (.func f) [] cs] (xs.map I) xs.length 3:=by
 have X:∀ a∈[D.z,.fn (.func f) [] cs],Tr a:=.cons .z (.cons ht .nil);refine HI ae8 X (.map fun _=>.s _) ?_;rw[ae9];refine ws ?_;refine eC (F6 (d:=.z) rfl rfl) ak rfl ?_;refine SS ?_;refine af ?_;refine iC (fun s=>(xs=[]/\∃ n',aL prog s ⟨aA [(2,.rp 0 0)],bu [(0,.cells [.z] 43)],n'⟩)\/∃ r n',0<r/\aL prog s ⟨aA [(2,.rp 0 0)],bu [(0,.cells [.rs r 0 xs.length] 43),(r,.cells (xs.map I) 3)],n'⟩) (aj ?_) fun s hs=>?_
 .refine SS ?_;refine af (pE ?_);refine⟨rfl,trivial,f,[],cs,xs.map (fun n=>[I n]),fun k m nx=>1<=nx/\((k=0/\m 0=some (.cells [.z] 43))\/(0<k/\∃ r,0<r/\r<nx/\m 0=some (.cells [.rs r 0 k] 43)/\m r=some (.cells ((xs.take k).map I) 3))),rfl,hs,?_,⟨oS,.inl ⟨rfl,rfl⟩⟩,?_,?_⟩
  .intro y hy;obtain⟨n,_,rfl⟩:=List.mem_map.1 hy;exact⟨rfl,.cons (.s _) .nil⟩
  .rintro k m nx y hy ⟨cC,C⟩;simp only[List.getElem?_map,cU] at hy;obtain⟨n,hn,rfl⟩:=hy;have hk:k<xs.length:=(bM.1 hn).1
   have J:(xs.take (k+1)).map I=(xs.take k).map I++[I n]:=by
    rw[List.take_add_one,hn];simp
   refine xD ?_;refine SS ?_;refine af (show AW _ _ _ _ _ _ from pE (xD ?_));rcases C with⟨rfl,aq⟩|⟨sY,r,M,U,aq,gT⟩
   .refine aV ?_;refine bL (eF (d:=.rs _ _ _) (cs':=[_]) rfl rfl (ai oG (ai oG aq)) rfl rfl) ak (bY V.h V.h (by first|(simp;done)|exact⟨rfl,bF rfl⟩|(simp;omega)) rfl) ?_;refine af ?_;refine⟨oM,.inr ⟨oG,nx+1,oG,oM,?_,?_⟩⟩
    .dsimp only;exact(al _ _ _).trans rfl
    .dsimp only;exact(ai oG (al _ _ _)).trans (by rw[J];rfl)
   .have rG:((xs.take k).map I).length=k:=by simp;omega
    refine aV ?_;refine bL (eF (d:=.rs _ _ _) (cs':=[_]) rfl rfl (ai oG (ai oG (ai oG aq))) rfl rfl) ak (bY V.h V.h (by first|(simp;done)|exact⟨rfl,bF rfl⟩|(simp;omega)) rfl) ?_;refine af ?_;refine⟨oM,.inr ⟨oG,nx+1,oG,oM,?_,?_⟩⟩
    .dsimp only;exact(al _ _ _).trans rfl
    .dsimp only;exact(ai oG (al _ _ _)).trans (by rw[J];rfl)
  .rintro m nx ⟨cC,C⟩;rw[List.length_map] at C;rcases C with⟨h0,aq⟩|⟨sY,r,M,U,aq,gT⟩
   .exact .inl ⟨List.length_eq_zero_iff.1 h0,nx,cq eH ⟨aq,trivial⟩⟩
   .refine .inr ⟨r,nx,M,cq eH ⟨aq,?_,trivial⟩⟩;rw[gT,List.take_length]
 rcases hs with⟨rfl,n',hg⟩|⟨r,n',hr,hg⟩
 .refine⟨_,hg,az ?_⟩;refine ag ?_;refine af ⟨_,.sd _ _ _ 4 3 rfl,aJ rfl ⟨n',?_,al _ _ _⟩⟩;rfl
 .refine⟨_,hg,aj ?_⟩;refine ag ?_;refine af (aJ rfl ⟨r,rfl,?_⟩);simp[bu];omega
theorem LP{f:FuncId}{cs:List D}{xs:List Int}(hs:vX prog f [] cs (xs.map fun n=>[I n]))(ht:Tr (.fn (.func f) [] cs))(hlen:xs.length<=100000):kv prog 244 [.fn (.func f) [] cs] (xs.map I) xs.length 3:=by
 have C:∀ a∈[.fn (.func f) [] cs],Tr a:=.cons ht .nil;refine HI ae' C (.map fun _=>.s _) ?_;rw[afa];have LO:=LO hs ht hlen;refine ws ?_;refine SS ?_;refine er ?_;refine SS ?_;refine KP LO rfl aP ?_;refine SS ?_;exact af (aJ rfl ⟨0,rfl,rfl⟩)
end Go.Proofs.Tryz.K
namespace Go.Argus
def swapAt(l:List Int)(j:Nat):List Int:=(l.set (j+1) (l.getD j 0)).set j (l.getD (j+1) 0)
def oB(l:List Int):Nat->List Int
 |0=>l
 |j+1=>if l.getD (j+1) 0<l.getD j 0 then oB (swapAt l j) j else l
def mD(l:List Int):Nat->List Int
 |0=>l
 |k+1=>oB (mD l k) (k+1)
def nB(l:List Int):List Int:=mD l (l.length - 1)
@[simp] theorem al' (l : List Int) (j : Nat) : (swapAt l j).length = l.length := by simp [swapAt]
@[simp] theorem aa4 : ∀ (j : Nat) (l : List Int), (oB l j).length = l.length
 |0,l=>rfl
 |j+1,l=>by simp only[oB];split<;>simp[aa4 j]
@[simp] theorem Pq (l : List Int) : ∀ k, (mD l k).length = l.length
 |0=>rfl
 |k+1=>by simp[mD,Pq l k]
@[simp] theorem Pr (l : List Int) : (nB l).length = l.length := Pq l _
def fe(d:List Int):Nat->List Int
 |0=>[]
 |t+1=>fe d t++(if t≠0/\d.getD t 0=d.getD (t - 1) 0 then [] else [d.getD t 0])
def ng(d:List Int):List Int:=fe d d.length
theorem RA{d:List Int}{x:Int}:∀ {t:Nat},t<=d.length->(x∈fe d t↔x∈d.take t)
 |0,_=>by simp[fe]
 |t+1,ht=>by
  have ih:=RA (d:=d) (x:=x) (t:=t) oG;have hg:d.getD t 0=d[t]:=by simp[du,a8 (show t<d.length by omega)]
  rw[fe,List.mem_append,ih,List.take_succ_eq_append_getElem oG,List.mem_append];split
  .rename_i h;have h1:d[t - 1]? =some d[t - 1]:=a8 oG
   have C:d[t]∈d.take t:=by
    rw[<- hg,h.2];have:d.getD (t - 1) 0=d[t - 1]:=by simp[du,h1]
    rw[this];exact bz (i:=t - 1) (by rw[List.getElem?_take,if_pos oG,h1])
   constructor
   .rintro(h|h)
    .exact .inl h
    .simp at h
   .rintro(h|h)
    .exact .inl h
    .simp at h;subst h;exact .inl C
  .rw[hg]
theorem RB{d:List Int}:∀ t,(fe d t).length<=t
 |0=>by simp[fe]
 |t+1=>by
  have:=RB (d:=d) t;rw[fe,List.length_append];split<;>simp<;>omega
theorem Sp{d:List Int}{t:Nat}(ht:t<d.length)(h0:t≠0)(h:d.getD t 0=d.getD (t - 1) 0):fe d (t+1)=fe d t:=by
 rw[fe,if_pos ⟨h0,h⟩,List.append_nil]
theorem Sq{d:List Int}{t:Nat}(h:d.getD t 0≠d.getD (t - 1) 0):fe d (t+1)=fe d t++[d.getD t 0]:=by
 rw[fe,if_neg fun hh=>h hh.2]
end Go.Argus
namespace Go.Proofs.Tryz.K
theorem ajj{a:Int}:aD prog 277 [I a] (B false):=by
 refine bj afo (by simp[Tr.s]) (Tr.s _) ?_;rw[afp];refine ws ?_;refine SS ?_;refine er ?_;refine aV ?_;refine af (aJ (d:=.s (.bool _)) rfl ?_);simp[bne]
theorem ajk{a b:Int}:aD prog 266 [I a,I b] (B (decide (a<b))):=by
 refine bj afq (by simp[Tr.s]) (Tr.s _) ?_;rw[afr];refine ws ?_;refine SS ?_;refine er ?_;refine SS ?_;refine cl ajj ?_;refine SS ?_;(iterate 3 refine z fun _ _=>?_);refine fV ?_;exact af (aJ (d:=.s (.bool _)) rfl rfl)
theorem ajl{m:Mem}{nx i n:Nat}{l:List Int}(hi:i<nx)(hm:m i=some (.cells (l.map I) 3))(hl:l.length=n)(hn:n<=12):
 fG prog 260 [.rs i 0 n,I 0,I n] m nx (fun r m' X=>r=.aM []/\X=nx/\m'=up m i (some (.cells ((nB l).map I) 3))):=by
 refine uP afs ?_;rw[aft]
 have U:up m i (some (.cells (l.map I) 3))=m:=by
  funext j;simp only[up];split
  .rename_i e;rw[e,hm]
  .rfl
 refine az ?_;refine ay ?_;refine af (nt (α:=Nat) (fun k=>⟨aA [(0,.rs i 0 n),(1,I 0),(2,I n),(6,I (k+1:Nat))],up m i (some (.cells ((mD l k).map I) 3)),nx⟩) (fun k=>k<=n - 1) (fun k=>n - k) 0 (tw eH U.symm) oG ?_);intro k hk;refine ay ?_;refine af ⟨_,rfl,fun h=>?_,fun h=>?_⟩
 .have ah:k+1<n:=by have:((k+1:Nat):Int)<n:=by simpa using h
                    omega
  refine az ?_;refine ag ?_;refine af (adz Zw (α:=List Int×Nat) (fun s=>⟨aA [(0,.rs i 0 n),(1,I 0),(2,I n),(6,I (k+1:Nat)),(7,I s.2)],up m i (some (.cells (s.1.map I) 3)),nx⟩) (fun s=>s.1.length=n/\s.2<=k+1/\oB s.1 s.2=mD l (k+1)) (fun s=>s.2) (mD l k,k+1) (aw eH) ⟨by simp[hl],oS,rfl⟩ ?_);rintro⟨d,j⟩ ⟨hd,hj,hs⟩;simp only at hd hj hs;cases j with
  |zero=>
   have wa:decide ((0:Int)<((0:Nat):Int))=false:=rfl;refine aV ?_;(iterate 10 refine z fun _ _=>?_);refine SS ?_;refine cu cE ⟨_,rfl,fun h=>oH,fun h=>?_⟩;have hs:d=mD l (k+1):=hs;subst hs;show av _ _ _ _ _ _ _ _ _;refine ay ?_;exact af (bh (k+1) (aw eH) oG oG)
  |succ j=>
   have ha:d[j+1]? =some d[j+1]:=a8 oG;have hb:d[j]? =some d[j]:=a8 oG;have J:d.getD (j+1) 0=d[j+1]:=by simp[du,ha]
   have M:d.getD j 0=d[j]:=by simp[du,hb]
   have kd:=na (f:=I) ha;have C:=na (f:=I) hb;generalize hA:d[j+1]=a at ha J kd;generalize hB:d[j]=b at hb M C;clear hA hB;have wa:decide ((0:Int)<((j+1:Nat):Int))=true:=by simp
   have wc:((j+1:Nat):Int) - 1=(j:Int)/\ -9223372036854775808<=(j:Int)/\(j:Int)<=9223372036854775807:=by omega
   refine cm ?_;refine bw rfl rfl (mr rfl rfl (al _ _ _) V.h V.h) (fun hc=>⟨ak,⟨V.h,oG⟩⟩) ?_;refine bw rfl rfl (j9 rfl (al _ _ _) kd V.h) (fun hc=>⟨ak,(ka V.h V.h kd)⟩) ?_;refine ay ?_;refine bw rfl rfl (mr rfl rfl (al _ _ _) V.h V.h) (fun hc=>⟨ak,⟨V.h,oG⟩⟩) ?_;refine bw rfl rfl (j9 rfl (al _ _ _) C V.h) (fun hc=>⟨ak,(ka V.h V.h C)⟩) ?_;refine gc ajk ?_;refine SS ?_;refine cu cE ⟨_,rfl,fun h=>?_,fun h=>?_⟩
   .have h:a<b:=by simpa using h
    refine zU Zx ?_;refine bt ?_;refine ax (j9 rfl (al _ _ _) C V.h) ak (ka V.h V.h C) ?_;refine dM ?_;refine cu cE ?_;refine ay ?_;refine af (bh (swapAt d j,j) (tw eH ?_) ⟨by simp[hd],by simp only;omega,?_⟩ (by simp only;omega))
    .rw[uh,uh];simp only[swapAt,J,M,List.map_set]
    .rw[<- hs];simp only[oB,J,M,if_pos h]
   .have h:¬ a<b:=by simpa using h
    have hs:d=mD l (k+1):=by rw[<- hs];simp only[oB,J,M,if_neg h]
    subst hs;show av _ _ _ _ _ _ _ _ _;refine ay ?_;exact af (bh (k+1) (aw eH) oG oG)
 .have bq:¬ k+1<n:=by have h:¬ ((k+1:Nat):Int)<n:=by simpa using h
                      omega
  refine vz ⟨rfl,rfl,?_⟩;have:k=n - 1:=by omega
  subst this;simp only[nB,hl]
theorem ajm{m:Mem}{nx i n:Nat}{l:List Int}{j7:Int}(hi:i<nx)(hm:m i=some (.cells (l.map I) 3))(hl:l.length=n)(hn:n<=12):
 fG prog 252 [.rs i 0 n,I 0,I n,I j7] m nx (fun r m' C=>r=.aM []/\C=nx/\m'=up m i (some (.cells ((nB l).map I) 3))):=by
 refine uP afu ?_;rw[afv];refine ws ?_;refine SS ?_;refine af (az ?_);refine SS ?_;refine af ⟨_,aw (l:=[(0,.rs i 0 n),(1,I 0),(2,I n)]) eH,pE (Q5 (fun s=>s=⟨aA [(0,.rs i 0 n),(1,I 0),(2,I n)],m,nx⟩) (fun _=>0) rfl fun s hs=>?_)⟩;subst hs;refine pE (aj ?_);refine aV ?_;refine af (aC (aj ?_));refine ag ?_;refine af (ct rfl (fun h=>?_) fun h=>?_)
 .refine aC (aj ?_);refine ay ?_;refine gm (ajl hi hm hl hn) rfl aP fun r m' C hp=>?_;obtain⟨rfl,rfl,rfl⟩:=hp;exact af (ew (ez (bD (ez (vy ⟨rfl,rfl,rfl⟩)))))
 .have:¬ ((n:Int) - 0<=12):=by simpa using h
  omega
theorem LV{n:Nat}(hn:n<=12):∃ r,aD prog 253 [.s (.int .u64 (IntKind.u64.wrap (n:Int)))] (I r):=by
 match n,hn with
 |0,_=>exact⟨0,n1 n8 100 rfl kr⟩
 |1,_=>exact⟨1,n1 n8 100 rfl kr⟩
 |2,_=>exact⟨2,n1 n8 100 rfl kr⟩
 |3,_=>exact⟨2,n1 n8 100 rfl kr⟩
 |4,_=>exact⟨3,n1 n8 100 rfl kr⟩
 |5,_=>exact⟨3,n1 n8 100 rfl kr⟩
 |6,_=>exact⟨3,n1 n8 100 rfl kr⟩
 |7,_=>exact⟨3,n1 n8 100 rfl kr⟩
 |8,_=>exact⟨4,n1 n8 100 rfl kr⟩
 |9,_=>exact⟨4,n1 n8 100 rfl kr⟩
 |10,_=>exact⟨4,n1 n8 100 rfl kr⟩
 |11,_=>exact⟨4,n1 n8 100 rfl kr⟩
 |12,_=>exact⟨4,n1 n8 100 rfl kr⟩
theorem ajn{m:Mem}{nx i n:Nat}{l:List Int}(hi:i<nx)(hm:m i=some (.cells (l.map I) 3))(hl:l.length=n)(hn:n<=12):
 fG prog 245 [.rs i 0 n] m nx (fun r m' C=>r=.aM []/\C=nx/\m'=up m i (some (.cells ((nB l).map I) 3))):=by
 refine uP afw ?_;rw[afx];obtain⟨j7,LV⟩:=LV hn;have aq:=hm;refine ws ?_;refine ay ?_;refine af (xD ?_);refine aV ?_;refine cl LV ?_;refine gm (ajm hi hm hl hn) rfl aP fun r m' C hp=>?_;obtain⟨rfl,rfl,rfl⟩:=hp;exact af (vz ⟨rfl,rfl,rfl⟩)
end Go.Proofs.Tryz.K
namespace Go.Abs
section
variable{P:Program}{env:Env}{m:Mem}{nx:Nat}{x y:Operand}{t p:TypeId}{k:IntKind}{n n':Int}
theorem aca{j i l off:Nat}{e:TypeId}{r:Row}(hx:(opd env x).core=.rs j off l)(hy:(opd env y).core=.s (.int k (i:Int)))(hm:m j=some r)(he:aF P t=e)(hs:P.cellsOf e=1):
 Ef P (.indexAddr t x y) env m nx ⟨bg P t=true/\i<l,.rp j (off+i),[],[j],0⟩:=by
 have h:=F8 (P:=P) (env:=env) (m:=m) (nx:=nx) (t:=t) hx hy hm he hs;have h1:off+((i:Int)).toNat*1=off+i:=by simp
 have h2:(bg P t=true/\(0:Int)<=(i:Int)/\(i:Int)<l)=(bg P t=true/\i<l):=by
  apply propext;constructor
  .rintro⟨a,_,b⟩;exact⟨a,oG⟩
  .rintro⟨a,b⟩;exact⟨a,oG,oG⟩
 rw[h1,h2] at h;exact h
theorem Ps{i l a:Nat}{cs:List D}{e:TypeId}(hx:(opd env x).core=.rs i 0 l)(hm:m i=some (.cells cs e))(he:aF P t=e)(hs:P.cellsOf e=1)(ha:(opd env y).core=.s (.int .i64 (a:Int))):
 Ef P (.slice t x (some y) none none) env m nx ⟨bg P t=true/\a<=l,.rs i a (l - a),[],[i],0⟩:=by
 have h:=EV (P:=P) (env:=env) (m:=m) (nx:=nx) (t:=t) (lo:=some y) (hi:=none) (a:=(a:Int)) (b:=(l:Int)) hx hm he hs (by simp[dX,ha,D.int?]) (by simp[dX]);have h1:0+((a:Int)).toNat*1=a:=by simp
 have C:((l:Int) - (a:Int)).toNat=l - a:=by omega
 have h2:((bg P t=true/\1=1)/\(0:Int)<=(a:Int)/\(a:Int)<=(l:Int)/\(l:Int)<=(l:Int))=(bg P t=true/\a<=l):=by
  apply propext;constructor
  .rintro⟨⟨a,_⟩,_,b,_⟩;exact⟨a,oG⟩
  .rintro⟨a,b⟩;exact⟨⟨a,rfl⟩,oG,oG,oG⟩
 rw[h1,h2,C] at h;exact h
theorem ZA{i l b:Nat}{cs:List D}{e:TypeId}(hx:(opd env x).core=.rs i 0 l)(hm:m i=some (.cells cs e))(he:aF P t=e)(hs:P.cellsOf e=1)(hb:(opd env y).core=.s (.int .i64 (b:Int))):
 Ef P (.slice t x none (some y) none) env m nx ⟨bg P t=true/\b<=l,.rs i 0 b,[],[i],0⟩:=by
 have h:=EV (P:=P) (env:=env) (m:=m) (nx:=nx) (t:=t) (lo:=none) (hi:=some y) (a:=0) (b:=(b:Int)) hx hm he hs (by simp[dX]) (by simp[dX,hb,D.int?]);have h1:0+((0:Int)).toNat*1=0:=by simp
 have C:((b:Int) - 0).toNat=b:=by omega
 have h2:((bg P t=true/\1=1)/\(0:Int)<=0/\(0:Int)<=(b:Int)/\(b:Int)<=(l:Int))=(bg P t=true/\b<=l):=by
  apply propext;constructor
  .rintro⟨⟨a,_⟩,_,_,b⟩;exact⟨a,oG⟩
  .rintro⟨a,b⟩;exact⟨⟨a,rfl⟩,oG,oG,oG⟩
 rw[h1,h2,C] at h;exact h
theorem acy{i off l:Nat}{cs z:List D}{e:TypeId}(hx:(opd env x).core=.rs i off l)(hm:m i=some (.cells cs e))(he:aF P t=e)(hz:a7 P e=z):
 Ef P (.call { callee:=.builtin .clear,args:= #[x],argTypes:= #[t] }) env m nx ⟨bg P t=true/\off+l*P.cellsOf e<=cs.length/\e=e,.aM [],[(i,some (.cells (gB cs off (dz l z)) e))],[i],0⟩:=by
 refine vI («aS»:=[.rs i off l]) rfl (by simp[hx]) ?_;simp only[fE,hm,hz,Array.getD_eq_getD_getElem?,List.getElem?_toArray,List.getElem?_cons_zero,Option.getD_some,he]
theorem X'{cs:List D}{n k:Nat}{x:D}(hn:cs.length=n)(hk:k<=n):gB cs k (dz (n - k) [x])=cs.take k++replicate (n - k) x:=by
 have hr:dz (n - k) [x]=replicate (n - k) x:=by
  unfold dz;generalize n - k=j
  induction j with
  |zero=>rfl
  |succ j ih=>simp[List.replicate_succ,ih]
 rw[hr];unfold gB;split
 .rename_i y e;have h1:n - k=1:=by have:=congrArg List.length e;simpa using this
  rw[h1] at e ⊢;simp at e;subst e;rw[List.set_eq_take_append_cons_drop,if_pos oG,List.drop_eq_nil_of_le oG];rfl
 .rw[List.length_replicate,List.drop_eq_nil_of_le oG,List.append_nil]
end
end Go.Abs
namespace Go.Proofs.Tryz.K
def De(d:List Int)(n:Nat):List D:=(ng d).map I++replicate (n - (ng d).length) (I 0)
def RC(d:List Int)(n:Nat)(m:Mem)(nx i:Nat)(r:D)(m':Mem)(C:Nat):Prop:=C=nx/\r=.rs i 0 (ng d).length/\m'=up m i (some (.cells (De d n) 3))
def adD(d:List Int)(m:Mem)(nx i:Nat)(r:D)(m':Mem)(C:Nat):Prop:=C=nx/\r=.rs i 0 (ng d).length/\∃ c,m'=up m i (some (.cells c 3))/\c.take (ng d).length=(ng d).map I
theorem afy{m:Mem}{nx i n:Nat}{d:List Int}(hi:i<nx)(hm:m i=some (.cells (d.map I) 3))(hl:d.length=n)(hn:n<=100000):fG prog 232 [.rs i 0 n] m nx (RC d n m nx i):=by
 refine uP afz ?_;rw[afA];have aq:=hm
 have U:up m i (some (.cells (d.map I) 3))=m:=by
  funext j;simp only[up];split
  .rename_i e;rw[e,hm]
  .rfl
 have whole:fe d n=d->RC d n m nx i (.rs i 0 n) m nx:=fun h=>by
  have h:ng d=d:=by unfold ng;rw[hl];exact h
  refine⟨rfl,by rw[h,hl],?_⟩;rw[De,h,hl,Nat.sub_self,List.replicate_zero,List.append_nil,U]
 refine ws ?_;refine SS ?_;refine af (aC (aj ?_));refine ay ?_;refine af (ct rfl (fun h=>?_) fun h=>bX (aC (az ?_)))
 .have h:n<2:=by have h:(n:Int)<2:=by simpa using h
                 omega
  refine aC (aj ?_);refine ag ?_;refine af (ew (aJ rfl (whole ?_)))
  match d,n,hl,h with
  |[],_,rfl,_=>rfl
  |[a],_,rfl,_=>rfl
 have h2:2<=n:=by have h:¬ (n:Int)<2:=by simpa using h
                  omega
 refine SS ?_;refine af (cz (fun s=>aL prog s ⟨aA [(0,.rs i 0 n)],m,nx⟩/\fe d n=d) (nt (α:=Nat) (fun k=>⟨aA [(0,.rs i 0 n),(3,I k)],m,nx⟩) (fun k=>1<=k/\k<=n/\fe d k=d.take k) (fun k=>n - k) 1 (aw eH) ⟨oG,oG,?_⟩ ?_) ?_)
 .match d,hl with
  |a::t,_=>rfl
  |[],hl=>simp at hl;omega
 .rintro k ⟨yQ,hk,J⟩;refine aV ?_;refine af ⟨_,rfl,fun h=>?_,fun h=>?_⟩
  .have ah:k<n:=by have h:(k:Int)<n:=by simpa using h
                   omega
   obtain⟨j,rfl⟩:∃ j,k=j+1:=⟨k - 1,oG⟩
   have ha:d[j+1]? =some d[j+1]:=a8 oG;have hb:d[j]? =some d[j]:=a8 oG;have ga:d.getD (j+1) 0=d[j+1]:=by simp[du,ha]
   have gb:d.getD j 0=d[j]:=by simp[du,hb]
   have kd:=na (f:=I) ha;have C:=na (f:=I) hb;have wc:((j+1:Nat):Int) - 1=(j:Int)/\ -9223372036854775808<=(j:Int)/\(j:Int)<=9223372036854775807:=by omega
   refine eg ZB ?_;refine dM ?_;refine ax (j9 rfl aq C V.h) ak (ka V.h V.h C) ?_;refine SS ?_;refine cu cE (aR rfl (fun h=>?_) fun h=>?_)
   .have s4:d[j+1]=d[j]:=by simpa using h
    refine ws ?_;refine ag ?_;refine ax (Ps rfl aq V.h V.h rfl) ak ⟨V.h,oG⟩ ?_;refine SS ?_;refine af (aC (az ?_));refine SS ?_;have ajJ:fe d (j+1+1)=fe d (j+1):=Sp oG oG (by rw[ga,show j+1 - 1=j by omega,gb];exact s4);have sY:(fe d (j+1)).length=j+1:=by rw[J];simp;omega
    clear kd C wc
    refine af (cz (fun s=>∃ (c:List Int) (k:Nat),aL prog s ⟨aA [(0,.rs i 0 n),(3,I (k:Nat))],up m i (some (.cells (c.map I) 3)),nx⟩/\c.length=n/\k<=n/\c.take k=fe d n) (nt (α:=List Int×Nat×Nat) (fun s=>⟨aA [(0,.rs i 0 n),(3,I s.2.1),(4,.rs i (j+1) (n - (j+1))),(5,I (s.2.2+1:Nat))],up m i (some (.cells (s.1.map I) 3)),nx⟩)
     (fun s=>s.1.length=n/\j+1+(s.2.2+1)<=n/\s.2.1<=j+1+s.2.2/\s.1.take s.2.1=fe d (j+1+(s.2.2+1))/\∀ p,j+1+s.2.2<=p->s.1[p]? =d[p]?) (fun s=>n - s.2.2) (d,j+1,0) (tw eH U.symm) ⟨hl,by simp only;omega,by simp only;omega,?_,fun _ _=>rfl⟩ ?_) ?_)
    .show d.take (j+1)=fe d (j+1+1);rw[ajJ,J]
    .rintro⟨c,k,q⟩ ⟨M,w2,w3,w4,X⟩;simp only at M w2 w3 w4 X;dsimp only;refine ag ?_;refine ax (F9 rfl (al _ _ _)) ak V.h ?_;refine SS ?_;refine af ⟨_,rfl,fun h=>?_,fun h=>?_⟩
     .have ah:q+1<n - (j+1):=by have h:((q+1:Nat):Int)<((n - (j+1):Nat):Int):=by simpa using h
                                omega
      have xa:c[j+1+(q+1)]? =some c[j+1+(q+1)]:=a8 oG;have xb:c[j+1+q]? =some c[j+1+q]:=a8 oG;have ya:d.getD (j+1+(q+1)) 0=c[j+1+(q+1)]:=by rw[du, <- X _ oG,xa];rfl
      have yb:d.getD (j+1+q) 0=c[j+1+q]:=by rw[du, <- X _ oG,xb];rfl
      have kd:=na (f:=I) xa;have C:=na (f:=I) xb;generalize hA:c[j+1+(q+1)]=a at xa ya kd;generalize hB:c[j+1+q]=b at xb yb C;clear hA hB;have wc:((q+1:Nat):Int) - 1=(q:Int)/\ -9223372036854775808<=(q:Int)/\(q:Int)<=9223372036854775807:=by omega
      refine eg Ya ?_;refine dM ?_;refine ax (j9 rfl (al _ _ _) C V.h) ak (ka V.h V.h C) ?_;refine SS ?_;refine cu cE (aR rfl (fun h=>?_) fun h=>?_)
      .have aG:a≠b:=by simpa using h
       have hn:=Sq (d:=d) (t:=j+1+(q+1)) (by rw[ya,show j+1+(q+1) - 1=j+1+q by omega,yb];exact aG);refine ws ?_;refine dM ?_;refine af (fF ?_);refine ay ?_;refine af ?_;refine ay ?_;refine af (bh (c.set k a,k+1,q+1) (tw eH ?_) ⟨by simp[M],by simp only;omega,by simp only;omega,?_,fun p hp=>?_⟩ (by simp only;omega))
       .rw[uh,List.map_set]
       .show(c.set k a).take (k+1)=fe d (j+1+(q+1)+1);rw[hn,ya, <- w4,List.take_succ_eq_append_getElem oP];simp;exact List.take_set_of_le (bc k)
       .simp only at hp;show(c.set k a)[p]? =_;rw[List.getElem?_set_ne oG];exact X p oG
      .have ajK:a=b:=by simpa using h
       have hn:=Sp (d:=d) (t:=j+1+(q+1)) oG oG (by rw[ya,show j+1+(q+1) - 1=j+1+q by omega,yb];exact ajK);refine c7 ?_;refine ay ?_;refine af (bh (c,k,q+1) (aw eH) ⟨M,by simp only;omega,by simp only;omega,?_,fun p hp=>X p (by simp only at hp;omega)⟩ (by simp only;omega));show c.take k=fe d (j+1+(q+1)+1);rw[hn,w4]
     .have bq:¬ q+1<n - (j+1):=by have h:¬ ((q+1:Nat):Int)<((n - (j+1):Nat):Int):=by simpa using h
                                  omega
      refine⟨c,k,.forget _ _ _ _ fun t=>pD (l:=[(0,.rs i 0 n),(3,I k)]) ⟨rfl,rfl,trivial⟩ t,M,oG,?_⟩;rw[w4];exact congrArg (fe d) oG
    .rintro s ⟨c,k,hg,M,ck,w2⟩;refine⟨_,hg,aj ?_⟩;refine ag ?_;refine ax (Ps rfl (al _ _ _) V.h V.h rfl) ak ⟨V.h,oG⟩ ?_;refine bL (acy rfl (al _ _ _) V.h V.h) ak ⟨V.h,(by rw[c3];first|(simp;done)|(simp;omega)|omega),rfl⟩ ?_;refine er ?_;refine ag ?_;refine ax (ZA rfl (al _ _ _) V.h V.h rfl) ak ⟨V.h,oG⟩ ?_;refine SS ?_;have dy:(ng d).length=k:=by unfold ng;rw[hl, <- w2];simp;omega
     refine af (bH (cv (bD (aJ (d:=.rs i 0 k) rfl ⟨rfl,by rw[dy],(uh _ _ _ _).trans ?_⟩))));rw[X' (by rw[List.length_map,M]) ck, <- List.map_take,w2,De,dy];unfold ng;rw[hl]
   .have aG:d[j+1]≠d[j]:=by simpa using h
    refine c7 ?_;refine ay ?_;refine af (bh (j+1+1) (aw eH) ⟨oG,oG,?_⟩ oG);rw[Sq (by rw[ga,show j+1 - 1=j by omega,gb];exact aG),J,ga];exact(List.take_succ_eq_append_getElem oG).symm
  .have bq:¬ k<n:=by have h:¬ (k:Int)<n:=by simpa using h
                     omega
   have:k=n:=by omega
   refine⟨.forget _ _ _ _ fun t=>pD (l:=[(0,.rs i 0 n)]) ⟨rfl,trivial⟩ t,?_⟩;rw[<- this,J,dv oG]
 .rintro s ⟨hg,J⟩;refine⟨_,hg,aj ?_⟩;refine ag ?_;exact af (aJ rfl (whole J))
theorem ajL{m:Mem}{nx i n:Nat}{d:List Int}(hi:i<nx)(hm:m i=some (.cells (d.map I) 3))(hl:d.length=n)(hn:n<=100000):fG prog 232 [.rs i 0 n] m nx (adD d m nx i):=by
 refine(afy hi hm hl hn).mono ?_;rintro r m' J ⟨h1,h2,C⟩;refine⟨h1,h2,De d n,C,?_⟩;rw[De,List.take_append_of_le_length oS,dv oS]
end Go.Proofs.Tryz.K
namespace Go.Argus
def iq(x:End)(b:Int)(w:List Int):List Int:=if Kk x b then qZ w (jS x) else w
@[simp] theorem Pt (x : End) (b : Int) (w : List Int) : (iq x b w).length = w.length := by unfold iq; split <;> simp
def zZ(l:List Int):List Int:=ng (nB l)
structure pY(x:cV):Prop where
 rd:∀ r∈ea x,0<=r/\r<1200
 sl:x.op=17\/x.op=18->0<=x.n/\x.n<80
 wr: -1000000<=ke x/\ke x<1200
 ar:x.op=10\/x.op=38->x.args.length<=1000
structure Df(x:End):Prop where
 rd:∀ r∈dU x,0<=r/\r<1200
 wr: -1000000<=jS x/\jS x<1200
 wh:x.aU.length<=9
 a1:x.kind=5->x.ins.op=10\/x.ins.op=38->x.ins.args.length<=1000
 a2:x.kind=6\/x.kind=7->x.args.length<=1000
def lE(w:List Int)(ok:Bool)(rs:List Int):Bool:=rs.foldl (fun ok r=>ok&&p9 w r.toNat) ok
def Kq(w:List Int)(x:cV):List Int:=qZ w (if x.op=18 then mZ x.n else ke x)
def Tu(s:List Int×Bool)(x:cV):List Int×Bool:=(Kq s.1 x,lE s.1 s.2 (ea x)&&(x.op !=17||p9 s.1 (mZ x.n).toNat))
def kC(l:List cV)(w:List Int):List Int×Bool:=l.foldl Tu (w,true)
def mq(b:bI)(w:List Int):List Int×Bool:=((kC b.ins w).1,lE (kC b.ins w).1 (kC b.ins w).2 (dU b.fin))
theorem BV{α β:Type}{f:β->α->β}{z:β}{l:List α}{k:Nat}{x:α}(h:l[k]? =some x):(l.take (k+1)).foldl f z=f ((l.take k).foldl f z) x:=by
 rw[List.take_add_one,h,List.foldl_append];rfl
theorem Jr(l:List cV)(w:List Int):(kC l w).1.length=w.length:=by
 unfold kC;generalize true=b
 induction l generalizing w b with
 |nil=>rfl
 |cons x l ih=>rw[List.foldl_cons];exact(ih _ _).trans (by simp[Kq])
theorem Ii(b:bI)(w:List Int):(mq b w).1.length=w.length:=Jr _ _
def cT(l:List (List Int)):List D:=l.flatMap fun w=>w.map cP
theorem JW{sz:Nat}:∀ {l:List (List Int)} {i:Nat} {w:List Int},(∀ w∈l,w.length=sz)->l[i]? =some w->(cT l).drop (i*sz)=w.map cP++(cT (l.drop (i+1)))
 |[],i,w,_,h=>by simp at h
 |a::l,0,w,_,h=>by simp at h;subst h;simp[cT]
 |a::l,i+1,w,hs,h=>by
  have ha:(a.map cP).length=sz:=by simpa using hs a oS
  have h1:(i+1)*sz=(a.map cP).length+i*sz:=by rw[ha,Nat.add_mul];omega
  have ih:=JW (l:=l) (i:=i) (w:=w) (fun w C=>hs w (by simp[C])) (by simpa using h);unfold cT at ih ⊢;rw[List.flatMap_cons,h1, <- List.drop_drop,List.drop_left,ih,List.drop_succ_cons]
theorem GS{sz:Nat}{l:List (List Int)}{i:Nat}{w:List Int}(h:∀ w∈l,w.length=sz)(hi:l[i]? =some w):((cT l).drop (i*sz)).take sz=w.map cP:=by
 rw[JW h hi,List.take_append_of_le_length (by simp[h w (bz hi)]),dv (by simp[h w (bz hi)])]
theorem IY{sz:Nat}:∀ {l:List (List Int)},(∀ w∈l,w.length=sz)->(cT l).length=l.length*sz
 |[],_=>by simp[cT]
 |a::l,h=>by
  have:=IY (l:=l) fun w C=>h w (by simp[C]);unfold cT at this ⊢;rw[List.flatMap_cons,List.length_append,this,List.length_map,h a oS,List.length_cons,Nat.add_mul];omega
theorem xW{sz:Nat}{l:List (List Int)}{i:Nat}{w:List Int}(h:∀ w∈l,w.length=sz)(hi:l[i]? =some w):i*sz+sz<=(cT l).length:=by
 rw[IY h];have:=(bM.1 hi).1;rw[<- Nat.succ_mul];exact Nat.mul_le_mul_right _ this
theorem S0{sz:Nat}(hz:2<=sz):∀ {l:List (List Int)} {i:Nat} {w v:List Int},(∀ w∈l,w.length=sz)->l[i]? =some v->w.length=sz->gB (cT l) (i*sz) (w.map cP)=cT (l.set i w):=by
 intro l i w v h hi C
 have key:gB (cT l) (i*sz) (w.map cP)=(cT l).take (i*sz)++w.map cP++(cT l).drop (i*sz+(w.map cP).length):=by
  unfold gB;split
  .rename_i x hx;have:(w.map cP).length=1:=by rw[hx];rfl
   simp at this;omega
  .rfl
 rw[key,List.length_map,C];clear key
 induction l generalizing i with
 |nil=>simp at hi
 |cons a l ih=>
  have ha:(a.map cP).length=sz:=by simpa using h a oS
  cases i with
  |zero=>
   simp only[Nat.zero_mul,List.take_zero,List.nil_append,Nat.zero_add,List.set_cons_zero];unfold cT;rw[List.flatMap_cons,List.flatMap_cons, <- ha,List.drop_left]
  |succ i=>
   have ih:=ih (i:=i) (fun w C=>h w (by simp[C])) (by simpa using hi);simp only[List.set_cons_succ];unfold cT at ih ⊢;rw[List.flatMap_cons,List.flatMap_cons, <- ih,show(i+1)*sz=(a.map cP).length+i*sz by rw[ha,Nat.add_mul];omega,List.take_length_add_append,Nat.add_assoc,List.drop_length_add_append];simp
theorem abf(n:Nat)(w:List Int):dz n (w.map cP)=cT (replicate n w):=by
 unfold dz cT
 induction n with
 |zero=>rfl
 |succ n ih=>rw[List.replicate_succ,List.replicate_succ,List.flatten_cons,List.flatMap_cons,ih]
theorem acz(n:Nat)(b:Bool):dz n [B b]=(replicate n b).map B:=by
 unfold dz
 induction n with
 |zero=>rfl
 |succ n ih=>rw[List.replicate_succ,List.replicate_succ,List.flatten_cons,List.map_cons,ih];rfl
theorem adE(l:List (List Int)):∀ a∈cT l,Tr a:=.flat fun w=>.map fun _=>.s _
theorem JX{sz:Nat}{l:List (List Int)}{i:Nat}{w:List Int}(h:∀ w∈l,w.length=sz)(C:w.length=sz):∀ u∈l.set i w,u.length=sz:=fun u hu=>by
 rcases List.mem_or_eq_of_mem_set hu with h1|h1
 .exact h u h1
 .rw[h1];exact C
theorem Qx:∀ {w v:List Int},w.length=v.length->ov (w.map cP) (v.map cP)=some (w.map (Value.int .u64),v.map (Value.int .u64))
 |[],[],_=>rfl
 |a::w,b::v,h=>by
  have:=Qx (w:=w) (v:=v) (by simpa using h);simp[ov,xR,this]
theorem Qy:∀ {w v:List Int},w.length=v.length->gK (w.map (Value.int .u64)) (v.map (Value.int .u64))=(w==v)
 |[],[],_=>rfl
 |a::w,b::v,h=>by
  have:=Qy (w:=w) (v:=v) (by simpa using h);simp[gK,p0,this]
theorem ZD(w:List Int):(w.map (Value.int .u64)).map jF=replicate w.length 0:=by
 induction w with
 |nil=>rfl
 |cons a w ih=>simpa[jF,List.replicate_succ] using ih
end Go.Argus
namespace Go.Proofs.Tryz.K
theorem LZ{f:FuncId}{cs:List D}{xs:List Int}(hs:vX prog f [] cs (xs.map fun n=>[I n]))(ht:Tr (.fn (.func f) [] cs))(hlen:xs.length<=12):kv prog 233 [.fn (.func f) [] cs] ((nB xs).map I) xs.length 3:=by
 have C:∀ a∈[.fn (.func f) [] cs],Tr a:=.cons ht .nil;refine HI afB C (.map fun _=>.s _) ?_;rw[afC];have LP:=LP hs ht oG;refine ws ?_;refine SS ?_;refine er ?_;refine SS ?_;refine KP LP rfl aP ?_;refine SS ?_;refine er ?_;refine SS ?_;refine gm (ajn (i:=0) (l:=xs) oG rfl rfl hlen) rfl aP fun r m' J hp=>?_;obtain⟨rfl,rfl,rfl⟩:=hp;refine er ?_;refine ag ?_;exact af (aJ rfl ⟨0,rfl,rfl⟩)
theorem uz{f:FuncId}{cs:List D}{xs:List Int}(hs:vX prog f [] cs (xs.map fun n=>[I n]))(ht:Tr (.fn (.func f) [] cs))(hlen:xs.length<=12):aD prog 174 [.fn (.func f) [] cs] (aQ (zZ xs)):=by
 have C:∀ a∈[.fn (.func f) [] cs],Tr a:=.cons ht .nil;refine bj afD C (c6 _) ?_;rw[afE];have LZ:=LZ hs ht hlen;refine ws ?_;refine SS ?_;refine af (az ?_);refine SS ?_;refine KP LZ rfl aP ?_;refine gm (ajL (i:=0) (d:=nB xs) (n:=xs.length) oG rfl oS oG) rfl aP fun r m' J hp=>?_;obtain⟨rfl,rfl,c,rfl,hc⟩:=hp;refine SS ?_;refine af (bJ (dE [(0,c,3)] ⟨al _ _ _,trivial⟩ (l:=[(2,aQ (zZ xs))]) ⟨?_,trivial⟩) (aJ rfl rfl));exact vU c3 (by rw[List.drop_zero,Nat.mul_one];exact hc)
def nextR(x:Argus.End):List Int:=zZ (eu x)
theorem Sr{x:Argus.End}(hlen:x.aU.length<=9):aD prog 174 [.fn (.func 234) [] [.pt (bE x)]] (aQ (nextR x)):=
 uz (T6 oG) (.fn oS (.cons (.pt (qQ x)) .nil)) (by have:=JS x;omega)
theorem wq{x:Argus.End}{b:Int}{w:List Int}(J:w.length=20)(hlen:x.aU.length<=1000)(hn: -1000000<=jS x/\jS x<1280):aD prog 134 [.agg (bE x),I b,gp w] (gp (iq x b w)):=by
 have C:∀ a∈[D.agg (bE x),I b,gp w],Tr a:=.cons (.agg (qQ x)) (.cons (.s _) (.cons (qb _) .nil));refine bj afF C (qb _) ?_;rw[afG];have LN:=LN (x:=x) (b:=b) hlen;refine ws ?_;refine ay ?_;refine af (aC (aj ?_));refine ag ?_;refine cl LN ?_;refine af (ct rfl (fun h=>?_) fun h=>bX (aj ?_))
 .have L1:=L1 (x:=x);have qd:=qd (w:=w) (n:=jS x) J hn;refine aC (eg ZC ?_);refine ag ?_;refine cl L1 ?_;refine cl qd ?_;refine SS ?_;refine cu cE (ew (ss (gP rfl rfl a201 rj (nw oP) t201 oP) ?_));simp[iq,h]
 .refine ag ?_;refine af (ss (gP rfl rfl a201 rj (nw oP) t201 oP) ?_);simp[iq,h]
theorem nN{b:bI}{w:List Int}(hw:w.length=20)(hl:b.ins.length<=100000)(hi:∀ x∈b.ins,pY x)(hf:Df b.fin)(Bn:∀ x∈b.ins,(ea x).length<=100000)(jt:(dU b.fin).length<=100000):aD prog 133 [.agg (bS b),gp w] (.aM [gp (mq b w).1,B (mq b w).2]):=by
 have bf:∀ a∈[D.agg (bS b),gp w],Tr a:=.cons (.agg (Pu b)) (.cons (qb _) .nil);refine bj afH bf (.aM (.cons (qb _) (.cons (.s _) .nil))) ?_;rw[afI];refine ws ?_;refine eC (sg (cs:=bS _) rfl) ak (by first|rfl|exact rR eE bN|exact nJ _|exact ud rF) ?_;refine ay ?_;refine af (az ?_);refine SS ?_;refine af (bJ (cq (l:=[(2,.rp 0 0),(3,.rp 1 0),(4,.rp 2 0),(6,B true)]) (ml:=[(0,.cells (bS b) 59),(1,.cells (w.map cP) 201),(2,.cells (replicate 20 (cP 0)) 201)]) eH eH) (aC (az ?_)));refine aV ?_
 refine af (cz (fun s=>∃ n',3<=n'/\aL prog s ⟨aA [(2,.rp 0 0),(3,.rp 1 0),(4,.rp 2 0),(6,B (kC b.ins w).2)],bu [(0,.cells (bS b) 59),(1,.cells ((kC b.ins w).1.map cP) 201),(2,.cells (replicate 20 (cP 0)) 201)],n'⟩) (cy (α:=Nat×Nat)
  (fun k=>⟨aA [(2,.rp 0 0),(3,.rp 1 0),(4,.rp 2 0),(6,B (kC (b.ins.take k.1) w).2),(14,lD b.ins),(15,I b.ins.length),(16,I k.1)],bu [(0,.cells (bS b) 59),(1,.cells ((kC (b.ins.take k.1) w).1.map cP) 201),(2,.cells (replicate 20 (cP 0)) 201)],k.2⟩)
  (fun k=>k.1<=b.ins.length/\3<=k.2) (fun k=>b.ins.length - k.1) (0,3) (cq eH eH) ⟨oS,oS⟩ ?_) ?_)
 .rintro⟨k,N⟩ ⟨hk,hN⟩;dsimp only at hk hN ⊢;refine SS ?_;refine af ⟨_,rfl,fun h=>?_,fun h=>?_⟩
  .have ah:k<b.ins.length:=by simpa using h
   have hx:b.ins[k]? =some b.ins[k]:=by simp[ah]
   have l5:b.ins[k]∈b.ins:=gi ah;generalize b.ins[k]=x at hx l5;obtain⟨ird,VB,iwr,iar⟩:=hi x l5;have C:kC (b.ins.take (k+1)) w=Tu (kC (b.ins.take k) w) x:=BV hx;have hlen:(kC (b.ins.take k) w).1.length=20:=by rw[Jr,hw]
   generalize kC (b.ins.take k) w=u at C hlen;obtain⟨v,ok⟩:=u;dsimp only at hlen ⊢;refine ws ?_;refine aV ?_;refine af (aC (az ?_));have A5:=A5 (x:=x) iar;refine SS ?_;refine cl A5 ?_;refine ag ?_;have amn:=Bn x l5
   refine af (cz (fun s=>aL prog s ⟨aA [(2,.rp 0 0),(3,.rp 1 0),(4,.rp 2 0),(6,B (lE v ok (ea x))),(8,.rp N 0),(14,lD b.ins),(15,I b.ins.length),(16,I k)],up (bu [(0,.cells (bS b) 59),(1,.cells (v.map cP) 201),(2,.cells (replicate 20 (cP 0)) 201)]) N (some (.cells (cA x) 54)),N+1⟩) (cy (α:=Nat)
    (fun j=>⟨aA [(2,.rp 0 0),(3,.rp 1 0),(4,.rp 2 0),(6,B (lE v ok ((ea x).take j))),(8,.rp N 0),(14,lD b.ins),(15,I b.ins.length),(16,I k),(21,aQ (ea x)),(22,I (ea x).length),(23,I j)],up (bu [(0,.cells (bS b) 59),(1,.cells (v.map cP) 201),(2,.cells (replicate 20 (cP 0)) 201)]) N (some (.cells (cA x) 54)),N+1⟩)
    (fun j=>j<=(ea x).length) (fun j=>(ea x).length - j) 0 (tw eH (uh _ _ _ _)) oG ?_) ?_)
   .intro j hj;refine SS ?_;refine af ⟨_,rfl,fun h=>?_,fun h=>?_⟩
    .have J:j<(ea x).length:=by simpa using h
     have hr:(ea x)[j]? =some (ea x)[j]:=by simp[J]
     have U:(ea x)[j]∈ea x:=gi J;generalize (ea x)[j]=r at hr U;have oI:=ird r U;obtain⟨M,rfl⟩:=iQ oI.1;have lh:=lh (w:=v) (m:=M) hlen oG;refine ws ?_;refine ay ?_;refine af (fF ?_);refine aV ?_;refine gc lh ?_;refine ag ?_;refine af ?_;refine ag ?_;refine af (bh (j+1) (aw ⟨rfl,rfl,rfl,?_,rfl,rfl,rfl,rfl,rfl,rfl,rfl,trivial⟩) oG oG)
     have e:lE v ok ((ea x).take (j+1))=(lE v ok ((ea x).take j)&&p9 v M):=by
      unfold lE;rw[BV hr,iv]
     rw[e];generalize lE v ok ((ea x).take j)=g;cases g<;>rfl
    .have bq:¬ j<(ea x).length:=by simpa using h
     refine aw ⟨rfl,rfl,rfl,?_,rfl,rfl,rfl,rfl,trivial⟩;show B _=B _;rw[dv oG]
   .intro s hg;have C:kC (b.ins.take (k+1)) w=(Kq v x,lE v ok (ea x)&&(x.op !=17||p9 v (mZ x.n).toNat)):=C;generalize lE v ok (ea x)=Nr at hg C;have Dt:=Dt (w:=v) (x:=x) hlen (fun h=>VB (.inr h)) (fun _=>by omega);have fin:∀ (d:Bool) env,d=(Nr&&(x.op !=17||p9 v (mZ x.n).toNat))->kV [(2,.rp 0 0),(3,.rp 1 0),(4,.rp 2 0),(6,B d),(8,.rp N 0),(14,lD b.ins),(15,I b.ins.length),(16,I k)] env->True:=fun _ _ _ _=>trivial;refine⟨_,hg,?_⟩;cases Nr with
    |false=>
     have ur:false=true->aD prog 182 [I x.n] (I (mZ x.n)):=fun h=>by cases h
     have lh:false=true->aD prog 135 [gp v,I (mZ x.n)] (B true):=fun h=>by cases h
     refine eg IB ?_;refine bt ?_;refine tU rfl rfl rfl (fun hc=>⟨ak,ur hc⟩) ?_;refine tU rfl rfl rfl (fun hc=>⟨ak,lh hc⟩) ?_;refine ay ?_;refine cu cE (fF ?_);refine ag ?_;refine cl Dt ?_;refine SS ?_;refine af ?_;refine ag ?_;refine af (bh (k+1,N+1) (cq ⟨rfl,rfl,rfl,?_,rfl,rfl,rfl,trivial⟩ ⟨ai oG (ai oG rfl),?_,ai oG (ai oG rfl),trivial⟩) ⟨oM,oM⟩ oM)
     .dsimp only;rw[C];rfl
     .dsimp only;rw[C];exact al _ _ _
    |true=>
     by_cases zt:x.op=17
     .have sN:(x.op !=17)=false:=by simp[zt]
      have amJ:=VB (.inl zt);have ur:=ur (n:=x.n) oG;obtain⟨sn,X⟩:=iQ (show 0<=mZ x.n by unfold mZ;omega);have lh:=lh (w:=v) (m:=sn) hlen (by unfold mZ at X;omega);rw[<- X] at lh;refine eg IB ?_;refine aV ?_;refine Uz ?_;refine aV ?_;refine gc ur ?_;refine gc lh ?_;refine ay ?_;refine cu cE (fF ?_);refine ag ?_;refine cl Dt ?_;refine SS ?_;refine af ?_;refine ag ?_;refine af (bh (k+1,N+1) (cq ⟨rfl,rfl,rfl,?_,rfl,rfl,rfl,trivial⟩ ⟨ai oG (ai oG rfl),?_,ai oG (ai oG rfl),trivial⟩) ⟨oM,oM⟩ oM)
      .dsimp only;rw[C,sN,X];rfl
      .dsimp only;rw[C];exact al _ _ _
     .have sN:(x.op !=17)=true:=by simp[zt]
      have ur:false=true->aD prog 182 [I x.n] (I (mZ x.n)):=fun h=>by cases h
      have lh:false=true->aD prog 135 [gp v,I (mZ x.n)] (B true):=fun h=>by cases h
      refine eg IB ?_;refine aV ?_;refine Uz ?_;refine SS ?_;(iterate 5 refine z fun _ _=>?_);refine ay ?_;refine cu cE (fF ?_);refine ag ?_;refine cl Dt ?_;refine SS ?_;refine af ?_;refine ag ?_;refine af (bh (k+1,N+1) (cq ⟨rfl,rfl,rfl,?_,rfl,rfl,rfl,trivial⟩ ⟨ai oG (ai oG rfl),?_,ai oG (ai oG rfl),trivial⟩) ⟨oM,oM⟩ oM)
      .dsimp only;rw[C,sN];rfl
      .dsimp only;rw[C];exact al _ _ _
  .have bq:¬ k<b.ins.length:=by simpa using h
   have yS:b.ins.take k=b.ins:=dv oG;refine⟨N,hN,?_⟩;rw[yS];exact aw eH
 .rintro s ⟨n',ic,hg⟩;have hlen:(kC b.ins w).1.length=20:=by rw[Jr,hw]
  have VC:mq b w=((kC b.ins w).1,lE (kC b.ins w).1 (kC b.ins w).2 (dU b.fin)):=rfl;rw[VC];generalize kC b.ins w=u at hg hlen ⊢;obtain⟨v,ok⟩:=u;dsimp only at hlen hg ⊢;have L2:=L2 (x:=b.fin) hf.a1 hf.a2;refine⟨_,hg,aC (az ?_)⟩;refine ag ?_;refine cl L2 ?_;refine ag ?_
  refine af (cz (fun s=>aL prog s ⟨aA [(3,.rp 1 0),(4,.rp 2 0),(6,B (lE v ok (dU b.fin)))],bu [(1,.cells (v.map cP) 201),(2,.cells (replicate 20 (cP 0)) 201)],n'⟩) (cy (α:=Nat)
   (fun j=>⟨aA [(3,.rp 1 0),(4,.rp 2 0),(6,B (lE v ok ((dU b.fin).take j))),(53,aQ (dU b.fin)),(54,I (dU b.fin).length),(55,I j)],bu [(1,.cells (v.map cP) 201),(2,.cells (replicate 20 (cP 0)) 201)],n'⟩)
   (fun j=>j<=(dU b.fin).length) (fun j=>(dU b.fin).length - j) 0 (cq eH eH) oG ?_) ?_)
  .intro j hj;refine SS ?_;refine af ⟨_,rfl,fun h=>?_,fun h=>?_⟩
   .have J:j<(dU b.fin).length:=by simpa using h
    have hr:(dU b.fin)[j]? =some (dU b.fin)[j]:=by simp[J]
    have U:(dU b.fin)[j]∈dU b.fin:=gi J;generalize (dU b.fin)[j]=r at hr U;have oI:=hf.rd r U;obtain⟨M,rfl⟩:=iQ oI.1;have lh:=lh (w:=v) (m:=M) hlen oG;refine ws ?_;refine ay ?_;refine af (fF ?_);refine ag ?_;refine bw rfl rfl (ff rfl rfl V.h V.h (nw (by first|rfl|exact bF rfl|(simp;done)|(simp;omega)|omega))) (fun hc=>⟨ak,(fh V.h V.h (by first|rfl|exact bF rfl|(simp;done)|(simp;omega)|omega))⟩) ?_;refine SS ?_;refine gc lh ?_;refine ag ?_;refine af ?_;refine ag ?_;refine af (bh (j+1) (aw ⟨rfl,rfl,?_,rfl,rfl,rfl,trivial⟩) oG oG)
    have e:lE v ok ((dU b.fin).take (j+1))=(lE v ok ((dU b.fin).take j)&&p9 v M):=by
     unfold lE;rw[BV hr,iv]
    rw[e];generalize lE v ok ((dU b.fin).take j)=g;cases g<;>rfl
   .have bq:¬ j<(dU b.fin).length:=by simpa using h
    refine aw ⟨rfl,rfl,?_,trivial⟩;show B _=B _;rw[dv oG]
  .intro s hg;refine⟨_,hg,aj ?_⟩;refine aV ?_;exact af (mY (gP rfl rfl a201 rj (nw oP) t201 oP) rfl rfl)
end Go.Proofs.Tryz.K
end
namespace Go.Argus
open Go.Abs
theorem Ym{l:List Int}{j:Nat}(hj:j+1<l.length){x:Int}:x∈swapAt l j↔x∈l:=by
 have ha:l.getD j 0=l[j]:=by simp[du,a8 (show j<l.length by omega)]
 have hb:l.getD (j+1) 0=l[j+1]:=by simp[du,a8 hj]
 unfold swapAt;rw[ha,hb];exact(List.set_set_perm (show j+1<l.length from hj) (show j<l.length by omega)).mem_iff
theorem QF{x:Int}:∀ (j:Nat) {l:List Int},j<l.length->(x∈oB l j↔x∈l)
 |0,l,_=>Iff.rfl
 |j+1,l,hj=>by
  simp only[oB];split
  .exact(QF j oP).trans (Ym hj)
  .exact Iff.rfl
theorem PG{l:List Int}{x:Int}:∀ k,k<l.length->(x∈mD l k↔x∈l)
 |0,_=>Iff.rfl
 |k+1,h=>by
  simp only[mD];exact(QF (k+1) (by simpa using h)).trans (PG k oG)
theorem ZU{l:List Int}{x:Int}:x∈nB l↔x∈l:=by
 unfold nB;cases l with
 |nil=>simp[mD]
 |cons a l=>exact PG _ oS
theorem Om{l:List Int}{x:Int}:x∈zZ l↔x∈l:=by
 unfold zZ ng;rw[RA (bc _),List.take_length];exact ZU
theorem wrap_u64{n:Nat}(h:n<2 ^ 64):IntKind.u64.wrap (n:Int)=n:=by
 unfold IntKind.wrap;simp[IntKind.signed,IntKind.bits];omega
theorem acB{a b:Int}(ha:0<=a/\a<18446744073709551616):0<=wu a b/\wu a b<=a:=by
 unfold wu lx;simp only;rw[wrap_u64 (n:=(BitVec.ofInt IntKind.u64.bits a&&& BitVec.ofInt IntKind.u64.bits b).toNat) (BitVec.isLt (w:=64) _)];obtain⟨n,rfl⟩:=iQ ha.1
 have h1:(BitVec.ofInt IntKind.u64.bits (n:Int)).toNat=n:=by
  rw[BitVec.toNat_ofInt];show((n:Int) % ((2 ^ 64:Nat):Int)).toNat=n;omega
 have h2:(BitVec.ofInt IntKind.u64.bits (n:Int)&&& BitVec.ofInt IntKind.u64.bits b).toNat<=n:=by
  rw[BitVec.toNat_and,h1];exact Nat.and_le_left
 omega
end Go.Argus
section
open Go Go.Abs Go.Proofs Go.Argus
namespace Go.Abs
section
variable{P:Program}{env:Env}{m:Mem}{nx:Nat}{x y:Operand}{t p:TypeId}{k:IntKind}{n n':Int}
theorem Cl{j i l sz:Nat}{e:TypeId}{r:Row}(hx:(opd env x).core=.rs j 0 l)(hy:(opd env y).core=.s (.int k (i:Int)))(hm:m j=some r)(he:aF P t=e)(hs:P.cellsOf e=sz):
 Ef P (.indexAddr t x y) env m nx ⟨bg P t=true/\i<l,.rp j (i*sz),[],[j],0⟩:=by
 have h:=F8 (P:=P) (env:=env) (m:=m) (nx:=nx) (t:=t) hx hy hm he hs;have h1:0+((i:Int)).toNat*sz=i*sz:=by simp
 have h2:(bg P t=true/\(0:Int)<=(i:Int)/\(i:Int)<l)=(bg P t=true/\i<l):=by
  apply propext;constructor
  .rintro⟨a,_,b⟩;exact⟨a,oG⟩
  .rintro⟨a,b⟩;exact⟨a,oG,oG⟩
 rw[h1,h2] at h;exact h
theorem abg{ps:Array (Nat×Operand)}{e:TypeId}{l:Nat}{z:List D}(hu:P.underlying t=some (.array l e))(hp:ps.toList=[])(hz:a7 P t=z):Ef P (.build t ps) env m nx ⟨aI P t=true/\aI P e=true,.agg z,[],[],0⟩:=by
 refine⟨?_,rfl,rfl⟩;simp only[bd,hu,hp,hz,List.map_nil,gF,Option.map_some]
theorem Tn{xs ys:List D}{us vs:List Value}{ks:List Nat}(hx:(opd env x).core=.agg xs)(hy:(opd env y).core=.agg ys)(hf:vH P t=some ks)(hz:ov xs ys=some (us,vs)){c:Bool}(hc:(!gK us vs)=c):
 Ef P (.binOp .neq t x y p) env m nx ⟨us.map jF=ks/\P.eqGuardType P.depth t=false,.s (.bool c),[],[],0⟩:=by
 refine⟨?_,rfl,rfl⟩
 have hn:mG P m .neq t (.agg xs) y=none:=by
  unfold mG;split<;>first|rfl|(rename_i h;cases h)
 simp only[bd,aZ,hx,hy,hn,um,xx,hf,hz,hc,Option.map_some]
end
def yx(cs:List D):Prop:=∀ d∈cs,∃ v,d=.s v
theorem yx.map{α:Type}{f:α->Value}{l:List α}:yx (l.map fun x=>.s (f x)):=fun d hd=>by
 obtain⟨x,_,rfl⟩:=List.mem_map.1 hd;exact⟨_,rfl⟩
theorem afJ{i sz:Nat}{C cs:List D}(h:yx cs):cs.map (sub (cJ i C sz))=cs:=by
 induction cs with
 |nil=>rfl
 |cons d cs ih=>
  obtain⟨v,rfl⟩:=h d oS;rw[List.map_cons,ih fun d hd=>h d (by simp[hd])];rfl
theorem acA{m:Mem}{i j sz:Nat}{J cs:List D}{e:TypeId}(C:j≠i)(hm:m j=some (.cells cs e))(h:yx cs):(if j=i then none else(m j).map (Row.sub (cJ i J sz)))=some (.cells cs e):=by
 rw[if_neg C,hm];show some (Row.cells (cs.map _) e)=_;rw[afJ h]
theorem adF{i sz n:Nat}{C es:List D}:sub (cJ i C sz) (.sl es n)=.sl es n:=rfl
theorem IZ{i j sz off n:Nat}{C:List D}(h:j≠i):sub (cJ i C sz) (.rs j off n)=.rs j off n:=by
 show(if j=i then _ else D.rs j off n)=_;rw[if_neg h]
theorem jR{i sz n:Nat}{C:List D}(h:C.length=n*sz):sub (cJ i C sz) (.rs i 0 n)=.sl C n:=by
 show(if i=i then D.sl ((C.drop 0).take (n*sz)) n else _)=_;rw[if_pos rfl,List.drop_zero,dv oG]
end Go.Abs
namespace Go.Proofs.Tryz.K
theorem afK:vH prog 201=some (replicate 20 0):=kr
theorem afL:prog.eqGuardType prog.depth 201=false:=kr
theorem afM:a7 prog 201=(replicate 20 (0:Int)).map cP:=z201
theorem ajM:prog.underlying 201=some (.array 20 199):=kr
section
variable{env:Env}{m:Mem}{nx:Nat}{x y:Operand}{p:TypeId}
theorem afN{w v:List Int}(hx:(opd env x).core=gp w)(hy:(opd env y).core=gp v)(h:w.length=v.length):Ef prog (.binOp .neq 201 x y p) env m nx ⟨(w.map (Value.int .u64)).map jF=replicate 20 0/\prog.eqGuardType prog.depth 201=false,B (w !=v),[],[],0⟩:=
 Tn hx hy afK (Qx h) (by rw[Qy h];rfl)
theorem afO{w:List Int}(h:w.length=20):(w.map (Value.int .u64)).map jF=replicate 20 0/\prog.eqGuardType prog.depth 201=false:=⟨by rw[ZD,h],afL⟩
end
end Go.Proofs.Tryz.K
end
