/- Part 5 of the proof; the last part says what is proved. -/
import Derived.Test.YtonoegleildfnaaGreatLoops4
namespace Go.Proofs.Tryz.K
open Go.Abs
theorem aam:drawInfo (Z dF 16)=some [(17,19)]:=kr
theorem aan:drawInfo (Z dF 18)=some [(0,2)]:=kr
theorem aao:drawInfo (Z dF 26)=some [(0,9)]:=kr
theorem aap:drawInfo (Z dF 27)=some []:=kr
theorem aaq:drawInfo (Z dF 29)=some [(0,7)]:=kr
theorem amJ:dF=(S1 (G1 dF 0) (S1 (G1 dF 1) (S1 (S1 (G1 dF 2) (C1 17 (S1 (G1 dF 3) .ret) K1)) (S1 (G1 dF 4) (S1 (G1 dF 5) (S1 (S1 (G1 dF 6) (B1 0 (.loop (S1 (S1 (G1 dF 7) (C1 26 K1 (X1 0))) (S1 (B1 1 (S1 (S1 (G1 dF 9) (C1 33 (X1 1) K1)) (S1 (G1 dF 10) (S1 (G1 dF 11) (S1 (S1 (G1 dF 12) (B1 2 (.loop (S1 (S1 (G1 dF 13) (C1 47 K1 (X1 2))) (S1 (B1 3 (S1 (G1 dF 15) (S1 (S1 (G2 dF 16) (C1 76 (S1 (G1 dF 17) .ret) K1)) (S1 (G2 dF 18) (S1 (S1 (G1 dF 19) (C1 83 (G1 dF 20) K1)) (S1 (G1 dF 21) (B1 4 (.loop (S1 (S1 (G1 dF 22) (C1 101 K1 (X1 4))) (S1 (B1 5 (S1 (G1 dF 24) (S1 (S1 (G1 dF 25) (C1 115 (X1 5) K1)) (S1 (G2 dF 26) (S1 (G2 dF 27) (C1 136 (S1 (G1 dF 28) .ret) K1)))))) (G1 dF 23))))))))))) (G1 dF 14)))))) (S1 (G2 dF 29) (C1 146 (S1 (G1 dF 30) .ret) K1))))))) (G1 dF 8)))))) (S1 (G1 dF 31) .ret))))))):=kr
theorem abx:drawInfo (Z mY 9)=some [(3,14),(4,14)]:=kr
theorem amE:mY=(S1 (G1 mY 0) (S1 (G1 mY 1) (S1 (S1 (G1 mY 2) (B1 0 (.loop (S1 (S1 (G1 mY 3) (C1 15 K1 (X1 0))) (S1 (B1 1 (S1 (G1 mY 5) (S1 (G1 mY 6) (B1 2 (.loop (S1 (S1 (G1 mY 7) (C1 24 K1 (X1 2))) (S1 (B1 3 (G2 mY 9)) (G1 mY 8)))))))) (G1 mY 4)))))) (S1 (G1 mY 10) .ret)))):=kr
theorem amB:rE=(S1 (G1 rE 0) (S1 (G1 rE 1) (S1 (G1 rE 2) (S1 (S1 (G1 rE 3) (B1 0 (.loop (S1 (S1 (G1 rE 4) (C1 18 K1 (X1 0))) (S1 (B1 1 (G1 rE 6)) (G1 rE 5)))))) (S1 (G1 rE 7) .ret))))):=kr
theorem amy:rG=(S1 (G1 rG 0) (S1 (G1 rG 1) (S1 (B1 0 (.loop (S1 (S1 (G1 rG 2) (C1 18 K1 (X1 0))) (B1 1 (G1 rG 3))))) (S1 (S1 (G1 rG 4) (C1 32 (S1 (G1 rG 5) .ret) K1)) (S1 (G1 rG 6) (S1 (G1 rG 7) .ret)))))):=kr
theorem Ze:drawInfo (Z dn 12)=some []:=kr
theorem Zf:drawInfo (Z dn 26)=some []:=kr
theorem aiH:dn=(S1 (G1 dn 0) (S1 (G1 dn 1) (S1 (S1 (G1 dn 2) (C1 18 (S1 (G1 dn 3) .ret) K1)) (S1 (G1 dn 4) (S1 (S1 (G1 dn 5) (B1 0 (.loop (S1 (S1 (G1 dn 6) (C1 25 K1 (X1 0))) (S1 (B1 1 (S1 (G1 dn 8) (S1 (G1 dn 9) (B1 2 (.loop (S1 (S1 (G1 dn 10) (C1 38 K1 (X1 2))) (S1 (B1 3 (S1 (G2 dn 12) (S1 (G1 dn 13) (C1 48 (S1 (G1 dn 14) .ret) K1)))) (G1 dn 11)))))))) (G1 dn 7)))))) (S1 (G1 dn 15) (S1 (G1 dn 16) (S1 (S1 (G1 dn 17) (B1 4 (.loop (S1 (S1 (G1 dn 18) (C1 60 K1 (X1 4))) (S1 (B1 5 (S1 (G1 dn 20) (S1 (S1 (G1 dn 21) (C1 71 (S1 (G1 dn 22) .ret) K1)) (S1 (S1 (G1 dn 23) (B1 6 (.loop (S1 (S1 (G1 dn 24) (C1 75 K1 (X1 6))) (S1 (B1 7 (S1 (G2 dn 26) (C1 106 (S1 (G1 dn 27) .ret) K1))) (G1 dn 25)))))) (S1 (G1 dn 28) (S1 (G1 dn 29) (S1 (S1 (G1 dn 30) (C1 117 (S1 (G1 dn 31) .ret) K1)) (S1 (G1 dn 32) (C1 120 (S1 (S1 (G1 dn 33) (C1 125 (S1 (G1 dn 34) .ret) K1)) (G1 dn 35)) K1))))))))) (G1 dn 19)))))) (S1 (G1 dn 36) .ret))))))))):=kr
theorem Zl:drawInfo (Z dp 19)=some []:=kr
theorem Zm:drawInfo (Z dp 25)=some [(0,8)]:=kr
theorem Zn:drawInfo (Z dp 30)=some []:=kr
theorem Zo:drawInfo (Z dp 32)=some []:=kr
theorem aiY:dp=(S1 (G1 dp 0) (S1 (G1 dp 1) (S1 (G1 dp 2) (S1 (S1 (G1 dp 3) (B1 0 (.loop (S1 (S1 (G1 dp 4) (C1 30 K1 (X1 0))) (S1 (B1 1 (G1 dp 6)) (G1 dp 5)))))) (S1 (G1 dp 7) (S1 (S1 (G1 dp 8) (B1 2 (.loop (S1 (S1 (G1 dp 9) (C1 45 K1 (X1 2))) (S1 (B1 3 (G1 dp 11)) (G1 dp 10)))))) (S1 (S1 (G1 dp 12) (B1 4 (.loop (S1 (S1 (G1 dp 13) (C1 54 K1 (X1 4))) (B1 5 (S1 (G1 dp 14) (S1 (G1 dp 15) (B1 6 (.loop (S1 (S1 (G1 dp 16) (C1 58 K1 (X1 6))) (S1 (B1 7 (S1 (S1 (G1 dp 18) (C1 65 (X1 7) K1)) (S1 (G2 dp 19) (S1 (G1 dp 20) (S1 (G1 dp 21) (B1 8 (.loop (S1 (S1 (G1 dp 22) (C1 79 K1 (X1 8))) (S1 (B1 9 (S1 (G1 dp 24) (S1 (G2 dp 25) (S1 (G1 dp 26) (S1 (S1 (G1 dp 27) (B1 10 (.loop (S1 (S1 (G1 dp 28) (C1 106 K1 (X1 10))) (S1 (B1 11 (G2 dp 30)) (G1 dp 29)))))) (S1 (G1 dp 31) (C1 124 (S1 (G2 dp 32) (G1 dp 33)) K1))))))) (G1 dp 23)))))))))) (G1 dp 17)))))))))))) (S1 (G1 dp 34) .ret)))))))):=kr
theorem aac:drawInfo (Z qZ 4)=some []:=kr
theorem ah6:qZ=(S1 (G1 qZ 0) (S1 (S1 (G1 qZ 1) (B1 0 (.loop (S1 (S1 (G1 qZ 2) (C1 9 K1 (X1 0))) (S1 (B1 1 (S1 (G2 qZ 4) (C1 20 (S1 (G1 qZ 5) .ret) K1))) (G1 qZ 3)))))) (S1 (G1 qZ 6) .ret))):=kr
theorem aii:eE=(S1 (G1 eE 0) (S1 (S1 (G1 eE 1) (B1 0 (S1 (S1 (G1 eE 2) (C1 5 K1 (S1 (G1 eE 3) (C1 5 K1 (S1 (G1 eE 4) (C1 5 K1 (S1 (G1 eE 5) (C1 5 K1 (S1 (G1 eE 6) (C1 5 K1 (S1 (G1 eE 7) (C1 5 K1 (S1 (G1 eE 8) (C1 5 K1 (S1 (G1 eE 9) (C1 5 K1 (G1 eE 10))))))))))))))))) (C1 5 (S1 (G1 eE 11) .ret) (S1 (S1 (G1 eE 12) (C1 18 K1 (S1 (G1 eE 13) (C1 18 K1 (S1 (G1 eE 14) (C1 18 K1 (S1 (G1 eE 15) (C1 18 K1 (S1 (G1 eE 16) (C1 18 K1 (S1 (G1 eE 17) (C1 18 K1 (S1 (G1 eE 18) (C1 18 K1 (S1 (G1 eE 19) (C1 18 K1 (S1 (G1 eE 20) (C1 18 K1 (S1 (G1 eE 21) (C1 18 K1 (S1 (G1 eE 22) (C1 18 K1 (S1 (G1 eE 23) (C1 18 K1 (G1 eE 24))))))))))))))))))))))))) (C1 18 (S1 (G1 eE 25) .ret) (S1 (G1 eE 26) (C1 37 (S1 (G1 eE 27) .ret) (S1 (G1 eE 28) (C1 43 (S1 (G1 eE 29) .ret) K1)))))))))) (S1 (G1 eE 30) .ret))):=kr
theorem aad:drawInfo (Z s8 3)=some [(2,3),(2,4),(0,5),(1,5)]:=kr
theorem ah9:s8=(S1 (G1 s8 0) (S1 (S1 (G1 s8 1) (C1 7 (S1 (G1 s8 2) .ret) K1)) (S1 (G2 s8 3) (S1 (G1 s8 4) (S1 (G1 s8 5) .ret))))):=kr
theorem aib:fH=(S1 (G1 fH 0) (S1 (S1 (G1 fH 1) (B1 0 (S1 (S1 (G1 fH 2) (C1 5 K1 (S1 (G1 fH 3) (C1 5 K1 (S1 (G1 fH 4) (C1 5 K1 (S1 (G1 fH 5) (C1 5 K1 (S1 (G1 fH 6) (C1 5 K1 (S1 (G1 fH 7) (C1 5 K1 (S1 (G1 fH 8) (C1 5 K1 (S1 (G1 fH 9) (C1 5 K1 (S1 (G1 fH 10) (C1 5 K1 (S1 (G1 fH 11) (C1 5 K1 (S1 (G1 fH 12) (C1 5 K1 (S1 (G1 fH 13) (C1 5 K1 (S1 (G1 fH 14) (C1 5 K1 (S1 (G1 fH 15) (C1 5 K1 (S1 (G1 fH 16) (C1 5 K1 (S1 (G1 fH 17) (C1 5 K1 (S1 (G1 fH 18) (C1 5 K1 (S1 (G1 fH 19) (C1 5 K1 (S1 (G1 fH 20) (C1 5 K1 (S1 (G1 fH 21) (C1 5 K1 (S1 (G1 fH 22) (C1 5 K1 (G1 fH 23))))))))))))))))))))))))))))))))))))))))))) (C1 5 (S1 (G1 fH 24) .ret) K1)))) (S1 (G1 fH 25) .ret))):=kr
theorem Zi:drawInfo (Z mU 10)=some [(0,2)]:=kr
theorem aiV:mU=(S1 (G1 mU 0) (S1 (G1 mU 1) (S1 (G1 mU 2) (S1 (G1 mU 3) (S1 (S1 (G1 mU 4) (B1 0 (.loop (S1 (S1 (G1 mU 5) (C1 24 K1 (X1 0))) (S1 (B1 1 (G1 mU 7)) (G1 mU 6)))))) (S1 (S1 (G1 mU 8) (C1 52 (S1 (G1 mU 9) .ret) K1)) (S1 (G2 mU 10) .ret))))))):=kr
theorem aai:drawInfo (Z nO 5)=some [(0,5)]:=kr
theorem aaj:drawInfo (Z nO 7)=some []:=kr
theorem aiS:nO=(S1 (G1 nO 0) (S1 (G1 nO 1) (S1 (S1 (G1 nO 2) (B1 0 (.loop (S1 (S1 (G1 nO 3) (C1 18 K1 (X1 0))) (S1 (B1 1 (S1 (G2 nO 5) (S1 (G1 nO 6) (C1 33 (G2 nO 7) K1)))) (G1 nO 4)))))) (S1 (G1 nO 8) .ret)))):=kr
theorem ail:j0=(S1 (G1 j0 0) (S1 (S1 (G1 j0 1) (B1 0 (S1 (S1 (G1 j0 2) (C1 5 K1 (S1 (G1 j0 3) (C1 5 K1 (G1 j0 4))))) (C1 5 (S1 (G1 j0 5) .ret) (S1 (G1 j0 6) (C1 12 (S1 (S1 (G1 j0 7) (C1 16 (S1 (G1 j0 8) .ret) K1)) (S1 (G1 j0 9) .ret)) (S1 (G1 j0 10) (C1 20 (S1 (G1 j0 11) .ret) (S1 (S1 (G1 j0 12) (C1 25 K1 (G1 j0 13))) (C1 25 (S1 (G1 j0 14) .ret) K1)))))))))) (S1 (G1 j0 15) .ret))):=kr
theorem ah3:mi=(S1 (G1 mi 0) (S1 (G1 mi 1) (S1 (S1 (G1 mi 2) (C1 12 (G1 mi 3) K1)) (S1 (S1 (G1 mi 4) (C1 25 (G1 mi 5) K1)) (S1 (S1 (G1 mi 6) (B1 0 (.loop (S1 (S1 (G1 mi 7) (C1 35 K1 (X1 0))) (S1 (B1 1 (G1 mi 9)) (G1 mi 8)))))) (S1 (S1 (G1 mi 10) (C1 49 (G1 mi 11) K1)) (S1 (G1 mi 12) .ret))))))):=kr
theorem aie:oE=(S1 (G1 oE 0) (S1 (S1 (G1 oE 1) (B1 0 (S1 (G1 oE 2) (C1 5 (S1 (G1 oE 3) .ret) (S1 (S1 (G1 oE 4) (C1 10 K1 (G1 oE 5))) (C1 10 (S1 (G1 oE 6) .ret) (S1 (G1 oE 7) (C1 15 (S1 (G1 oE 8) .ret) K1)))))))) (S1 (G1 oE 9) .ret))):=kr
theorem Y9:drawInfo (Z io 16)=some []:=kr
theorem aio:io=(S1 (G1 io 0) (S1 (S1 (G1 io 1) (C1 58 (S1 (G1 io 2) .ret) K1)) (S1 (S1 (G1 io 3) (B1 0 (.loop (S1 (S1 (G1 io 4) (C1 63 K1 (X1 0))) (S1 (B1 1 (S1 (G1 io 6) (C1 93 (S1 (G1 io 7) .ret) K1))) (G1 io 5)))))) (S1 (S1 (G1 io 8) (B1 2 (.loop (S1 (S1 (G1 io 9) (C1 98 K1 (X1 2))) (S1 (B1 3 (S1 (G1 io 11) (C1 114 (S1 (G1 io 12) .ret) K1))) (G1 io 10)))))) (S1 (S1 (G1 io 13) (B1 4 (.loop (S1 (S1 (G1 io 14) (C1 119 K1 (X1 4))) (S1 (B1 5 (S1 (G2 io 16) (C1 146 (S1 (G1 io 17) .ret) K1))) (G1 io 15)))))) (S1 (G1 io 18) .ret)))))):=kr
theorem ahC:BZ=(S1 (G1 BZ 0) (S1 (G1 BZ 1) .ret)):=kr
theorem Y':drawInfo (Z cQ 35)=some []:=kr
theorem Za:drawInfo (Z cQ 40)=some []:=kr
theorem aiw:cQ=(S1 (G1 cQ 0) (S1 (S1 (G1 cQ 1) (B1 0 (S1 (G1 cQ 2) (C1 10 (S1 (G1 cQ 3) .ret) (S1 (G1 cQ 4) (C1 25 (S1 (G1 cQ 5) .ret) (S1 (S1 (G1 cQ 6) (C1 37 K1 (S1 (G1 cQ 7) (C1 37 K1 (S1 (G1 cQ 8) (C1 37 K1 (G1 cQ 9))))))) (C1 37 (S1 (G1 cQ 10) .ret) (S1 (G1 cQ 11) (C1 62 (S1 (G1 cQ 12) .ret) (S1 (G1 cQ 13) (C1 80 (S1 (G1 cQ 14) .ret) (S1 (G1 cQ 15) (C1 96 (S1 (G1 cQ 16) .ret) (S1 (G1 cQ 17) (C1 111 (S1 (G1 cQ 18) .ret) (S1 (G1 cQ 19) (C1 138 (S1 (G1 cQ 20) .ret) (S1 (G1 cQ 21) (C1 159 (S1 (G1 cQ 22) .ret) (S1 (S1 (G1 cQ 23) (C1 180 K1 (G1 cQ 24))) (C1 180 (S1 (G1 cQ 25) .ret) (S1 (G1 cQ 26) (C1 197 (S1 (G1 cQ 27) .ret) (S1 (G1 cQ 28) (C1 207 (S1 (G1 cQ 29) .ret) (S1 (G1 cQ 30) (C1 217 (S1 (G1 cQ 31) .ret) (S1 (G1 cQ 32) (C1 229 (S1 (G1 cQ 33) .ret) (S1 (G1 cQ 34) (C1 241 (S1 (S1 (G2 cQ 35) (C1 268 (S1 (G1 cQ 36) .ret) K1)) (S1 (S1 (G1 cQ 37) (B1 1 (.loop (S1 (S1 (G1 cQ 38) (C1 273 K1 (X1 1))) (S1 (B1 2 (S1 (G2 cQ 40) (C1 285 (S1 (G1 cQ 41) .ret) K1))) (G1 cQ 39)))))) (S1 (G1 cQ 42) .ret))) K1)))))))))))))))))))))))))))))))) (S1 (G1 cQ 43) .ret))):=kr
theorem Zc:drawInfo (Z fI 10)=some []:=kr
theorem Zd:drawInfo (Z fI 22)=some []:=kr
theorem aiE:fI=(S1 (G1 fI 0) (S1 (G1 fI 1) (S1 (S1 (G1 fI 2) (B1 0 (S1 (G1 fI 3) (C1 10 (S1 (G1 fI 4) .ret) (S1 (G1 fI 5) (C1 20 (S1 (G1 fI 6) .ret) (S1 (G1 fI 7) (C1 42 (S1 (S1 (G1 fI 8) (C1 50 (S1 (G1 fI 9) .ret) K1)) (S1 (G2 fI 10) .ret)) (S1 (G1 fI 11) (C1 77 (S1 (G1 fI 12) .ret) (S1 (G1 fI 13) (C1 86 (S1 (G1 fI 14) .ret) (S1 (G1 fI 15) (C1 107 (S1 (G1 fI 16) .ret) (S1 (G1 fI 17) (C1 150 (S1 (G1 fI 18) .ret) (S1 (G1 fI 19) (C1 183 (S1 (G1 fI 20) .ret) (S1 (G1 fI 21) (C1 216 (S1 (G2 fI 22) .ret) K1)))))))))))))))))))) (S1 (G1 fI 23) .ret)))):=kr
theorem aah:drawInfo (Z mV 9)=some []:=kr
theorem aiP:mV=(S1 (G1 mV 0) (S1 (S1 (G1 mV 1) (C1 8 (S1 (G1 mV 2) .ret) K1)) (S1 (S1 (G1 mV 3) (C1 11 (S1 (G1 mV 4) .ret) K1)) (S1 (G1 mV 5) (S1 (S1 (G1 mV 6) (B1 0 (.loop (S1 (S1 (G1 mV 7) (C1 22 K1 (X1 0))) (S1 (B1 1 (G2 mV 9)) (G1 mV 8)))))) (S1 (G1 mV 10) .ret)))))):=kr
theorem ahw:tc=(S1 (G1 tc 0) (S1 (S1 (G1 tc 1) (B1 0 (.loop (S1 (S1 (G1 tc 2) (C1 7 K1 (X1 0))) (S1 (B1 1 (S1 (G1 tc 4) (C1 19 (S1 (G1 tc 5) .ret) K1))) (G1 tc 3)))))) (S1 (G1 tc 6) .ret))):=kr
theorem aht:B8=(S1 (G1 B8 0) (S1 (G1 B8 1) .ret)):=kr
theorem ahz:td=(S1 (G1 td 0) (S1 (S1 (G1 td 1) (B1 0 (.loop (S1 (S1 (G1 td 2) (C1 7 K1 (X1 0))) (S1 (B1 1 (S1 (G1 td 4) (C1 31 (S1 (G1 td 5) .ret) K1))) (G1 td 3)))))) (S1 (G1 td 6) .ret))):=kr
theorem ahX:j3=(S1 (G1 j3 0) (S1 (S1 (G1 j3 1) (B1 0 (.loop (S1 (S1 (G1 j3 2) (C1 9 K1 (X1 0))) (S1 (B1 1 (S1 (G1 j3 4) (B1 2 (S1 (G1 j3 5) (C1 15 (G1 j3 6) (S1 (G1 j3 7) (C1 18 (G1 j3 8) (S1 (G1 j3 9) (C1 21 (G1 j3 10) (S1 (G1 j3 11) (C1 24 (G1 j3 12) (S1 (G1 j3 13) (C1 27 (G1 j3 14) K1))))))))))))) (G1 j3 3)))))) (S1 (G1 j3 15) .ret))):=kr
theorem ahF:mW=(S1 (G1 mW 0) (S1 (S1 (G1 mW 1) (C1 17 (S1 (G1 mW 2) .ret) K1)) (S1 (G1 mW 3) (S1 (S1 (G1 mW 4) (B1 0 (S1 (G1 mW 5) (C1 25 (S1 (G1 mW 6) .ret) (S1 (G1 mW 7) (C1 29 (S1 (G1 mW 8) .ret) (S1 (G1 mW 9) (C1 33 (S1 (G1 mW 10) .ret) K1)))))))) (S1 (G1 mW 11) .ret))))):=kr
theorem Z9:drawInfo (Z zV 1)=some []:=kr
theorem ahI:zV=(S1 (G1 zV 0) (S1 (G2 zV 1) .ret)):=kr
theorem Z':drawInfo (Z qe 4)=some []:=kr
theorem ahL:qe=(S1 (G1 qe 0) (S1 (S1 (G1 qe 1) (B1 0 (.loop (S1 (S1 (G1 qe 2) (C1 10 K1 (X1 0))) (S1 (B1 1 (S1 (G2 qe 4) (S1 (G1 qe 5) (C1 20 (S1 (G1 qe 6) .ret) K1)))) (G1 qe 3)))))) (S1 (G1 qe 7) .ret))):=kr
theorem aaa:drawInfo (Z zW 1)=some []:=kr
theorem ahO:zW=(S1 (G1 zW 0) (S1 (G2 zW 1) .ret)):=kr
theorem ah0:fR=(S1 (G1 fR 0) (S1 (G1 fR 1) (S1 (S1 (G1 fR 2) (B1 0 (.loop (S1 (S1 (G1 fR 3) (C1 10 K1 (X1 0))) (S1 (B1 1 (S1 (G1 fR 5) (B1 2 (S1 (G1 fR 6) (C1 16 (G1 fR 7) (S1 (G1 fR 8) (C1 19 (G1 fR 9) (S1 (G1 fR 10) (C1 22 (G1 fR 11) (S1 (G1 fR 12) (C1 25 (G1 fR 13) (S1 (G1 fR 14) (C1 28 (G1 fR 15) (S1 (G1 fR 16) (C1 31 (G1 fR 17) (S1 (G1 fR 18) (C1 35 (G1 fR 19) (S1 (G1 fR 20) (C1 38 (G1 fR 21) K1))))))))))))))))))) (G1 fR 4)))))) (S1 (S1 (G1 fR 22) (C1 52 (S1 (G1 fR 23) .ret) K1)) (S1 (G1 fR 24) .ret))))):=kr
theorem ait:jG=(S1 (G1 jG 0) (S1 (S1 (G1 jG 1) (B1 0 (S1 (S1 (G1 jG 2) (C1 7 K1 (S1 (G1 jG 3) (C1 7 K1 (S1 (G1 jG 4) (C1 7 K1 (S1 (G1 jG 5) (C1 7 K1 (G1 jG 6))))))))) (C1 7 (S1 (G1 jG 7) .ret) (S1 (G1 jG 8) (C1 33 (S1 (G1 jG 9) .ret) (S1 (G1 jG 10) (C1 49 (S1 (G1 jG 11) .ret) (S1 (G1 jG 12) (C1 65 (S1 (G1 jG 13) .ret) (S1 (G1 jG 14) (C1 87 (S1 (G1 jG 15) .ret) K1)))))))))))) (S1 (G1 jG 16) .ret))):=kr
theorem aae:drawInfo (Z j4 6)=some []:=kr
theorem Zb:drawInfo (Z j4 11)=some []:=kr
theorem aiA:j4=(S1 (G1 j4 0) (S1 (S1 (G1 j4 1) (C1 22 (S1 (G1 j4 2) .ret) K1)) (S1 (S1 (G1 j4 3) (B1 0 (.loop (S1 (S1 (G1 j4 4) (C1 27 K1 (X1 0))) (S1 (B1 1 (S1 (S1 (G2 j4 6) (C1 48 (S1 (G1 j4 7) .ret) K1)) (S1 (G1 j4 8) (B1 2 (.loop (S1 (S1 (G1 j4 9) (C1 51 K1 (X1 2))) (S1 (B1 3 (S1 (G2 j4 11) (C1 66 (S1 (G1 j4 12) .ret) K1))) (G1 j4 10)))))))) (G1 j4 5)))))) (S1 (G1 j4 13) .ret)))):=kr
theorem amW:Cv=(S1 (G1 Cv 0) (S1 (G1 Cv 1) .ret)):=kr
theorem abC:drawInfo (Z oR 6)=some []:=kr
theorem amT:oR=(S1 (G1 oR 0) (S1 (S1 (G1 oR 1) (C1 10 (S1 (G1 oR 2) .ret) K1)) (S1 (S1 (G1 oR 3) (B1 0 (.loop (S1 (S1 (G1 oR 4) (C1 14 K1 (X1 0))) (S1 (B1 1 (S1 (G2 oR 6) (C1 25 (S1 (G1 oR 7) .ret) K1))) (G1 oR 5)))))) (S1 (G1 oR 8) .ret)))):=kr
theorem amP:iw=(S1 (G1 iw 0) (S1 (G1 iw 1) (S1 (S1 (G1 iw 2) (C1 15 (S1 (G1 iw 3) .ret) K1)) (S1 (G1 iw 4) (S1 (G1 iw 5) (S1 (B1 0 (.loop (S1 (S1 (G1 iw 6) (C1 19 K1 (X1 0))) (B1 1 (S1 (G1 iw 7) (S1 (G1 iw 8) (B1 2 (.loop (S1 (S1 (G1 iw 9) (C1 24 K1 (X1 2))) (S1 (B1 3 (S1 (S1 (G1 iw 11) (C1 31 (X1 3) K1)) (S1 (G1 iw 12) (S1 (G1 iw 13) (B1 4 (.loop (S1 (S1 (G1 iw 14) (C1 38 K1 (X1 4))) (S1 (B1 5 (S1 (G1 iw 16) (C1 56 (S1 (G1 iw 17) (G1 iw 18)) K1))) (G1 iw 15))))))))) (G1 iw 10))))))))))) (S1 (G1 iw 19) .ret))))))):=kr
theorem aas:drawInfo (Z jJ 14)=some []:=kr
theorem amZ:jJ=(S1 (G1 jJ 0) (S1 (G1 jJ 1) (S1 (G1 jJ 2) (S1 (S1 (G1 jJ 3) (B1 0 (.loop (S1 (S1 (G1 jJ 4) (C1 15 K1 (X1 0))) (S1 (B1 1 (G1 jJ 6)) (G1 jJ 5)))))) (S1 (S1 (G1 jJ 7) (B1 2 (.loop (S1 (S1 (G1 jJ 8) (C1 29 K1 (X1 2))) (S1 (B1 3 (S1 (G1 jJ 10) (S1 (G1 jJ 11) (B1 4 (.loop (S1 (S1 (G1 jJ 12) (C1 39 K1 (X1 4))) (S1 (B1 5 (G2 jJ 14)) (G1 jJ 13)))))))) (G1 jJ 9)))))) (S1 (G1 jJ 15) .ret)))))):=kr
end Go.Proofs.Tryz.K
section
open Go Go.Abs Go.Proofs Go.Argus
namespace Go.Argus
def bL(f:aF)(h:D):List D:=[S f.name,B f.iter,I f.args,U8 f.result,jX f.ag,jX f.aR,p7 f.signals,eZ f.blocks,h]
@[simp] theorem aqE (f : aF) (h : D) : (bL f h).length = 9 := rfl
theorem uQ{h:D}(ht:Tr h)(f:aF):∀ d∈bL f h,Tr d:=.cons (.s _) (.cons (.s _) (.cons (.s _) (.cons (.s _) (.cons (pY _) (.cons (pY _) (.cons (xR _) (.cons (EC _) (.cons ht .nil))))))))
def bf(f:aF)(r k:Int):Bool:=if k=119 then bZ f.ag r==1 else if k=114 then bZ f.ag r==2 else if k=105 then bZ f.ag r==3 else dO f.ag r
theorem Fa{s:ByteArray}{k:Nat}(h:k<s.size):((s.data.toList.getD (k:Int).toNat 0).toNat:Int)∈cA s/\(cA s)[k]? =some ((s.data.toList.getD (k:Int).toNat 0).toNat:Int):=by
 have h1:k<s.data.toList.length:=by simpa using h
 have h2:(cA s)[k]? =some ((s.data.toList.getD (k:Int).toNat 0).toNat:Int):=by
  simp[cA,List.getElem?_eq_getElem h1,List.getD_eq_getElem?_getD]
 exact⟨List.mem_of_getElem? h2,h2⟩
def jI(f:aF)(a b:Int):Bool:=dO f.ag a&&(dO f.ag b&&bZ f.ag a==bZ f.ag b)
def yu(y:bt)(d:D):List D:=[U8 y.op,I y.to,I y.a,I y.b,I y.n,d]
theorem FM:Tr .z:=fun F β w v h=>by
 obtain⟨x,rfl⟩:=h.z_inv;exact .z x
def tQ(d:D)(l:List Int):Prop:=d=ax l\/d=.z/\l=[]
theorem acD{d:D}{l:List Int}(h:tQ d l):Tr d:=by
 rcases h with rfl|⟨rfl,_⟩
 .exact cB _
 .exact FM
theorem abu{y:bt}{d:D}(h:tQ d y.args):∀ a∈yu y d,Tr a:=.cons (.s _) (.cons (.s _) (.cons (.s _) (.cons (.s _) (.cons (.s _) (.cons (acD h) .nil)))))
theorem abv{y:bt}{d:D}(h:tQ d y.args):(yu y d).all D.one=true:=by
 rcases h with rfl|⟨rfl,_⟩<;>rfl
def Ui(y:End)(C J:D):List D:=[U8 y.kind,I y.a,I y.b,I y.to,I y.fm,S y.name,U8 y.ins.op,I y.ins.to,I y.ins.a,I y.ins.b,I y.ins.n,C,J,oA y.aI,I y.cx]
end Go.Argus
namespace Go.Proofs.Tryz.K
set_option maxRecDepth 10000
theorem fZ{n a b:Int}:PCall prog 212 [I n,I a,I b] (B (cJ n a b)):=by
 refine a9 mixed T8 (by rw[ahr];rfl) (.cons (.s _) (.cons (.s _) (.cons (.s _) .nil))) (Tr.s _) ?_;rw[ahs,aht];refine ws ?_;refine SS ?_;refine er ?_;refine aL ?_;refine ab (ay (d:=.s (.bool _)) rfl ?_);unfold cJ;by_cases h:a<=n<;>simp[h]
theorem yL{s:ByteArray}(J:s.size<=maxLen):PCall prog 211 [S s] (B (kL s)):=by
 unfold maxLen at J;refine a9 mixed T9 (by rw[ahu];rfl) (.cons (.s _) .nil) (Tr.s _) ?_;rw[ahv,ahw];refine ws ?_;refine SS ?_;refine ab (aC (aw ?_));refine SS ?_
 refine ab (bO (fun st=>Ghost prog st ⟨az [(0,S s)],fun _=>none,0⟩/\∀ (j:Nat) y,(cA s)[j]? =some y->sU y=false) (b8 (α:=Nat) (fun k=>⟨az [(0,S s),(3,I k)],fun _=>none,0⟩)
  (fun k=>k<=s.size/\∀ j y,j<k->(cA s)[j]? =some y->sU y=false) (fun k=>s.size - k) 0 (av eH) ⟨by omega,fun j y hj=>by omega⟩ ?_) ?_)
 .rintro k ⟨hk,hinv⟩;refine aP ?_;refine ab ⟨_,rfl,fun h=>?_,fun h=>?_⟩
  .have ao:k<s.size:=by simpa using h
   obtain⟨hm,hx⟩:=Fa ao;generalize C:s.data.toList.getD (k:Int).toNat 0=z at hm hx;refine ws ?_;refine bF ?_;refine af ?_;refine ab (aq rfl (fun hp=>?_) fun hp=>?_)
   .refine ws ?_;refine SS ?_;refine ab (aV (cq (aT (ay (d:=B false) rfl ?_))));have h1:(cA s).any sU=true:=List.any_eq_true.2 ⟨_,hm,by rw[C] at hp;revert hp;simp[sU]⟩;unfold kL;rw[h1];simp
   .refine cg ?_;refine au ?_;refine ab (aJ (k+1) (av eH) ⟨by omega,fun j y hj hy=>?_⟩ oG);by_cases e:j=k
    .subst e;rw[hx] at hy;cases hy;rw[C] at hp;revert hp;simp[sU]
    .exact hinv j y oG hy
  .have U:¬ k<s.size:=by simpa using h
   exact⟨av eH,fun j y hy=>hinv j y (by have:=(List.getElem?_eq_some_iff.1 hy).1;simp[cA] at this;omega) hy⟩
 .rintro st ⟨hg,M⟩;refine⟨_,hg,aj ?_⟩;have fZ:=fZ (n:=s.size) (a:=1) (b:=120);refine af ?_;refine cl fZ ?_;refine SS ?_;refine ab (ay (d:=.s (.bool _)) rfl ?_)
  have h1:(cA s).any sU=false:=List.any_eq_false.2 fun x hx=>by
   obtain⟨j,hj⟩:=List.getElem?_of_mem hx;rw[M j x hj];simp
  unfold kL;rw[h1];simp
theorem nq{s:ByteArray}(J:s.size<=maxLen):PCall prog 213 [S s] (B (isName s)):=by
 unfold maxLen at J;refine a9 mixed T' (by rw[ahx];rfl) (.cons (.s _) .nil) (Tr.s _) ?_;rw[ahy,ahz];refine ws ?_;refine SS ?_;refine ab (aC (aw ?_));refine SS ?_
 refine ab (bO (fun st=>Ghost prog st ⟨az [(0,S s)],fun _=>none,0⟩/\∀ (j:Nat) y,(cA s)[j]? =some y->sV y=false) (b8 (α:=Nat) (fun k=>⟨az [(0,S s),(3,I k)],fun _=>none,0⟩)
  (fun k=>k<=s.size/\∀ j y,j<k->(cA s)[j]? =some y->sV y=false) (fun k=>s.size - k) 0 (av eH) ⟨by omega,fun j y hj=>by omega⟩ ?_) ?_)
 .rintro k ⟨hk,hinv⟩;refine aP ?_;refine ab ⟨_,rfl,fun h=>?_,fun h=>?_⟩
  .have ao:k<s.size:=by simpa using h
   obtain⟨hm,hx⟩:=Fa ao;generalize C:s.data.toList.getD (k:Int).toNat 0=z at hm hx;refine ws ?_;refine aL ?_;refine aL ?_;refine aP ?_;refine ab (aq rfl (fun hp=>?_) fun hp=>?_)
   .refine ws ?_;refine SS ?_;refine ab (aV (cq (aT (ay (d:=B false) rfl ?_))));have h1:(cA s).any sV=true:=List.any_eq_true.2 ⟨_,hm,by rw[C] at hp;revert hp;simp[sV]⟩;unfold isName;rw[h1];simp
   .refine cg ?_;refine au ?_;refine ab (aJ (k+1) (av eH) ⟨by omega,fun j y hj hy=>?_⟩ oG);by_cases e:j=k
    .subst e;rw[hx] at hy;cases hy;rw[C] at hp;revert hp;simp[sV]
    .exact hinv j y oG hy
  .have U:¬ k<s.size:=by simpa using h
   exact⟨av eH,fun j y hy=>hinv j y (by have:=(List.getElem?_eq_some_iff.1 hy).1;simp[cA] at this;omega) hy⟩
 .rintro st ⟨hg,M⟩;refine⟨_,hg,aj ?_⟩;have fZ:=fZ (n:=s.size) (a:=1) (b:=12);refine af ?_;refine cl fZ ?_;refine SS ?_;refine ab (ay (d:=.s (.bool _)) rfl ?_)
  have h1:(cA s).any sV=false:=List.any_eq_false.2 fun x hx=>by
   obtain⟨j,hj⟩:=List.getElem?_of_mem hx;rw[M j x hj];simp
  unfold isName;rw[h1];simp
theorem uN{f:aF}{hd:D}(h:hd.one=true):(bL f hd).all D.one=true:=by
 simp only[bL,List.all_cons,List.all_nil,h,Bool.and_true];rfl
section
variable{f:aF}{hd:D}(ht:Tr hd)(c7:hd.one=true)
include ht c7
theorem gl{b:Int}(hn:f.blocks.length<=1200):PCall prog 170 [.agg (bL f hd),I b] (B (bU f b)):=by
 refine a9 mixed Ua (by rw[ahA];rfl) (.cons (.agg (uQ ht f)) (.cons (.s _) .nil)) (Tr.s _) ?_;rw[ahB,ahC];refine aw ?_;refine af ?_;refine ab (aO (bw [(0,bL f hd,208)] eH (l:=[(1,I b),(2,.pt (bL f hd))]) eH) (aj ?_));have fZ:=fZ (n:=b) (a:=0) (b:=(f.blocks.length:Int) - 1);refine bD ?_;refine cl fZ ?_;refine SS ?_;exact ab (ay rfl rfl)
theorem bH{r k:Int}:PCall prog 215 [.agg (bL f hd),I r,U8 k] (B (bf f r k)):=by
 refine a9 mixed Ub (by rw[ahD];rfl) (.cons (.agg (uQ ht f)) (.cons (.s _) (.cons (.s _) .nil))) (Tr.s _) ?_;rw[ahE,ahF];refine aw ?_;refine af ?_;refine ab (aO (bw [(0,bL f hd,208)] eH (l:=[(1,I r),(2,U8 k),(3,.pt (bL f hd))]) eH) (aC (aj ?_)));refine bF ?_;refine V7 ?_;refine SS ?_;refine ab (bh rfl (fun h=>?_) fun h=>bS (aj ?_))
 .refine aC (aj ?_);refine SS ?_;refine ab (cU (ay (d:=.s (.bool _)) rfl ?_))
  have h0:bZ f.ag r=0:=HC fun C=>by
   by_cases h1:r<0<;>simp[h1] at h<;>omega
  simp[bf,dO,h0]
 .have hr:0<=r/\r<f.ag.length:=by
   by_cases h1:r<0<;>simp[h1] at h;omega
  obtain⟨n,rfl⟩:=Int.eq_ofNat_of_zero_le hr.1;have hx:f.ag[n]? =some f.ag[n]:=List.getElem?_eq_getElem oG;have hk:=sX hx;have hi:bf f n k=if k=119 then f.ag[n]==1 else if k=114 then f.ag[n]==2 else if k=105 then f.ag[n]==3 else f.ag[n]==1||f.ag[n]==2:=by simp only[bf,dO,hk]
  rw[hi];generalize f.ag[n]=v at hx;clear h hi hk;refine c8 ?_;refine ab (aC (aj ?_));refine SS ?_;refine ab (mN (aj ?_));refine af ?_;refine ab (aq rfl (fun h0=>?_) fun h0=>?_)
  .have h0:k=119:=by simpa using h0
   refine ws ?_;refine au ?_;refine ab (aV (bx (aT (ay (d:=.s (.bool _)) rfl ?_))));simp[h0]
  have h0:¬ k=119:=by simpa using h0
  refine ws ?_;refine af ?_;refine ab (aq rfl (fun h1=>?_) fun h1=>?_)
  .have h1:k=114:=by simpa using h1
   refine ws ?_;refine au ?_;refine ab (aV (bx (aT (ay (d:=.s (.bool _)) rfl ?_))));simp[h1]
  have h1:¬ k=114:=by simpa using h1
  refine ws ?_;refine af ?_;refine ab (aq rfl (fun h2=>?_) fun h2=>?_)
  .have h2:k=105:=by simpa using h2
   refine ws ?_;refine au ?_;refine ab (aV (bx (aT (ay (d:=.s (.bool _)) rfl ?_))));simp[h2]
  have h2:¬ k=105:=by simpa using h2
  refine mn (aj ?_);refine c8 ?_;refine ab (ay (d:=.s (.bool _)) rfl ?_);rw[if_neg h0,if_neg h1,if_neg h2];by_cases h3:v=1<;>simp[h3]
end
section
variable{f:aF}{hd:D}(ht:Tr hd)(c7:hd.one=true)
include ht c7
theorem yM{a b:Int}:PCall prog 216 [.agg (bL f hd),I a,I b] (B (jI f a b)):=by
 have hi:∀ r,bf f r 118=dO f.ag r:=fun r=>rfl;have C:=bH (f:=f) ht c7 (r:=a) (k:=118);have J:=bH (f:=f) ht c7 (r:=b) (k:=118);rw[hi] at C J;refine a9 mixed Uc (by rw[ahG];rfl) (.cons (.agg (uQ ht f)) (.cons (.s _) (.cons (.s _) .nil))) (Tr.s _) ?_;rw[ahH,ahI];refine aw ?_;refine af ?_;refine ab (aO (bw [(0,bL f hd,208)] eH (l:=[(1,I a),(2,I b),(3,.pt (bL f hd))]) eH) (dm Z9 ?_))
 have X:∀ r,dO f.ag r=true->∃ (n:Nat) (x:Int),r=n/\f.ag[n]? =some x/\bZ f.ag r=x:=fun r h=>by
  obtain⟨h1,h2⟩:=nI h;obtain⟨n,rfl⟩:=Int.eq_ofNat_of_zero_le h1;have hx:f.ag[n]? =some f.ag[n]:=List.getElem?_eq_getElem oG;exact⟨n,_,rfl,hx,sX hx⟩
 unfold jI;cases M:dO f.ag a with
 |false=>
  rw[M] at C;have bH:=C;refine af ?_;refine cl bH ?_;refine SS ?_;refine z fun _ _=>?_;have bH:=J
  (iterate 2 refine z fun _ _=>?_);refine af ?_;(iterate 13 refine z fun _ _=>?_);refine af ?_
  exact bk (by simp[apartT]) (ay rfl rfl)
 |true=>
  rw[M] at C;cases U:dO f.ag b with
  |false=>
   rw[U] at J;have bH:=C;refine af ?_;refine cl bH ?_;refine af ?_;have bH:=J;refine SS ?_;refine gc bH ?_;refine af ?_;(iterate 13 refine z fun _ _=>?_);refine af ?_;exact bk (by simp[apartT]) (ay rfl rfl)
  |true=>
   rw[U] at J;obtain⟨n,x,rfl,hx,e1⟩:=X a M;obtain⟨m,y,rfl,hy,e2⟩:=X b U;rw[e1,e2];have bH:=C;refine af ?_;refine cl bH ?_;refine af ?_;have bH:=J;refine SS ?_;refine gc bH ?_;refine aL ?_;refine bF ?_;exact bk (by simp[apartT]) (ay rfl rfl)
theorem tP{l:List Int}:PCall prog 217 [.agg (bL f hd),ax l] (B (fQ f.ag l)):=by
 have C:∀ a∈[D.agg (bL f hd),ax l],Tr a:=.cons (.agg (uQ ht f)) (.cons (cB _) .nil);refine mM JN.he C fun M=>?_;have hlen:=(M (ax l) oS).sl.1;unfold maxLen at hlen;refine a9 mixed JN (by rw[ahJ];rfl) C (Tr.s _) ?_;rw[ahK,ahL];refine aw ?_;refine af ?_;refine ab (aO (bw [(0,bL f hd,208)] eH (l:=[(1,ax l),(2,.pt (bL f hd))]) eH) (aC (aw ?_)));refine SS ?_
 refine ab (bO (fun s=>Ghost prog s ⟨az [],fun _=>none,1⟩/\∀ (j:Nat) y,l[j]? =some y->dO f.ag y=true) (b8 (α:=Nat) (fun k=>⟨az [(1,ax l),(2,.pt (bL f hd)),(5,I k)],fun _=>none,1⟩)
  (fun k=>k<=l.length/\∀ j y,j<k->l[j]? =some y->dO f.ag y=true) (fun k=>l.length - k) 0 (av eH) ⟨by omega,fun j y hj=>by omega⟩ ?_) ?_)
 .rintro k ⟨hk,hinv⟩;refine aP ?_;refine ab ⟨_,rfl,fun h=>?_,fun h=>?_⟩
  .have ao:k<l.length:=by simpa using h
   have hx:l[k]? =some l[k]:=by simp[ao]
   generalize l[k]=x at hx;have bH:PCall prog 215 [.agg (bL f hd),I x,U8 118] (B (dO f.ag x)):=bH (f:=f) ht c7 (r:=x) (k:=118);refine dm Z' ?_;refine aK ?_;refine cl bH ?_;refine SS ?_;refine bk (by simp[apartT]) (aj ?_);refine af ?_;refine ab (aq rfl (fun hp=>?_) fun hp=>?_)
   .refine ws ?_;refine SS ?_;refine ab (aV (cq (aT (ay (d:=B false) rfl ?_))));have:fQ f.ag l=false:=List.all_eq_false.2 ⟨x,List.mem_of_getElem? hx,by simpa using hp⟩;rw[this]
   .refine cg ?_;refine au ?_;refine ab (aJ (k+1) (av eH) ⟨by omega,fun j y hj hy=>?_⟩ oG);by_cases e:j=k
    .subst e;rw[hx] at hy;cases hy;simpa using hp
    .exact hinv j y oG hy
  .have U:¬ k<l.length:=by simpa using h
   exact⟨.forget _ _ _ _ fun _=>.inr rfl,fun j y hy=>hinv j y (by have:=(List.getElem?_eq_some_iff.1 hy).1;omega) hy⟩
 .rintro s ⟨hg,J⟩;refine⟨_,hg,aj ?_⟩;refine SS ?_;refine ab (ay (d:=B true) rfl ?_)
  have:fQ f.ag l=true:=List.all_eq_true.2 fun x hx=>by
   obtain⟨j,hj⟩:=List.getElem?_of_mem hx;exact J j x hj
  rw[this]
theorem Gj{n r:Int}(hl:f.aR.length<=60)(X:∀ k∈f.aR,k=1\/k=2):PCall prog 218 [.agg (bL f hd),I n,I r] (B (lK f.ag f.aR r n)):=by
 have fZ:=fZ (n:=n) (a:=0) (b:=(f.aR.length:Int) - 1);have kv:PCall prog 215 [.agg (bL f hd),I r,U8 118] (B (dO f.ag r)):=bH (f:=f) ht c7 (r:=r) (k:=118);refine a9 mixed Ud (by rw[ahM];rfl) (.cons (.agg (uQ ht f)) (.cons (.s _) (.cons (.s _) .nil))) (Tr.s _) ?_;rw[ahN,ahO];refine aw ?_;refine af ?_;refine ab (aO (bw [(0,bL f hd,208)] eH (l:=[(1,I n),(2,I r),(3,.pt (bL f hd))]) eH) (dm aaa ?_));unfold lK;have bH:=kv;cases C:cJ n 0 (f.aR.length - 1) with
 |false=>
  rw[C] at fZ;refine bD ?_;refine cl fZ ?_;refine SS ?_;(iterate 3 refine z fun _ _=>?_);refine af ?_;(iterate 13 refine z fun _ _=>?_);refine af ?_;exact bk (by simp[apartT]) (ay rfl rfl)
 |true=>
  rw[C] at fZ;have h0:=jY.1 C;obtain⟨m,rfl⟩:=Int.eq_ofNat_of_zero_le h0.1;have hx:f.aR[m]? =some f.aR[m]:=List.getElem?_eq_getElem oG;have U:=sX hx;have M:=X _ (List.mem_of_getElem? hx);rw[U];generalize f.aR[m]=x at hx M;cases hv:dO f.ag r with
  |false=>
   rw[hv] at bH;refine bD ?_;refine cl fZ ?_;refine au ?_;refine gc bH ?_;refine af ?_;(iterate 13 refine z fun _ _=>?_);refine af ?_;refine bk (by simp[apartT]) (ay (d:=.s (.bool _)) rfl ?_)
   have:(bZ f.ag r==x)=false:=by
    unfold dO at hv;rcases M with rfl|rfl<;>simp at hv ⊢<;>simp[hv]
   rw[this];rfl
  |true=>
   rw[hv] at bH;obtain⟨h1,h2⟩:=nI hv;obtain⟨i,rfl⟩:=Int.eq_ofNat_of_zero_le h1;have hy:f.ag[i]? =some f.ag[i]:=List.getElem?_eq_getElem oG;have J:=sX hy;rw[J];generalize f.ag[i]=y at hy;refine bD ?_;refine cl fZ ?_;refine au ?_;refine gc bH ?_;refine aL ?_;refine bF ?_;refine bk (by simp[apartT]) (ay (d:=.s (.bool _)) rfl ?_);show B (x==y)=B (y==x);rw[Bool.beq_comm]
end
end Go.Proofs.Tryz.K
namespace Go.Argus
open Go.Proofs.Tryz.K (nextR)
def eA:List Int->Int->List Int
 |[],n=>[n]
 |x::l,n=>if x<n then x::eA l n else if x=n then x::l else n::x::l
theorem Rx{n:Int}:∀ {l:List Int} {k:Nat},k<=l.length->(∀ j y,j<k->l[j]? =some y->y<n)->(∀ y,l[k]? =some y->¬ y<n)->
 eA l n=if l[k]? =some n then l else l.take k++n::l.drop k
 |[],k,hk,_,_=>by
  have:k=0:=by simpa using hk
  subst this;simp[eA]
 |x::l,0,_,_,h=>by
  have h0:¬ x<n:=h x rfl;by_cases e:x=n
  .subst e;simp[eA]
  .simp[eA,h0,e]
 |x::l,k+1,hk,h1,h2=>by
  have h0:x<n:=h1 0 x oG rfl;have ih:=Rx (n:=n) (l:=l) (k:=k) (by simpa using hk) (fun j y hj hy=>h1 (j+1) y oG (by simpa using hy)) (fun y hy=>h2 y (by simpa using hy));simp only[eA,if_pos h0,ih,List.getElem?_cons_succ];split<;>simp
theorem ux{n x:Int}:∀ {l:List Int},x∈eA l n↔x∈l\/x=n
 |[]=>by simp[eA]
 |y::l=>by
  unfold eA;split
  .rw[List.mem_cons,ux (l:=l),List.mem_cons];exact or_assoc.symm
  .split
   .rename_i e;subst e;simp only[List.mem_cons];constructor
    .exact .inl
    .rintro(h|h)
     .exact h
     .exact .inl h
   .simp only[List.mem_cons];constructor
    .rintro(h|h)
     .exact .inr h
     .exact .inl h
    .rintro(h|h)
     .exact .inr h
     .exact .inl h
theorem zJ{n:Int}:∀ {l:List Int},l.Pairwise (·<·)->(eA l n).Pairwise (·<·)
 |[],_=>by simp[eA]
 |y::l,h=>by
  rw[List.pairwise_cons] at h;unfold eA;split
  .rename_i hy;refine List.pairwise_cons.2 ⟨fun z C=>?_,zJ h.2⟩;rcases ux.1 C with C|rfl
   .exact h.1 z C
   .exact hy
  .split
   .exact List.pairwise_cons.2 h
   .refine List.pairwise_cons.2 ⟨fun z C=>?_,List.pairwise_cons.2 h⟩;rcases List.mem_cons.1 C with rfl|C
    .omega
    .have:=h.1 z C;omega
theorem Ig{n:Int}:∀ {l:List Int},(eA l n).length<=l.length+1
 |[]=>by simp[eA]
 |y::l=>by
  have:=Ig (n:=n) (l:=l);unfold eA;split
  .simp;omega
  .split<;>simp
def rN(l:List Int):List Int:=l.foldl eA []
theorem BA:∀ {l z:List Int},z.Pairwise (·<·)->(l.foldl eA z).Pairwise (·<·)/\(∀ x,x∈l.foldl eA z↔x∈z\/x∈l)/\(l.foldl eA z).length<=z.length+l.length
 |[],z,h=>⟨h,fun x=>by simp,by simp⟩
 |y::l,z,h=>by
  obtain⟨h1,h2,h3⟩:=BA (l:=l) (zJ (n:=y) h);have:=Ig (n:=y) (l:=z);refine⟨h1,fun x=>?_,by simp only[List.length_cons,List.foldl_cons];omega⟩;rw[List.foldl_cons,h2,ux,List.mem_cons,or_assoc]
theorem Fh:∀ {l z:List Int},l.Pairwise (·<·)->z.Pairwise (·<·)->(∀ x,x∈l↔x∈z)->l=z
 |[],[],_,_,_=>rfl
 |[],y::z,_,_,h=>by have:=(h y).2 oS;simp at this
 |y::l,[],_,_,h=>by have:=(h y).1 oS;simp at this
 |x::l,y::z,hl,hz,h=>by
  rw[List.pairwise_cons] at hl hz
  have e:x=y:=by
   have h1:=(h x).1 oS;have h2:=(h y).2 oS;rcases List.mem_cons.1 h1 with h1|h1
   .exact h1
   .rcases List.mem_cons.1 h2 with h2|h2
    .exact h2.symm
    .have:=hl.1 y h2;have:=hz.1 x h1;omega
  subst e;rw[Fh hl.2 hz.2 fun w=>⟨fun C=>?_,fun C=>?_⟩]
  .rcases List.mem_cons.1 ((h w).1 (by simp[C])) with e|e
   .have:=hl.1 w C;omega
   .exact e
  .rcases List.mem_cons.1 ((h w).2 (by simp[C])) with e|e
   .have:=hz.1 w C;omega
   .exact e
def oX(x:End):List Int:=rN (de x)
theorem Nx{x:End}{t:Int}:t∈oX x↔t∈de x:=by
 unfold oX rN;rw[(BA (l:=de x) (z:=[]) .nil).2.1];simp
theorem aaf(x:End):(oX x).length<=x.aI.length+3:=by
 have:=(BA (l:=de x) (z:=[]) .nil).2.2;have:=Bw x;unfold oX rN;simp at*;omega
def BT(bs:List bP)(L:Nat->List Int)(b:Nat):Nat->List Int:=match bs[b]? with
 |none=>L
 |some x=>(oX x.fin).foldl (c6 b) L
def kM(bs:List bP)(k:Nat):Nat->List Int:=(List.range k).foldl (BT bs) fun _=>[]
def js(x:bt)(c:Int):bt:=if c=116 then { x with to:=0 } else if c=97 then { x with a:=0 } else if c=98 then { x with b:=0 } else if c=110 then { x with n:=0 } else if c=108 then { x with args:=[] } else x
def j8(x:bt):Bool:=aQ x.to 0&&(aQ x.a 0&&(aQ x.b 0&&(aQ x.n 0&&jj x)))
def bK(x:bt)(fs:List Int):Bool:=j8 (fs.foldl js x)
def ko(f:aF)(x:bt):Bool:=
 if aN [30,31,32,33,34] x.op then bK x [116,97,98]&&(bf f x.to 119&&(bf f x.a 119&&bf f x.b 119))
 else if x.op=35 then bK x [97,98]&&(bf f x.a 114&&bf f x.b 118)
 else if x.op=36 then bK x [116,97]&&(bf f x.to 118&&bf f x.a 114)
 else if x.op=37 then bK x [116,97,98]&&(bf f x.to 118&&(bf f x.a 114&&bf f x.b 119))
 else if x.op=38 then bK x [97,98,108]&&(bf f x.a 114&&(bf f x.b 119&&(aQ x.args.length 1&&fQ f.ag x.args)))
 else false
def dv(f:aF)(b C:Int)(x:bt):Bool:=
 if x.op=1 then bK x [116,110]&&(bf f x.to 119&&cJ x.n (-1000000000) 1000000000)
 else if x.op=2 then bK x [116,97]&&jI f x.to x.a
 else if aN [3,4,6,7] x.op then bK x [116,97,98]&&(bf f x.to 119&&(bf f x.a 119&&bf f x.b 119))
 else if x.op=5 then bK x [116,97,98]&&(bf f x.to 119&&jI f x.a x.b)
 else if x.op=8 then bK x [116,97]&&(bf f x.to 119&&bf f x.a 119)
 else if x.op=9 then bK x [116,110]&&(bf f x.to 114&&cJ x.n 0 1)
 else if x.op=10 then bK x [116,110,108]&&(bf f x.to 114&&(cJ x.n 0 5&&(cJ x.args.length 1 6&&fQ f.ag x.args)))
 else if x.op=11 then bK x [116,97,110]&&(bf f x.to 118&&(bf f x.a 114&&cJ x.n 0 5))
 else if x.op=12 then bK x [97,98,110]&&(bf f x.a 114&&(bf f x.b 118&&cJ x.n 0 5))
 else if aN [13,14] x.op then bK x [116,97]&&(bf f x.to 119&&bf f x.a 114)
 else if x.op=15 then bK x [97]&&bf f x.a 119
 else if x.op=16 then bK x [97]&&bf f x.a 105
 else if x.op=17 then bK x [116,110]&&lK f.ag f.aR x.to x.n
 else if x.op=18 then bK x [97,110]&&lK f.ag f.aR x.a x.n
 else if x.op=19 then !aQ b 0&&(bK x [116,108]&&(bf f x.to 118&&(aQ x.args.length C&&x.args.all (jI f x.to))))
 else false
def gd(x:End)(c:Int):End:=
 if c=97 then { x with a:=0 } else if c=98 then { x with b:=0 } else if c=116 then { x with to:=0 } else if c=101 then { x with fm:=0 }
 else if c=110 then { x with name:=.empty } else if c=105 then { x with ins:=dt } else if c=108 then { x with args:=[] } else x
def oW(x:End):Bool:=aQ x.a 0&&(aQ x.b 0&&(aQ x.to 0&&(aQ x.fm 0&&(x.name.toList==[]&&(aQ x.args.length 0&&(aQ x.ins.op 0&&j8 x.ins))))))
def dk(x:End)(fs:List Int):Bool:=(fs.any (·==104)||(aQ x.aI.length 0&&aQ x.cx (-1)))&&oW (fs.foldl gd x)
def gf(f:aF)(x:End):Bool:=
 if x.kind=1 then dk x [116]&&bU f x.to
 else if x.kind=2 then dk x [97,116,101]&&(bf f x.a 119&&(bU f x.to&&bU f x.fm))
 else if x.kind=3 then(if f.iter=true\/f.result=0 then dk x [97]&&aQ x.a (-1) else dk x [97]&&(bf f x.a 118&&aQ (bZ f.ag x.a) f.result))
 else if x.kind=4 then dk x [110]&&isName x.name
 else if x.kind=5 then dk x [116,105,104]&&(ko f x.ins&&(bU f x.to&&me f x))
 else if x.kind=6 then dk x [97,116,110,108,104]&&(kL x.name&&(decide ((x.args.length:Int)<=6)&&(fQ f.ag x.args&&((aQ x.a (-1)||bf f x.a 118)&&(bU f x.to&&me f x)))))
 else if x.kind=7 then dk x [97,116,110,108]&&(kL x.name&&(decide ((x.args.length:Int)<=6)&&(fQ f.ag x.args&&(bf f x.a 105&&bU f x.to))))
 else if x.kind=8 then dk x [97,98,116,101,104]&&(bf f x.a 105&&(bf f x.b 118&&(bU f x.to&&(bU f x.fm&&me f x))))
 else if x.kind=9 then dk x [97,116]&&(f.iter&&(bf f x.a 118&&(aQ (bZ f.ag x.a) f.result&&bU f x.to)))
 else false
theorem tB(f:aF)(r:Int):bf f r 119=aQ (bZ f.ag r) 1:=rfl
theorem yw(f:aF)(r:Int):bf f r 114=aQ (bZ f.ag r) 2:=rfl
theorem CI(f:aF)(r:Int):bf f r 105=aQ (bZ f.ag r) 3:=rfl
theorem rQ(f:aF)(r:Int):bf f r 118=dO f.ag r:=rfl
theorem Zu{f:aF}{r n:Int}(C:∀ k∈f.aR,k=1\/k=2)(h:lK f.ag f.aR r n=true):dO f.ag r=true:=by
 unfold lK at h;rw[Bool.and_eq_true,jY] at h;obtain⟨⟨h1,h2⟩,h3⟩:=h;obtain⟨k,rfl⟩:=Int.eq_ofNat_of_zero_le h1;have hk:k<f.aR.length:=by omega
 rw[sX (List.getElem?_eq_getElem hk)] at h3;have h3:bZ f.ag r=f.aR[k]:=by simpa using h3
 have:=C _ (List.getElem_mem hk);unfold dO;rw[h3];rcases this with e|e<;>simp[e]
theorem acU(f:aF)(x:bt):ko f x=((fc jh x.op).isSome&&oD f.ag x ((fc jh x.op).getD xS)):=by
 obtain⟨op,to,a,b,n,args⟩:=x;unfold ko;dsimp only;by_cases h0:op=30\/op=31\/op=32\/op=33\/op=34
 .rcases h0 with rfl|rfl|rfl|rfl|rfl<;>
   (simp[aN,fc,jh,List.find?,oD,lC,p6,pV,bK,js,j8,tB,aQ,jj,cJ];grind)
 by_cases h5:op=35
 .subst h5;simp[aN,fc,jh,List.find?,oD,lC,p6,pV,bK,js,j8,tB,yw,rQ,aQ,jj,cJ];grind
 by_cases C:op=36
 .subst C;simp[aN,fc,jh,List.find?,oD,lC,p6,pV,bK,js,j8,tB,yw,rQ,aQ,jj,cJ];grind
 by_cases J:op=37
 .subst J;simp[aN,fc,jh,List.find?,oD,lC,p6,pV,bK,js,j8,tB,yw,rQ,aQ,jj,cJ];grind
 by_cases M:op=38
 .subst M;simp[aN,fc,jh,List.find?,oD,lC,p6,pV,bK,js,j8,tB,yw,rQ,aQ,jj,cJ];grind
 have hn:fc jh op=none:=by
  simp only[fc,jh,Option.map_eq_none_iff,List.find?_eq_none];simp;omega
 rw[hn,if_neg (by simp[aN];omega),if_neg h5,if_neg C,if_neg J,if_neg M];rfl
theorem acV(f:aF)(to:Int)(l:List Int)(h:dO f.ag to=true):l.all (jI f to)= !l.any fun r=> !aQ (bZ f.ag r) (bZ f.ag to):=by
 have hk:bZ f.ag to=1\/bZ f.ag to=2:=by simpa[dO] using h
 rw[List.not_any_eq_all_not];congr 1;funext r;simp only[jI,h,Bool.true_and,aQ,Bool.not_not,dO];grind
theorem QD{f:aF}{b X:Nat}{x:bt}(hs:∀ k∈f.aR,k=1\/k=2):dv f b X x=iM f b x true X:=by
 have hsv:= @Zu f;obtain⟨op,to,a,b',n,args⟩:=x;unfold dv iM;dsimp only;by_cases U:op=16
 .subst U;simp[aN,bK,js,j8,CI,aQ,jj];grind
 by_cases M:op=17
 .subst M;simp[aN,bK,js,j8,aQ,jj];grind
 by_cases C:op=18
 .subst C;simp[aN,bK,js,j8,aQ,jj];grind
 by_cases J:op=19
 .subst J;cases hv:dO f.ag to with
  |false=>simp[aN,rQ,hv]
  |true=>
   rw[acV f to args hv]
   have hb:decide (0<(b:Int))= !decide ((b:Int)=0):=by
    by_cases h:b=0<;>simp[h];omega
   simp[aN,rQ,hv,hb,bK,js,j8,aQ,jj];grind
 rw[if_neg U,if_neg M,if_neg C,if_neg J,if_neg U,if_neg M,if_neg C,if_neg J];by_cases hm:op∈[1,2,3,4,5,6,7,8,9,10,11,12,13,14,15]
 .simp only[List.mem_cons,List.not_mem_nil,or_false] at hm
  rcases hm with rfl|rfl|rfl|rfl|rfl|rfl|rfl|rfl|rfl|rfl|rfl|rfl|rfl|rfl|rfl<;>
   (simp[aN,fc,nQ,List.find?,oD,lC,p6,pV,bK,js,j8,tB,yw,rQ,aQ,jj,cJ,jI,dO];grind)
 .have hn:fc nQ op=none:=by
   simp only[fc,nQ,Option.map_eq_none_iff,List.find?_eq_none];simp at hm ⊢;omega
  simp only[List.mem_cons,List.not_mem_nil,or_false,not_or] at hm;rw[hn];simp[aN];grind
theorem IT{f:aF}{x:End}(hr:pZ f=true):gf f x=jg f x:=by
 have ht:=acU f x.ins
 have A1:(f.result=1\/f.result=2)\/f.result=0/\f.iter=false:=by
  simp[pZ] at hr;grind
 obtain⟨kind,a,b,to,fm,name,ins,args,aI,cx⟩:=x;dsimp only at ht;have X:∀ y:bt,Cs y=(aQ y.op 0&&j8 y):=fun y=>by simp[Cs,j8,aQ,jj]
 have h0:j8 dt=true:=rfl;have he:ByteArray.toList .empty=[]:=by simp
 unfold gf jg fC yq;simp only[X];by_cases h1:kind=1
 .subst h1;simp[dk,gd,oW,aQ];grind
 by_cases h2:kind=2
 .subst h2;simp[dk,gd,oW,aQ,tB];grind
 by_cases h3:kind=3
 .subst h3;simp[dk,gd,oW,aQ,rQ,dO];grind
 by_cases h4:kind=4
 .subst h4;simp[dk,gd,oW,aQ];grind
 by_cases h5:kind=5
 .subst h5;simp[dk,gd,oW,aQ,ht,h0,dt];grind
 by_cases C:kind=6
 .subst C;simp[dk,gd,oW,aQ,rQ,he];grind
 by_cases J:kind=7
 .subst J;simp[dk,gd,oW,aQ,CI,he];grind
 by_cases M:kind=8
 .subst M;simp[dk,gd,oW,aQ,CI,rQ];grind
 by_cases U:kind=9
 .subst U;simp[dk,gd,oW,aQ,rQ,dO];grind
 simp[h1,h2,h3,h4,h5,C,J,M,U]
end Go.Argus
namespace Go.Proofs.Tryz.K
set_option maxRecDepth 10000
theorem Ug{x:bt}{d0:D}{s:ByteArray}(M:tQ d0 x.args)(hs:s.size<=8):PCall prog 214 [.agg (yu x d0),S s] (B (bK x (cA s))):=by
 refine a9 mixed Uh (by rw[ahV];rfl) (.cons (.agg (abu M)) (.cons (.s _) .nil)) (Tr.s _) ?_;rw[ahW,ahX];refine aw ?_;refine fX (tk (cs:=yu x d0) rfl) (by repeat' (first|exact trivial|exact rfl|refine And.intro ?_ ?_)) (abv M) ?_;refine SS ?_;refine ab (aO (aE (l:=[(1,S s),(2,.rp 0 0)]) (ml:=[(0,.cells (yu x d0) 66)]) eH eH) (aC (aw ?_)));refine SS ?_
 refine ab (bO (fun st=>∃ y d,Ghost prog st ⟨az [(2,.rp 0 0)],aY [(0,.cells (yu y d) 66)],1⟩/\(cA s).foldl js x=y/\tQ d y.args) (b8 (α:=Nat×bt×D) (fun q=>⟨az [(1,S s),(2,.rp 0 0),(5,I q.1)],aY [(0,.cells (yu q.2.1 q.2.2) 66)],1⟩)
  (fun q=>q.1<=s.size/\((cA s).take q.1).foldl js x=q.2.1/\tQ q.2.2 q.2.1.args) (fun q=>s.size - q.1) (0,x,d0) (aE eH eH) ⟨Nat.zero_le _,rfl,M⟩ ?_) ?_)
 .rintro⟨k,y,d⟩ ⟨hk,hy,hd⟩;dsimp only at hk hy hd ⊢;refine aP ?_;refine ab ⟨_,rfl,fun h=>?_,fun h=>?_⟩
  .have ao:k<s.size:=by simpa using h
   obtain⟨hm,hx⟩:=Fa ao;generalize C:s.data.toList.getD (k:Int).toNat 0=z at hm hx;have J:((cA s).take (k+1)).foldl js x=js y z.toNat:=by rw[iG hx,hy]
   refine ws ?_;refine au ?_;refine ab (ja (aj ?_));refine af ?_;refine ab (aq rfl (fun h1=>fe ?_) fun h1=>aj ?_)
   .refine af ?_;refine ab ?_;show AOps _ _ _ _ _ _ _ _ _;refine au ?_;refine ab (aJ (k+1,{ y with to:=0 },d) (aE eH eH) ⟨by dsimp only;omega,?_,hd⟩ oM);rw[C] at h1;rw[J,js,if_pos (by simpa using h1)]
   rw[C] at h1;have h1:¬ (z.toNat:Int)=116:=by simpa using h1
   refine af ?_;refine ab (aq rfl (fun h2=>fe ?_) fun h2=>aj ?_)
   .refine af ?_;refine ab ?_;show AOps _ _ _ _ _ _ _ _ _;refine au ?_;refine ab (aJ (k+1,{ y with a:=0 },d) (aE eH eH) ⟨by dsimp only;omega,?_,hd⟩ oM);rw[C] at h2;rw[J,js,if_neg h1,if_pos (by simpa using h2)]
   rw[C] at h2;have h2:¬ (z.toNat:Int)=97:=by simpa using h2
   refine af ?_;refine ab (aq rfl (fun h3=>fe ?_) fun h3=>aj ?_)
   .refine af ?_;refine ab ?_;show AOps _ _ _ _ _ _ _ _ _;refine au ?_;refine ab (aJ (k+1,{ y with b:=0 },d) (aE eH eH) ⟨by dsimp only;omega,?_,hd⟩ oM);rw[C] at h3;rw[J,js,if_neg h1,if_neg h2,if_pos (by simpa using h3)]
   rw[C] at h3;have h3:¬ (z.toNat:Int)=98:=by simpa using h3
   refine af ?_;refine ab (aq rfl (fun h4=>fe ?_) fun h4=>aj ?_)
   .refine af ?_;refine ab ?_;show AOps _ _ _ _ _ _ _ _ _;refine au ?_;refine ab (aJ (k+1,{ y with n:=0 },d) (aE eH eH) ⟨by dsimp only;omega,?_,hd⟩ oM);rw[C] at h4;rw[J,js,if_neg h1,if_neg h2,if_neg h3,if_pos (by simpa using h4)]
   rw[C] at h4;have h4:¬ (z.toNat:Int)=110:=by simpa using h4
   refine af ?_;refine ab (aq rfl (fun h5=>fe ?_) fun h5=>?_)
   .refine af ?_;refine ab ?_;show AOps _ _ _ _ _ _ _ _ _;refine au ?_;refine ab (aJ (k+1,{ y with args:=[] },.z) (aE eH eH) ⟨by dsimp only;omega,?_,.inr ⟨rfl,rfl⟩⟩ oM);rw[C] at h5;rw[J,js,if_neg h1,if_neg h2,if_neg h3,if_neg h4,if_pos (by simpa using h5)]
   rw[C] at h5;have h5:¬ (z.toNat:Int)=108:=by simpa using h5
   refine cg ?_;show AOps _ _ _ _ _ _ _ _ _;refine au ?_;refine ab (aJ (k+1,y,d) (aE eH eH) ⟨by dsimp only;omega,?_,hd⟩ oM);rw[J,js,if_neg h1,if_neg h2,if_neg h3,if_neg h4,if_neg h5]
  .have X:¬ k<s.size:=by simpa using h
   rw[List.take_of_length_le (by simp[cA];omega)] at hy;exact⟨y,d,aE eH eH,hy,hd⟩
 .rintro st ⟨y,d,hg,hy,hd⟩;refine⟨_,hg,aj ?_⟩;have hl:bK x (cA s)=j8 y:=by rw[bK,hy]
  rw[hl];have U:((y.args.length:Int)=0)↔y.args=[]:=⟨fun h=>List.length_eq_zero_iff.1 oG,fun h=>by rw[h];rfl⟩
  rcases hd with rfl|⟨rfl,hd⟩
  .refine aL ?_;refine aL ?_;refine c8 ?_;refine ab (ay (d:=.s (.bool _)) rfl ?_);simp[j8,aQ,jj];grind
  .refine aL ?_;refine aL ?_;refine au ?_;refine bG rfl rfl (QT rfl) (fun hc=>⟨ak,V.h⟩) ?_;refine au ?_;refine ab (ay (d:=.s (.bool _)) rfl ?_);simp[j8,aQ,jj,hd];grind
theorem bV{x:bt}{s:ByteArray}(C:s.size<=8):PCall prog 214 [.agg (bl x),S s] (B (bK x (cA s))):=Ug (d0:=ax x.args) (.inl rfl) C
set_option maxHeartbeats 1000000 in
theorem dX{x:Argus.End}{s:ByteArray}(hs:s.size<=8):PCall prog 219 [.agg (bc x),S s] (B (dk x (cA s))):=by
 refine a9 mixed Uj (by rw[ahY];rfl) (.cons (.agg (kH x)) (.cons (.s _) .nil)) (Tr.s _) ?_;rw[ahZ,ah0];refine aw ?_;refine af ?_;refine ab (aO (aE (l:=[(1,S s),(2,.rp 0 0)]) (ml:=[(0,.cells (bc x) 69)]) eH eH) (aj ?_));refine SS ?_;refine ab (aC (aw ?_));refine SS ?_
 refine ab (bO (fun st=>∃ y J U,Ghost prog st ⟨az [(2,.rp 0 0),(5,B ((cA s).any (·==104)))],aY [(0,.cells (Ui y J U) 69)],1⟩/\(cA s).foldl gd x=y/\tQ J y.ins.args/\tQ U y.args) (b8 (α:=Nat×Argus.End×D×D) (fun q=>⟨az [(1,S s),(2,.rp 0 0),(5,B (((cA s).take q.1).any (·==104))),(6,I q.1)],aY [(0,.cells (Ui q.2.1 q.2.2.1 q.2.2.2) 69)],1⟩)
  (fun q=>q.1<=s.size/\((cA s).take q.1).foldl gd x=q.2.1/\tQ q.2.2.1 q.2.1.ins.args/\tQ q.2.2.2 q.2.1.args) (fun q=>s.size - q.1) (0,x,ax x.ins.args,ax x.args) (aE eH eH) ⟨Nat.zero_le _,rfl,.inl rfl,.inl rfl⟩ ?_) ?_)
 .rintro⟨k,y,J,U⟩ ⟨hk,hy,c7,M⟩;dsimp only at hk hy c7 M ⊢;refine aP ?_;refine ab ⟨_,rfl,fun h=>?_,fun h=>?_⟩
  .have ao:k<s.size:=by simpa using h
   obtain⟨hm,hx⟩:=Fa ao;generalize C:s.data.toList.getD (k:Int).toNat 0=z at hm hx;have bC:((cA s).take (k+1)).foldl gd x=gd y z.toNat:=by rw[iG hx,hy]
   have tR:((cA s).take (k+1)).any (·==104)=(((cA s).take k).any (·==104)||(z.toNat:Int)==104):=by rw[List.take_add_one,hx,List.any_append];simp
   generalize ((cA s).take k).any (·==104)=hb at tR;refine ws ?_;refine au ?_;refine ab (ja (aj ?_));refine af ?_;refine ab (aq rfl (fun h0=>fe ?_) fun h0=>aj ?_)
   .refine af ?_;refine ab ?_;show AOps _ _ _ _ _ _ _ _ _;refine au ?_;rw[C] at h0;have h0:(z.toNat:Int)=97:=by simpa using h0
    refine ab (aJ (k+1,{ y with a:=0 },J,U) (aE ⟨rfl,rfl,?_,rfl,trivial⟩ eH) ⟨by dsimp only;omega,?_,c7,M⟩ oM)
    .show B hb=B (((cA s).take (k+1)).any (·==104));rw[tR,h0];simp
    .rw[bC,gd,if_pos h0]
   rw[C] at h0;have h0:¬ (z.toNat:Int)=97:=by simpa using h0
   refine af ?_;refine ab (aq rfl (fun h1=>fe ?_) fun h1=>aj ?_)
   .refine af ?_;refine ab ?_;show AOps _ _ _ _ _ _ _ _ _;refine au ?_;rw[C] at h1;have h1:(z.toNat:Int)=98:=by simpa using h1
    refine ab (aJ (k+1,{ y with b:=0 },J,U) (aE ⟨rfl,rfl,?_,rfl,trivial⟩ eH) ⟨by dsimp only;omega,?_,c7,M⟩ oM)
    .show B hb=B (((cA s).take (k+1)).any (·==104));rw[tR,h1];simp
    .rw[bC,gd,if_neg h0,if_pos h1]
   rw[C] at h1;have h1:¬ (z.toNat:Int)=98:=by simpa using h1
   refine af ?_;refine ab (aq rfl (fun h2=>fe ?_) fun h2=>aj ?_)
   .refine af ?_;refine ab ?_;show AOps _ _ _ _ _ _ _ _ _;refine au ?_;rw[C] at h2;have h2:(z.toNat:Int)=116:=by simpa using h2
    refine ab (aJ (k+1,{ y with to:=0 },J,U) (aE ⟨rfl,rfl,?_,rfl,trivial⟩ eH) ⟨by dsimp only;omega,?_,c7,M⟩ oM)
    .show B hb=B (((cA s).take (k+1)).any (·==104));rw[tR,h2];simp
    .rw[bC,gd,if_neg h0,if_neg h1,if_pos h2]
   rw[C] at h2;have h2:¬ (z.toNat:Int)=116:=by simpa using h2
   refine af ?_;refine ab (aq rfl (fun h3=>fe ?_) fun h3=>aj ?_)
   .refine af ?_;refine ab ?_;show AOps _ _ _ _ _ _ _ _ _;refine au ?_;rw[C] at h3;have h3:(z.toNat:Int)=101:=by simpa using h3
    refine ab (aJ (k+1,{ y with fm:=0 },J,U) (aE ⟨rfl,rfl,?_,rfl,trivial⟩ eH) ⟨by dsimp only;omega,?_,c7,M⟩ oM)
    .show B hb=B (((cA s).take (k+1)).any (·==104));rw[tR,h3];simp
    .rw[bC,gd,if_neg h0,if_neg h1,if_neg h2,if_pos h3]
   rw[C] at h3;have h3:¬ (z.toNat:Int)=101:=by simpa using h3
   refine af ?_;refine ab (aq rfl (fun h4=>fe ?_) fun h4=>aj ?_)
   .refine af ?_;refine ab ?_;show AOps _ _ _ _ _ _ _ _ _;refine au ?_;rw[C] at h4;have h4:(z.toNat:Int)=110:=by simpa using h4
    refine ab (aJ (k+1,{ y with name:=.empty },J,U) (aE ⟨rfl,rfl,?_,rfl,trivial⟩ eH) ⟨by dsimp only;omega,?_,c7,M⟩ oM)
    .show B hb=B (((cA s).take (k+1)).any (·==104));rw[tR,h4];simp
    .rw[bC,gd,if_neg h0,if_neg h1,if_neg h2,if_neg h3,if_pos h4]
   rw[C] at h4;have h4:¬ (z.toNat:Int)=110:=by simpa using h4
   refine af ?_;refine ab (aq rfl (fun h5=>fe ?_) fun h5=>aj ?_)
   .refine au ?_;refine ab ?_;show AOps _ _ _ _ _ _ _ _ _;refine au ?_;rw[C] at h5;have h5:(z.toNat:Int)=105:=by simpa using h5
    refine ab (aJ (k+1,{ y with ins:=dt },.z,U) (aE ⟨rfl,rfl,?_,rfl,trivial⟩ eH) ⟨by dsimp only;omega,?_,.inr ⟨rfl,rfl⟩,M⟩ oM)
    .show B hb=B (((cA s).take (k+1)).any (·==104));rw[tR,h5];simp
    .rw[bC,gd,if_neg h0,if_neg h1,if_neg h2,if_neg h3,if_neg h4,if_pos h5]
   rw[C] at h5;have h5:¬ (z.toNat:Int)=105:=by simpa using h5
   refine af ?_;refine ab (aq rfl (fun X=>fe ?_) fun X=>aj ?_)
   .refine af ?_;refine ab ?_;show AOps _ _ _ _ _ _ _ _ _;refine au ?_;rw[C] at X;have X:(z.toNat:Int)=108:=by simpa using X
    refine ab (aJ (k+1,{ y with args:=[] },J,.z) (aE ⟨rfl,rfl,?_,rfl,trivial⟩ eH) ⟨by dsimp only;omega,?_,c7,.inr ⟨rfl,rfl⟩⟩ oM)
    .show B hb=B (((cA s).take (k+1)).any (·==104));rw[tR,X];simp
    .rw[bC,gd,if_neg h0,if_neg h1,if_neg h2,if_neg h3,if_neg h4,if_neg h5,if_pos X]
   rw[C] at X;have X:¬ (z.toNat:Int)=108:=by simpa using X
   refine af ?_;refine ab (aq rfl (fun h8=>fe ?_) fun h8=>?_)
   .refine SS ?_;refine ab ?_;show AOps _ _ _ _ _ _ _ _ _;refine au ?_;rw[C] at h8;refine ab (aJ (k+1,y,J,U) (aE ⟨rfl,rfl,?_,rfl,trivial⟩ eH) ⟨by dsimp only;omega,?_,c7,M⟩ oM)
    .show B true=B (((cA s).take (k+1)).any (·==104));rw[tR,h8];simp
    .rw[bC,gd,if_neg h0,if_neg h1,if_neg h2,if_neg h3,if_neg h4,if_neg h5,if_neg X]
   rw[C] at h8;refine cg ?_;show AOps _ _ _ _ _ _ _ _ _;refine au ?_;refine ab (aJ (k+1,y,J,U) (aE ⟨rfl,rfl,?_,rfl,trivial⟩ eH) ⟨by dsimp only;omega,?_,c7,M⟩ oM)
   .show B hb=B (((cA s).take (k+1)).any (·==104));rw[tR,h8];simp
   .rw[bC,gd,if_neg h0,if_neg h1,if_neg h2,if_neg h3,if_neg h4,if_neg h5,if_neg X]
  .have aX:¬ k<s.size:=by simpa using h
   rw[List.take_of_length_le (by simp[cA];omega)] at hy ⊢;exact⟨y,J,U,aE eH eH,hy,c7,M⟩
 .rintro st ⟨y,J,U,hg,hy,c7,M⟩;refine⟨_,hg,aC (aj ?_)⟩
  have hl:dk x (cA s)=(((cA s).any (·==104)||(aQ y.aI.length 0&&aQ y.cx (-1)))&&oW y):=by
   have hw:∀ (l:List Int) (x:Argus.End),(l.foldl gd x).aI=x.aI/\(l.foldl gd x).cx=x.cx:=fun l=>by
    induction l with
    |nil=>exact fun _=>⟨rfl,rfl⟩
    |cons a l ih=>
     intro x
     have:(gd x a).aI=x.aI/\(gd x a).cx=x.cx:=by
      unfold gd
      repeat' split
      all_goals exact⟨rfl,rfl⟩
     rw[List.foldl_cons,(ih _).1,(ih _).2,this.1,this.2];exact⟨rfl,rfl⟩
   obtain⟨h1,h2⟩:=hw (cA s) x;rw[hy] at h1 h2;rw[dk,hy,h1,h2]
  rw[hl];clear hl hy;generalize (cA s).any (·==104)=hb;have bV:PCall prog 214 [.agg [U8 y.ins.op,I y.ins.to,I y.ins.a,I y.ins.b,I y.ins.n,J],S ⟨#[]⟩] (B (j8 y.ins)):=Ug (x:=y.ins) c7 oC;refine aL ?_;refine aP ?_;refine ab (bh rfl (fun h=>?_) fun h=>bS (aj ?_))
  .refine aC (aj ?_);refine SS ?_;refine ab (cU (ay (d:=.s (.bool _)) rfl ?_));revert h;simp[aQ];grind
  rcases M with rfl|⟨rfl,M⟩
  .refine aL ?_;refine aL ?_;refine aL ?_;refine aL ?_;refine af ?_;refine gc bV ?_;refine af ?_;refine ab (ay (d:=.s (.bool _)) rfl ?_);revert h;simp[oW,aQ];grind
  .refine aL ?_;refine aL ?_;refine bF ?_;refine bG rfl rfl (QT rfl) (fun hc=>⟨ak,V.h⟩) ?_;refine aL ?_;refine af ?_;refine gc bV ?_;refine af ?_;refine ab (ay (d:=.s (.bool _)) rfl ?_);revert h;simp[oW,aQ,M];grind
theorem qA{x:Argus.End}(hlen:x.aI.length<=100000):PCall prog 145 [.agg (bc x)] (ax (de x)):=by
 have aW:∀ a∈[D.agg (bc x)],Tr a:=.cons (.agg (kH x)) .nil;refine a9 mixed Uk (by rw[ah1];rfl) aW (cB _) ?_;rw[ah2,ah3];refine aw ?_;refine af ?_;refine ab (aO (bw [(0,bc x,69)] eH (l:=[(1,.pt (bc x))]) eH) (aw ?_));refine SS ?_;refine ab ⟨_,.nilrow _ _ _ 3 3 rfl,?_⟩;refine dE (xv x (eX x)) (aj ?_) fun s C=>?_
 .have yes:x.kind≠3/\x.kind≠4->eX x=[x.to]:=fun h=>by rw[eX,if_pos h]
  have no:¬ (x.kind≠3/\x.kind≠4)->eX x=[]:=fun h=>by rw[eX,if_neg h]
  have aA:up (fun _=>(none:Option Row)) 1 (some (.cells [] 3)) 1=some (.cells [] 3):=up_same _ _ _;by_cases h3:x.kind=3
  .have gZ:(x.kind !=3)=false:=by simp[h3]
   refine aP ?_;(iterate 3 refine z fun _ _=>?_);refine SS ?_;refine ab (aq rfl (fun h=>oH) fun h=>aZ ?_);rw[no (by simp[h3])];exact⟨_,_,_,Nat.lt_succ_self _,up_same _ _ _,av eH⟩
  .by_cases h4:x.kind=4
   .have gZ:(x.kind !=3)=true:=by simp[h4]
    have JG:(x.kind !=4)=false:=by simp[h4]
    refine bF ?_;refine ab (aq rfl (fun h=>(by simp[h4] at h)) fun h=>aZ ?_);rw[no (by simp[h4])];exact⟨_,_,_,Nat.lt_succ_self _,up_same _ _ _,av eH⟩
   .have gZ:(x.kind !=3)=true:=by simp[h3]
    have JG:(x.kind !=4)=true:=by simp[h4]
    refine bF ?_;refine ab (aq rfl (fun h=>?_) fun h=>(by simp[h4] at h));refine fe ?_;refine bD ?_;refine ab ?_;rw[yes ⟨h3,h4⟩];exact⟨_,_,_,Nat.lt_succ_self _,up_same _ _ _,av eH⟩
 obtain⟨r,m,nx,hr,aA,hg⟩:=C;refine⟨_,hg,dE (xv x (mJ x)) (aj ?_) fun s C=>?_⟩
 .have J:mJ x=if x.kind=2\/x.kind=8 then eX x++[x.fm] else eX x:=rfl
  have M:(eX x).length<=1:=by unfold eX;split<;>simp
  generalize eX x=l at aA J M;have X:(l.map I).length=l.length:=by simp
  by_cases h2:x.kind=2\/x.kind=8
  .rw[if_pos h2] at J;refine bF ?_;refine ab (aq rfl (fun h=>fe ?_) fun h=>(by rcases h2 with h2|h2<;>simp[h2] at h));refine bD ?_;refine ab ?_;rw[J];refine⟨_,_,_,Nat.lt_succ_self _,(up_same _ _ _).trans (by rw[List.map_append];rfl),av ⟨rfl,?_,trivial⟩⟩;show D.rs _ 0 _=D.rs _ 0 _;rw[List.length_append];rfl
  .rw[if_neg h2] at J;refine bF ?_;refine ab (aq rfl (fun h=>(by exfalso;apply h2;revert h;by_cases e2:x.kind=2<;>by_cases e8:x.kind=8<;>simp[e2,e8])) fun h=>aZ ?_);rw[J];exact⟨r,m,nx,hr,aA,av eH⟩
 clear hg hr aA;obtain⟨r,m,nx,hr,aA,hg⟩:=C;refine⟨_,hg,dE (xv x (cT x x.aI.length)) (aw ?_) fun s C=>?_⟩
 .refine SS ?_
  refine ab (b8 (α:=Nat×Nat×Mem×Nat) (fun s=>⟨az [(1,.pt (bc x)),(3,.rs s.2.1 0 (cT x s.1).length),(4,I s.1)],s.2.2.1,s.2.2.2⟩)
   (fun s=>s.1<=x.aI.length/\s.2.1<s.2.2.2/\s.2.2.1 s.2.1=some (.cells ((cT x s.1).map I) 3)) (fun s=>x.aI.length - s.1) (0,r,m,nx) (av ⟨rfl,?_,rfl,trivial⟩) ⟨Nat.zero_le _,hr,?_⟩ ?_)
  .show D.rs r 0 _=D.rs r 0 _;simp[cT]
  .show m r=_;rw[aA];simp[cT]
  clear hg hr aA;rintro⟨j,r,m,nx⟩ ⟨hj,hr,aA⟩;dsimp only at hj hr aA ⊢;refine aK ?_;refine ab ⟨_,rfl,fun h=>?_,fun h=>?_⟩
  .have ct:j<x.aI.length:=by simpa using h
   have hy:x.aI[j]? =some x.aI[j]:=List.getElem?_eq_getElem ct;generalize x.aI[j]=w at hy;have U:=Ol hy;have l5:(cT x (j+1)).length=(cT x j).length+1:=by rw[U];simp
   have X:((cT x j).map I).length=(cT x j).length:=by simp
   have M:(cT x j).length<=2+j:=by have:=BR x;unfold cT;simp;omega
   generalize cT x j=l at aA U X l5 M;refine dz ?_;refine bF ?_;refine af ?_;refine ab ?_;refine au ?_;refine ab (aJ (j+1,nx+1,_,_) (av ⟨rfl,?_,rfl,trivial⟩) ⟨by dsimp only;omega,by dsimp only;omega,?_⟩ oM)
   .show D.rs _ 0 _=D.rs _ 0 _;rw[l5]
   .dsimp only;rw[U,List.map_append];exact up_same _ _ _
  .have aX:¬ j<x.aI.length:=by simpa using h
   have:j=x.aI.length:=by omega
   subst this;exact⟨r,m,nx,hr,aA,av eH⟩
 clear hg hr aA;obtain⟨r,m,nx,hr,aA,hg⟩:=C;refine⟨_,hg,dE (xv x (de x)) (aj ?_) fun s C=>?_⟩
 .have hd:de x=if 0<=x.cx then cT x x.aI.length++[x.cx] else cT x x.aI.length:=rfl
  have M:(cT x x.aI.length).length<=2+x.aI.length:=by have:=BR x;unfold cT;simp;omega
  generalize cT x x.aI.length=l at aA hd M;have X:(l.map I).length=l.length:=by simp
  refine au ?_;refine ab (aq rfl (fun h=>fe ?_) fun h=>aZ ?_)
  .rw[if_pos (by simpa using h)] at hd;refine bD ?_;refine ab ?_;rw[hd];refine⟨_,_,_,Nat.lt_succ_self _,(up_same _ _ _).trans (by rw[List.map_append];rfl),av ⟨rfl,?_,trivial⟩⟩;show D.rs _ 0 _=D.rs _ 0 _;rw[List.length_append];rfl
  .rw[if_neg (by simpa using h)] at hd;rw[hd];exact⟨r,m,nx,hr,aA,av eH⟩
 clear hg hr aA;obtain⟨r,m,nx,hr,aA,hg⟩:=C;refine⟨_,hg,aw ?_⟩;refine af ?_;refine ab (aO (bw [(r,(de x).map I,3)] ⟨aA,trivial⟩ (l:=[(2,ax (de x))]) ⟨j7 (sz:=1) c3 (by rw[List.drop_zero,List.take_of_length_le oS]),trivial⟩) (ay rfl rfl))
theorem pI{l:List Int}{n:Int}(hl:l.length<=100000):PCall prog 92 [ax l,I n] (ax (eA l n)):=by
 refine a9 mixed V8 (by rw[amw];rfl) (.cons (cB _) (.cons (.s _) .nil)) (cB _) ?_;rw[amx,amy];refine ws ?_;refine SS ?_;refine ab (aw ?_);refine SS ?_
 refine ab (bO (fun st=>∃ k:Nat,Ghost prog st ⟨az [(0,ax l),(1,I n),(5,I k)],fun _=>none,0⟩/\k<=l.length/\(∀ (j:Nat) y,j<k->l[j]? =some y->y<n)/\∀ y,l[k]? =some y->¬ y<n) (uA (α:=Nat) (fun k=>⟨az [(0,ax l),(1,I n),(5,I k)],fun _=>none,0⟩)
  (fun k=>k<=l.length/\∀ (j:Nat) y,j<k->l[j]? =some y->y<n) (fun k=>l.length - k) 0 (av eH) ⟨Nat.zero_le _,fun j y hj=>by omega⟩ ?_) ?_)
 .rintro k ⟨hk,hinv⟩;by_cases ao:k<l.length
  .have hx:l[k]? =some l[k]:=List.getElem?_eq_getElem ao;generalize l[k]=y at hx;have tI:decide ((k:Int)<(l.length:Int))=true:=decide_eq_true oG;refine aL ?_;refine au ?_;refine ab ⟨_,rfl,fun h=>?_,fun h=>?_⟩
   .have hy:y<n:=by simpa using h
    refine dz ?_;refine au ?_;refine ab (aJ (k+1) (av eH) ⟨by omega,fun j J hj M=>?_⟩ oG);by_cases e:j=k
    .subst e;rw[hx] at M;cases M;exact hy
    .exact hinv j J oG M
   .have hy:¬ y<n:=by simpa using h
    exact⟨k,av eH,hk,hinv,fun J M=>by rw[hx] at M;cases M;exact hy⟩
  .have tI:decide ((k:Int)<(l.length:Int))=false:=decide_eq_false oG;refine aK ?_;(iterate 6 refine z fun _ _=>?_);refine SS ?_;refine ab ⟨_,rfl,fun h=>oH,fun h=>?_⟩;exact⟨k,av eH,hk,hinv,fun J M=>by have:=(List.getElem?_eq_some_iff.1 M).1;omega⟩
 .rintro st ⟨k,hg,hk,hinv,aU⟩;have fY:=Rx hk hinv aU;refine⟨_,hg,aC (aj ?_)⟩;by_cases X:l[k]? =some n
  .rw[if_pos X] at fY;have tI:decide ((k:Int)<(l.length:Int))=true:=decide_eq_true (by have:=(List.getElem?_eq_some_iff.1 X).1;omega);refine aL ?_;refine au ?_;refine ab (bh rfl (fun h=>?_) fun h=>(by simp at h));refine aC (aj ?_);refine af ?_;refine ab (cU (ay rfl ?_));rw[fY];rfl
  rw[if_neg X] at fY
  have mF:((l.map I).drop ((0:Int).toNat*1)).take (((k:Int) - 0).toNat*1)=(l.take k).map I:=by
   rw[show(0:Int).toNat*1=0 by simp,show((k:Int) - 0).toNat*1=k by omega,List.drop_zero,List.map_take]
  have LN:((l.map I).drop ((k:Int).toNat*1)).take (((l.length:Int) - k).toNat*1)=(l.drop k).map I:=by
   rw[show(k:Int).toNat*1=k by omega, <- List.map_drop,List.take_of_length_le (by simp;try omega)]
  have LO:((l.take k).map I).take (((k:Int) - 0).toNat*1)=(l.take k).map I:=List.take_of_length_le (by simp;try omega);have LP:((l.drop k).map I).take (((l.length:Int) - k).toNat*1)=(l.drop k).map I:=List.take_of_length_le (by simp;try omega);have xx:((l.take k).map I).length=k:=by simp;omega
  have D2:((l.drop k).map I).length=l.length - k:=by simp
  have U:((l.take k).map I++[I n])++(l.drop k).map I=(l.take k++n::l.drop k).map I:=by simp
  have hlen:(l.take k++n::l.drop k).length=l.length+1:=by simp;omega
  rw[fY];generalize l.take k++n::l.drop k=J at U hlen;generalize (l.take k).map I=A at mF LO xx U;generalize (l.drop k).map I=C at LN LP D2 U;by_cases ao:k<l.length
  .have hx:l[k]? =some l[k]:=List.getElem?_eq_getElem ao;have aB:l[k]≠n:=fun e=>X (by rw[hx,e]);generalize l[k]=y at hx aB;have tI:decide ((k:Int)<(l.length:Int))=true:=decide_eq_true oG;have fh:(y==n)=false:=by simpa using aB
   refine aL ?_;refine au ?_;refine ab (bh rfl (fun h=>oH) fun h=>bS (aj ?_));refine au ?_;refine aH (xQ (es':=A) rfl D3 c3 rfl rfl mF) (by repeat' (first|exact trivial|exact rfl|refine And.intro ?_ ?_)) ⟨Db,by omega,by omega,by omega⟩ ?_;have rT:=LO;refine aK ?_;refine ab (aw ?_);refine au ?_;refine aH (xQ (es':=C) rfl D3 c3 rfl rfl LN) (by repeat' (first|exact trivial|exact rfl|refine And.intro ?_ ?_)) ⟨Db,by omega,by omega,by omega⟩ ?_;have rT:=LP;refine af ?_;refine ab (aO (bw [(4,J.map I,3)] ⟨by rw[<- U];rfl,trivial⟩ (l:=[(4,ax J)]) ⟨?_,trivial⟩) (aV (ay rfl rfl)));show si _ [(4,_,3)] (.rs 4 0 (0+((k:Int) - 0).toNat+1+((l.length:Int) - k).toNat))=_;rw[show 0+((k:Int) - 0).toNat+1+((l.length:Int) - k).toNat=J.length by omega];exact j7 (sz:=1) c3 (by rw[List.drop_zero,List.take_of_length_le oS])
  .have tI:decide ((k:Int)<(l.length:Int))=false:=decide_eq_false oG;refine aK ?_;(iterate 6 refine z fun _ _=>?_);refine SS ?_;refine ab (bh rfl (fun h=>oH) fun h=>bS (aj ?_));refine au ?_;refine aH (xQ (es':=A) rfl D3 c3 rfl rfl mF) (by repeat' (first|exact trivial|exact rfl|refine And.intro ?_ ?_)) ⟨Db,by omega,by omega,by omega⟩ ?_;have rT:=LO;refine aK ?_;refine ab (aw ?_);refine au ?_;refine aH (xQ (es':=C) rfl D3 c3 rfl rfl LN) (by repeat' (first|exact trivial|exact rfl|refine And.intro ?_ ?_)) ⟨Db,by omega,by omega,by omega⟩ ?_;have rT:=LP;refine af ?_;refine ab (aO (bw [(4,J.map I,3)] ⟨by rw[<- U];rfl,trivial⟩ (l:=[(4,ax J)]) ⟨?_,trivial⟩) (aV (ay rfl rfl)));show si _ [(4,_,3)] (.rs 4 0 (0+((k:Int) - 0).toNat+1+((l.length:Int) - k).toNat))=_;rw[show 0+((k:Int) - 0).toNat+1+((l.length:Int) - k).toNat=J.length by omega];exact j7 (sz:=1) c3 (by rw[List.drop_zero,List.take_of_length_le oS])
end Go.Proofs.Tryz.K
end
namespace Go.Argus
open Go Go.Abs
open Go.Proofs.Tryz.K (nextR)
theorem xM{α:Type}{l:List α}{k i:Nat}{x d:α}(hk:k<l.length):(l.set k x).getD i d=if i=k then x else l.getD i d:=by
 rw[List.getD_eq_getElem?_getD,List.getElem?_set,List.getD_eq_getElem?_getD];by_cases h:k=i
 .subst h;rw[if_pos rfl,if_pos rfl,if_pos hk];rfl
 .rw[if_neg h,if_neg fun e=>h e.symm]
theorem fj.Wd{n:Nat}{s:CS}(h:fj n s){b:Nat}(hb:b<n):eY (s.ws.getD b []):=by
 have hl:b<s.ws.length:=by rw[h.lw];exact hb
 have hx:s.ws[b]? =some s.ws[b]:=List.getElem?_eq_getElem hl;rw[getD_some hx];have hm:s.ws[b]∈s.ws:=List.getElem_mem _;exact⟨h.jA _ hm,h.rg _ hm⟩
structure Cert where
 any:Bool
 is:List Bool
def fG(R i:Nat):Nat:=if i<R then i else 1200+(i - R)
def bW(R n:Nat)(w:List Int):List Bool:=(List.range n).map fun i=>dP w (fG R i)
def lO(R n:Nat)(w:List Int):Prop:=∀ r,dP w r=true->∃ i,i<n/\r=fG R i
def iP(c:Cert)(r:Int):Cert:=if r= -1 then c else⟨c.any,c.is.set r.toNat true⟩
def vj(R:Nat)(c:Cert)(x:bt):Cert:=if x.op=18 then iP (iP c (cZ x)) ((R:Int)+x.n) else iP c (cZ x)
def eh(R:Nat)(l:List bt)(c:Cert):Cert:=l.foldl (vj R) c
def mz(x:End)(to:Int)(c:Cert):Cert:=if x.to≠to\/(de x).tail.any (·==to)=true\/x.kind=3\/x.kind=4 then c else iP c (dJ x)
def oY(a b:Cert):Cert:=if a.any=true then b else if b.any=true then a else⟨false,List.zipWith (fun x y=>x&&y) a.is b.is⟩
def qP(c:Cert)(rs:List Int):Bool:=rs.all fun r=>c.is.getD r.toNat false
theorem BI(R n:Nat)(w:List Int):(bW R n w).length=n:=by simp[bW]
theorem tg{R n i:Nat}{w:List Int}(h:i<n):(bW R n w)[i]? =some (dP w (fG R i)):=by simp[bW,h]
theorem z3{R n i:Nat}{w:List Int}(h:¬ i<n):(bW R n w)[i]? =none:=by simp[bW];omega
theorem acW{R i j:Nat}(hR:R<=1200)(h:fG R i=fG R j):i=j:=by
 unfold fG at h;split at h<;>split at h<;>omega
theorem acX{w:List Int}(h:w.length=20){r:Nat}(hr:¬ r<1280):dP w r=false:=by
 unfold dP;rw[List.getD_eq_getElem?_getD,List.getElem?_eq_none (by rw[h];omega)];simp
section
variable{R n:Nat}(hR:R<=1200)(hn:n<=R+60)
include hR hn
theorem adX{i:Nat}(h:i<n):fG R i<1280:=by unfold fG;split<;>omega
theorem NL{w:List Int}(C:eY w){i:Nat}(h:i<n)(r:Nat):dP (gu w (fG R i:Nat)) r=(dP w r||decide (r=fG R i)):=by
 have:=adX hR hn h;unfold gu;rw[if_pos oG,Int.toNat_natCast,abS C.all (by rw[C.len];omega)]
theorem EV{w:List Int}(C:eY w){i:Nat}(h:i<n):(bW R n w).set i true=bW R n (gu w (fG R i:Nat)):=by
 apply List.ext_getElem?;intro j;rw[List.getElem?_set];by_cases hj:j<n
 .rw[tg hj,tg hj,NL hR hn C h];by_cases e:i=j
  .subst e;simp[BI,h]
  .rw[if_neg e];have:¬ fG R j=fG R i:=fun h=>e (acW hR h).symm;simp[this]
 .rw[z3 hj,z3 hj];split
  .rw[BI,if_neg oG]
  .rfl
theorem EH{w:List Int}(J:eY w)(C:lO R n w){i:Nat}(h:i<n):lO R n (gu w (fG R i:Nat)):=fun r hr=>by
 rw[NL hR hn J h,Bool.or_eq_true] at hr;rcases hr with hr|hr
 .exact C r hr
 .exact⟨i,h,by simpa using hr⟩
omit hR hn in
theorem abT{w v:List Int}(C:eY w)(hv:eY v):List.zipWith (fun x y=>x&&y) (bW R n w) (bW R n v)=bW R n (gv w v):=by
 apply List.ext_getElem?;intro j;rw[List.getElem?_zipWith];by_cases hj:j<n
 .rw[tg hj,tg hj,tg hj,Il C hv]
 .rw[z3 hj,z3 hj,z3 hj]
omit hR hn in
theorem NM{w v:List Int}(J:eY w)(hv:eY v)(C:lO R n v):lO R n (gv w v):=fun r hr=>by
 rw[Il J hv,Bool.and_eq_true] at hr;exact C r hr.2
omit hR hn in
theorem acY{w v:List Int}(J:eY w)(hv:eY v)(C:lO R n w)(M:lO R n v)(h:bW R n w=bW R n v):w=v:=by
 refine NN J.all hv.all (by rw[J.len,hv.len]) fun r=>?_
 have hb:∀ i,i<n->dP w (fG R i)=dP v (fG R i):=fun i hi=>by
  have:=congrArg (fun l:List Bool=>l[i]?) h;simpa only[tg hi,Option.some.injEq] using this
 cases e1:dP w r with
 |true=>
  obtain⟨i,hi,rfl⟩:=C r e1;rw[<- hb i hi,e1]
 |false=>
  cases e2:dP v r with
  |false=>rfl
  |true=>
   obtain⟨i,hi,rfl⟩:=M r e2;rw[hb i hi,e2] at e1;cases e1
end
def tC:List Int:=List.replicate 20 kf
theorem Im:eY tC:=⟨by simp[tC],fun u C=>by rw[List.eq_of_mem_replicate C];simp[dC,kf]⟩
theorem abU{r:Nat}(h:r<1280):dP tC r=true:=by
 have h1:tC.getD (r / 64) 0=kf:=by
  unfold tC;rw[List.getD_eq_getElem?_getD,List.getElem?_replicate,if_pos oG];rfl
 unfold dP;rw[h1];have h2:r % 64<64:=Nat.mod_lt _ oC;have h3:kf.toNat=2 ^ 64 - 1:=rfl;rw[h3,Nat.testBit_two_pow_sub_one];simpa using h2
theorem aaE{w:List Int}(C:eY w):gv tC w=w:=by
 refine NN (Im.KQ C).all C.all (by rw[(Im.KQ C).len,C.len]) fun r=>?_;rw[Il Im C];by_cases h:r<1280
 .rw[abU h,Bool.true_and]
 .rw[acX C.len h,Bool.and_false]
structure yN(R n:Nat)(x:bt):Prop where
 w:cZ x= -1\/∃ i:Nat,i<R/\cZ x=i
 s:x.op=18->∃ i:Nat,R+i<n/\x.n=i
theorem OJ{R n:Nat}(hR:R<=1200)(hn:n<=R+60)(pU:R<=n){w:List Int}{x:bt}(h:yN R n x)(C:eY w)(M:lO R n w):
 vj R ⟨false,bW R n w⟩ x=⟨false,bW R n (wc w x)⟩/\eY (wc w x)/\lO R n (wc w x):=by
 have X:∀ {v:List Int},gu v (-1)=v:=fun {v}=>by unfold gu;rw[if_neg oG]
 have U:∀ {i:Nat},i<R->((i:Nat):Int)=(fG R i:Nat):=fun {i} hi=>by unfold fG;rw[if_pos hi]
 unfold vj wc;by_cases J:x.op=18
 .obtain⟨i,hi,e⟩:=h.s J;have ue:cZ x= -1:=by simp[cZ,aN,mb,nJ,J]
  have hp:jV x.n=(fG R (R+i):Nat):=by rw[e];unfold jV fG;rw[if_neg oG];omega
  rw[if_pos J,if_pos J,ue,hp];refine⟨?_,C.gu _,EH hR hn C M hi⟩;unfold iP;rw[if_pos rfl,if_neg oG,e, <- EV hR hn C hi];congr 2
 .rw[if_neg J,if_neg J];rcases h.w with e|⟨i,hi,e⟩
  .rw[e,X];exact⟨if_pos rfl,C,M⟩
  .rw[e,U hi];refine⟨?_,C.gu _,EH hR hn C M oG⟩;unfold iP;rw[if_neg oG, <- EV hR hn C oG, <- U hi,Int.toNat_natCast]
theorem BJ{R n:Nat}(hR:R<=1200)(hn:n<=R+60)(C:R<=n):∀ {l:List bt} (_:∀ x∈l,yN R n x) {w:List Int} {ok:Bool} (_:eY w) (_:lO R n w),
 eh R l ⟨false,bW R n w⟩=⟨false,bW R n (l.foldl m8 (w,ok)).1⟩/\eY (l.foldl m8 (w,ok)).1/\lO R n (l.foldl m8 (w,ok)).1
 |[],_,w,ok,hw,ho=>⟨rfl,hw,ho⟩
 |x::l,h,w,ok,hw,ho=>by
  obtain⟨h1,h2,h3⟩:=OJ hR hn C (h x oS) hw ho;unfold eh;rw[List.foldl_cons,List.foldl_cons,h1];exact BJ hR hn C (fun y hy=>h y (by simp[hy])) h2 h3
theorem count_tail{l:List Int}{a b:Int}(h:a=b):((a::l).count b=1)↔l.any (·==b)=false:=by
 subst h;rw[List.count_cons_self,List.any_eq_false];constructor
 .intro h x hx;have h0:l.count a=0:=by omega
  rw[List.count_eq_zero] at h0;intro e;have:x=a:=by simpa using e
  subst this;exact h0 hx
 .intro h;have:l.count a=0:=List.count_eq_zero.2 fun hm=>h a hm oS;omega
theorem OK{R n:Nat}(hR:R<=1200)(hn:n<=R+60)(pU:R<=n){x:End}(he:de x=cM x)(pS:dJ x= -1\/∃ i:Nat,i<R/\dJ x=i){to:Int}{w:List Int}(C:eY w)(M:lO R n w):
 mz x to ⟨false,bW R n w⟩=⟨false,bW R n (fT x to w)⟩/\eY (fT x to w)/\lO R n (fT x to w):=by
 have aB:∀ {v:List Int},gu v (-1)=v:=fun {v}=>by unfold gu;rw[if_neg oG]
 have U:z8 x to=true↔¬ (x.to≠to\/(de x).tail.any (·==to)=true\/x.kind=3\/x.kind=4):=by
  unfold z8;rw[Bool.and_eq_true,mQ,mQ,he];unfold cM;by_cases J:x.kind=3\/x.kind=4
  .rw[if_pos (by simpa[aN] using J)];simp[J]
  .rw[if_neg (by simpa[aN] using J),List.tail_cons];generalize ((if aN [2,8] x.kind=true then [x.fm] else [])++(x.aI.map (·.to)++if gD x=true then [x.cx] else []))=l;constructor
   .rintro⟨h1,h2⟩ h;rcases h with h|h|h|h
    .exact h h1
    .have:=(count_tail (l:=l) h1).1 oG;rw[this] at h;cases h
    .exact J (.inl h)
    .exact J (.inr h)
   .intro h;have h1:x.to=to:=Classical.byContradiction fun e=>h (.inl e);refine⟨h1,?_⟩;have:=(count_tail (l:=l) h1).2 (Bool.eq_false_iff.2 fun e=>h (.inr (.inl e)));omega
 unfold mz fT;by_cases ha:z8 x to=true
 .rw[if_pos ha,if_neg (U.1 ha)];rcases pS with e|⟨i,hi,e⟩
  .rw[e,aB];exact⟨if_pos rfl,C,M⟩
  .have X:((i:Nat):Int)=(fG R i:Nat):=by unfold fG;rw[if_pos hi]
   rw[e,X];refine⟨?_,C.gu _,EH hR hn C M oG⟩;unfold iP;rw[if_neg oG, <- EV hR hn C oG, <- X,Int.toNat_natCast]
 .rw[if_neg ha,if_pos (Classical.byContradiction fun h=>ha (U.2 h))];exact⟨rfl,C,M⟩
structure o4(R n N:Nat)(s:CS):Prop where
 ok:fj N s
 yes:∀ k,k<N->s.re.getD k false=true->lO R n (s.ws.getD k [])
 no:∀ k,k<N->s.re.getD k false=false->s.ws.getD k []=tC
def bY(R n:Nat)(s:CS)(k:Nat):Cert:=if s.re.getD k false=true then⟨false,bW R n (s.ws.getD k [])⟩ else⟨true,List.replicate n false⟩
def AO(x:End)(R n:Nat)(w:List Int)(s:CS)(t:Nat):Cert:=oY (bY R n s t) (mz x t ⟨false,bW R n w⟩)
theorem Pd{R n N:Nat}(hR:R<=1200)(hn:n<=R+60)(pU:R<=n){s:CS}(C:o4 R n N s){x:End}(he:de x=cM x)(pS:dJ x= -1\/∃ i:Nat,i<R/\dJ x=i){t:Nat}(ht:t<N)
 {w:List Int} (hw:eY w) (ho:lO R n w):
 o4 R n N (cw x w s t)/\((AO x R n w s t=bY R n s t/\cw x w s t=s)\/((AO x R n w s t).any≠(bY R n s t).any\/(AO x R n w s t).is≠(bY R n s t).is)/\(cw x w s t).ch=true/\
  ∀ k,bY R n (cw x w s t) k=if k=t then AO x R n w s t else bY R n s k):=by
 obtain⟨o1,J,U⟩:=OK hR hn pU he pS (to:=(t:Int)) hw ho;have hlw:s.ws.length=N:=C.ok.lw;have hlr:s.re.length=N:=C.ok.lr;have lZ:=C.ok.Wd ht;have X0:=(En (x:=x) (w:=w) (t:=(t:Int)) C.ok ⟨by omega,by omega⟩).1;unfold AO;rw[o1];generalize hv:fT x t w=v at J U
 have key:∀ u:List Int,(s.re.getD t false=true->u≠s.ws.getD t [])->gv (s.ws.getD t []) v=u->lO R n u->oY (bY R n s t) ⟨false,bW R n v⟩=⟨false,bW R n u⟩->(⟨false,bW R n u⟩:Cert).any≠(bY R n s t).any\/bW R n u≠(bY R n s t).is->
  o4 R n N (cw x w s t)/\((oY (bY R n s t) ⟨false,bW R n v⟩=bY R n s t/\cw x w s t=s)\/((oY (bY R n s t) ⟨false,bW R n v⟩).any≠(bY R n s t).any\/(oY (bY R n s t) ⟨false,bW R n v⟩).is≠(bY R n s t).is)/\(cw x w s t).ch=true/\
  ∀ k,bY R n (cw x w s t) k=if k=t then oY (bY R n s t) ⟨false,bW R n v⟩ else bY R n s k):=fun u hu hm hou hb aB=>by
  have fO:cw x w s t=⟨s.ws.set t u,s.re.set t true,true⟩:=by
   unfold cw;rw[Int.toNat_natCast,hv,hm,if_pos];cases e:s.re.getD t false with
   |false=>exact .inl rfl
   |true=>exact .inr (hu e)
  rw[fO] at X0 ⊢;have X:∀ k,(s.ws.set t u).getD k []=if k=t then u else s.ws.getD k []:=fun k=>xM oG
  have iV:∀ k,(s.re.set t true).getD k false=if k=t then true else s.re.getD k false:=fun k=>xM oG
  refine⟨⟨X0,fun k hk h=>?_,fun k hk h=>?_⟩,.inr ⟨?_,rfl,fun k=>?_⟩⟩
  .rw[X];rw[iV] at h;by_cases e:k=t
   .rw[if_pos e];exact hou
   .rw[if_neg e] at h ⊢;exact C.yes k hk h
  .rw[X];rw[iV] at h;by_cases e:k=t
   .rw[if_pos e] at h;cases h
   .rw[if_neg e] at h ⊢;exact C.no k hk h
  .rw[hb];exact aB
  .rw[hb];unfold bY;rw[X,iV];by_cases e:k=t
   .rw[if_pos e,if_pos e,if_pos e,if_pos rfl]
   .rw[if_neg e,if_neg e,if_neg e]
 cases M:s.re.getD t false with
 |false=>
  have hc:bY R n s t=⟨true,List.replicate n false⟩:=by unfold bY;rw[M];rfl
  refine key v (fun h=>by rw[M] at h;cases h) (by rw[C.no t ht M,aaE J]) U ?_ (.inl ?_)
  .rw[hc];rfl
  .rw[hc];simp
 |true=>
  have hc:bY R n s t=⟨false,bW R n (s.ws.getD t [])⟩:=by unfold bY;rw[M];rfl
  have hb:oY (bY R n s t) ⟨false,bW R n v⟩=⟨false,bW R n (gv (s.ws.getD t []) v)⟩:=by
   rw[hc];unfold oY;rw[if_neg oS,if_neg oS,abT lZ J]
  by_cases hm:gv (s.ws.getD t []) v=s.ws.getD t []
  .have fO:cw x w s t=s:=by
    unfold cw;rw[Int.toNat_natCast,hv,hm,M,if_neg oS]
   rw[fO,hb,hm,hc];exact⟨C,.inl ⟨rfl,rfl⟩⟩
  .refine key _ (fun _=>hm) rfl (NM lZ J U) hb (.inr fun e=>hm ?_);rw[hc] at e;exact acY (lZ.KQ J) lZ (NM lZ J U) (C.yes t ht M) e
theorem Pc{R n N:Nat}{s:CS}(h:o4 R n N s)(c:Bool):o4 R n N ⟨s.ws,s.re,c⟩:=⟨⟨h.ok.lw,h.ok.lr,h.ok.jA,h.ok.rg⟩,h.yes,h.no⟩
theorem Nz{R n N args:Nat}(hR:R<=1200)(hn:n<=R+60)(pU:R<=n)(U:0<N)(ha:args<=R):o4 R n N (jF N args)/\bY R n (jF N args) 0=⟨false,List.replicate args true++List.replicate (n - args) false⟩/\
 ∀ k,0<k->k<N->bY R n (jF N args) k=⟨true,List.replicate n false⟩:=by
 have hA:∀ k,k<=R->eY (gW k)/\lO R n (gW k)/\bW R n (gW k)=List.replicate k true++List.replicate (n - k) false:=fun k=>by
  induction k with
  |zero=>
   intro _;have X:∀ r,dP (gW 0) r=false:=abV 20;refine⟨⟨by simp,Er 0⟩,(fun r hr=>by rw[X r] at hr;cases hr),?_⟩;apply List.ext_getElem?;intro j;by_cases hj:j<n
   .rw[tg hj,X];simp[hj]
   .rw[z3 hj];simp;omega
  |succ k ih=>
   intro hk;obtain⟨h1,h2,h3⟩:=ih oG;have ki:((k:Nat):Int)=(fG R k:Nat):=by unfold fG;rw[if_pos oG]
   have he:gW (k+1)=gu (gW k) (fG R k:Nat):=by rw[<- ki];rfl
   rw[he];refine⟨h1.gu _,EH hR hn h1 h2 oG,?_⟩;rw[<- EV hR hn h1 oG,h3,E3 oG]
 obtain⟨h1,h2,h3⟩:=hA args ha;have J:∀ k,(jF N args).ws.getD k []=if k=0 then gW args else(List.replicate N tC).getD k []:=fun k=>xM (by simpa using U)
 have C:∀ k,(jF N args).re.getD k false=if k=0 then true else(List.replicate N false).getD k false:=fun k=>xM (by simpa using U)
 have M:∀ k,k<N->(List.replicate N tC).getD k []=tC:=fun k hk=>by rw[List.getD_eq_getElem?_getD,List.getElem?_replicate,if_pos hk];rfl
 have rr:∀ k,(List.replicate N false).getD k false=false:=fun k=>by
  rw[List.getD_eq_getElem?_getD,List.getElem?_replicate];split<;>rfl
 refine⟨⟨Hj (Er args),fun k hk h=>?_,fun k hk h=>?_⟩,?_,fun k h0 hk=>?_⟩
 .rw[C] at h;rw[J];by_cases e:k=0
  .rw[if_pos e];exact h2
  .rw[if_neg e,rr] at h;cases h
 .rw[C] at h;rw[J];by_cases e:k=0
  .rw[if_pos e] at h;cases h
  .rw[if_neg e];exact M k hk
 .unfold bY;rw[C,J,if_pos rfl,if_pos rfl,if_pos rfl,h3]
 .unfold bY;rw[C,if_neg (show ¬ k=0 by omega),rr];rfl
end Go.Argus
section
open Go Go.Abs Go.Proofs Go.Argus
namespace Go.Abs
theorem O9{P:Program}{st:St}{a n:Nat}{ty:TypeId}{cs vs:List D}(ha:st.env a=.pt cs)(hg:aggP P ty=true)(hc:P.cellsOf ty=n)(hv:cs.take n=vs)(ht:tyOk P ty=true)(hl:n<=cs.length):
 ∃ p,resD P st (.cell a ty)=some (p,.agg vs)/\p:=⟨tyOk P ty=true/\n<=cs.length,by simp only[resD,ha,takeV,hg,if_true,hc,hv],ht,hl⟩
end Go.Abs
namespace Go.Argus
def b7(c:Cert):List D:=[B c.any,bq c.is]
@[simp] theorem aqy (c : Cert) : (b7 c).length = 2 := rfl
theorem tq(c:Cert):∀ a∈b7 c,Tr a:=.cons (.s _) (.cons (.sl (.map fun _=>.s _)) .nil)
theorem EF(c:Cert)(r:Int):(iP c r).is.length=c.is.length:=by unfold iP;split<;>simp
theorem abw(R:Nat)(c:Cert)(x:bt):(vj R c x).is.length=c.is.length:=by unfold vj;split<;>simp[EF]
theorem Bz(R:Nat):∀ (l:List bt) (c:Cert),(eh R l c).is.length=c.is.length
 |[],_=>rfl
 |x::l,c=>by
  unfold eh;rw[List.foldl_cons];exact(Bz R l _).trans (abw R c x)
theorem Nw(x:End)(to:Int)(c:Cert):(mz x to c).is.length=c.is.length:=by unfold mz;split<;>simp[EF]
def Dc(n:Nat)(r:Int):Prop:=r= -1\/∃ i:Nat,i<n/\r=i
theorem cG{l:List Int}{n c:Int}(h:(n==c)=true)(hm:c∈l):B (n==c)=B (aN l n):=by
 have:aN l n=true:=List.any_eq_true.2 ⟨c,hm,h⟩;rw[h,this]
end Go.Argus
namespace Go.Proofs.Tryz.K
set_option maxRecDepth 10000
theorem r5{c:Cert}{rs:List Int}(J:∀ r∈rs,∃ i:Nat,i<c.is.length/\r=i):PCall prog 122 [.agg (b7 c),ax rs] (B (qP c rs)):=by
 have C:∀ a∈[D.agg (b7 c),ax rs],Tr a:=.cons (.agg (tq c)) (.cons (cB _) .nil);refine mM JQ.he C fun U=>?_;have hlen:=(U (ax rs) oS).sl.1;unfold maxLen at hlen;refine a9 mixed JQ (by rw[ah4];rfl) C (Tr.s _) ?_;rw[ah5,ah6];refine aw ?_;refine af ?_;refine ab (aO (bw [(0,b7 c,158)] eH (l:=[(1,ax rs),(2,.pt (b7 c))]) eH) (aC (aw ?_)));refine SS ?_
 refine ab (bO (fun s=>Ghost prog s ⟨az [],fun _=>none,1⟩/\∀ (j:Nat) y,rs[j]? =some y->c.is.getD y.toNat false=true) (b8 (α:=Nat) (fun k=>⟨az [(1,ax rs),(2,.pt (b7 c)),(5,I k)],fun _=>none,1⟩)
  (fun k=>k<=rs.length/\∀ j y,j<k->rs[j]? =some y->c.is.getD y.toNat false=true) (fun k=>rs.length - k) 0 (av eH) ⟨by omega,fun j y hj=>by omega⟩ ?_) ?_)
 .rintro k ⟨hk,hinv⟩;refine aP ?_;refine ab ⟨_,rfl,fun h=>?_,fun h=>?_⟩
  .have ao:k<rs.length:=by simpa using h
   have hx:rs[k]? =some rs[k]:=List.getElem?_eq_getElem ao;obtain⟨i,hi,e⟩:=J _ (List.getElem_mem ao);have hy:c.is[i]? =some c.is[i]:=List.getElem?_eq_getElem hi;rw[e] at hx;clear e
   have hg:∀ y,rs[k]? =some y->c.is.getD y.toNat false=c.is[i]:=fun y h=>by
    rw[hx] at h;cases h;rw[Int.toNat_natCast,getD_some hy]
   generalize c.is[i]=b at hy hg;refine dm aac ?_;refine aL ?_;refine bk (by simp[apartT]) (aq rfl (fun hp=>?_) fun hp=>?_)
   .refine ws ?_;refine SS ?_;refine ab (aV (cq (aT (ay (d:=B false) rfl ?_))));have:qP c rs=false:=List.all_eq_false.2 ⟨_,List.mem_of_getElem? hx,by rw[hg _ hx];simpa using hp⟩;rw[this]
   .refine cg ?_;refine au ?_;refine ab (aJ (k+1) (av eH) ⟨by omega,fun j y hj hy=>?_⟩ oG);by_cases e:j=k
    .subst e;rw[hg y hy];simpa using hp
    .exact hinv j y oG hy
  .have X:¬ k<rs.length:=by simpa using h
   exact⟨.forget _ _ _ _ fun _=>.inr rfl,fun j y hy=>hinv j y (by have:=(List.getElem?_eq_some_iff.1 hy).1;omega) hy⟩
 .rintro s ⟨hg,M⟩;refine⟨_,hg,aj ?_⟩;refine SS ?_;refine ab (ay (d:=B true) rfl ?_)
  have:qP c rs=true:=List.all_eq_true.2 fun x hx=>by
   obtain⟨j,hj⟩:=List.getElem?_of_mem hx;exact M j x hj
  rw[this]
theorem jt{c:Cert}{r:Int}(hl:c.is.length<=100000)(hr:Dc c.is.length r):PCall prog 124 [.agg (b7 c),I r] (.agg (b7 (iP c r))):=by
 refine a9 mixed Ul (by rw[ah7];rfl) (.cons (.agg (tq c)) (.cons (.s _) .nil)) (.agg (tq _)) ?_;rw[ah8,ah9];refine ws ?_;refine af ?_;refine ab (aC (aj ?_));rcases hr with rfl|⟨i,hi,rfl⟩
 .refine af ?_;refine ab (bh rfl (fun _=>?_) fun h=>oH);refine aC (aj ?_);refine af ?_;refine ab (cU (mj (mL rfl rfl r6 lT rfl t158 (Nat.le_of_ble_eq_true rfl)) ?_));rfl
 .have fh:((i:Int)== -1)=false:=by simp
  refine af ?_;refine ab (bh rfl (fun h=>oH) fun _=>bS (dm aad ?_));have C:(c.is.map B).length=c.is.length:=by simp
  have rT:(c.is.map B).take (c.is.length*1)=c.is.map B:=List.take_of_length_le oS;refine aK ?_;refine tH (tl rfl rfl rfl V.h V.h (NW rT) rfl) ak ⟨V.h,rfl,(by first|omega|exact Nat.le_of_ble_eq_true rfl|(simp;done)|(simp;omega)),oC,(by first|rfl|(simp;done)|(simp;omega)),(by unfold maxLen;first|omega|(simp;omega)),(by rw[b4];first|omega|(simp;omega)),(by first|(simp;done)|(simp;omega))⟩ ?_;refine au ?_;refine bk (by simp[apartT]) (aj ?_);refine aK ?_;refine ab (aw ?_);refine af ?_
  have e:sub (fz0 3 ((c.is.set i true).map B) (prog.cellsOf 4)) (.rs 3 0 (0+c.is.length))=.sl ((c.is.set i true).map B) c.is.length:=by
   rw[c4,Nat.zero_add,yr,List.drop_zero,List.take_of_length_le oS]
  refine ab (aO (bw [(3,(c.is.set i true).map B,4),(1,[B c.any,.sl ((c.is.set i true).map B) c.is.length],158)] ⟨?_,?_,trivial⟩ (l:=[(4,.pt [B c.any,.sl ((c.is.set i true).map B) c.is.length])]) eH) (aV (mj (O9 rfl r6 lT rfl t158 (Nat.le_refl _)) ?_)))
  .rw[List.map_set];rfl
  .exact congrArg (fun d=>some (Row.cells [B c.any,d] 158)) e
  unfold iP;rw[if_neg oG,Int.toNat_natCast];show _=D.agg [B c.any,.sl _ (c.is.set i true).length];rw[List.length_set];rfl
theorem qB{x:bt}:PCall prog 125 [.agg (bl x)] (I (cZ x)):=by
 refine a9 mixed Um (by rw[ah'];rfl) (.cons (.agg (p8 x)) .nil) (Tr.s _) ?_;rw[aia,aib];refine aw ?_;refine af ?_;refine ab (aO (bw [(0,bl x,66)] eH (l:=[(1,.pt (bl x))]) eH) (aC (aj ?_)));refine af ?_;refine ab (mN ?_)
 have J:cZ x=if aN (mb++nJ) x.op=true then x.to else -1:=by
  unfold cZ;have:aN (mb++nJ) x.op=(aN mb x.op||aN nJ x.op):=List.any_append;rw[this];cases aN mb x.op<;>cases aN nJ x.op<;>rfl
 refine dE (fun s=>Ghost prog s ⟨az [(1,.pt (bl x)),(4,U8 x.op),(5,B (aN (mb++nJ) x.op))],fun _=>none,1⟩) (aj ?_) fun s hg=>⟨_,hg,?_⟩
 .refine af ?_;refine ab (aq rfl (fun h=>aZ (av ⟨rfl,rfl,cG h oC,trivial⟩)) fun e1=>aj ?_);refine af ?_;refine ab (aq rfl (fun h=>aZ (av ⟨rfl,rfl,cG h oC,trivial⟩)) fun e2=>aj ?_);refine af ?_;refine ab (aq rfl (fun h=>aZ (av ⟨rfl,rfl,cG h oC,trivial⟩)) fun e3=>aj ?_);refine af ?_;refine ab (aq rfl (fun h=>aZ (av ⟨rfl,rfl,cG h oC,trivial⟩)) fun e4=>aj ?_);refine af ?_;refine ab (aq rfl (fun h=>aZ (av ⟨rfl,rfl,cG h oC,trivial⟩)) fun e5=>aj ?_);refine af ?_;refine ab (aq rfl (fun h=>aZ (av ⟨rfl,rfl,cG h oC,trivial⟩)) fun e6=>aj ?_);refine af ?_;refine ab (aq rfl (fun h=>aZ (av ⟨rfl,rfl,cG h oC,trivial⟩)) fun e7=>aj ?_);refine af ?_;refine ab (aq rfl (fun h=>aZ (av ⟨rfl,rfl,cG h oC,trivial⟩)) fun e8=>aj ?_);refine af ?_;refine ab (aq rfl (fun h=>aZ (av ⟨rfl,rfl,cG h oC,trivial⟩)) fun e9=>aj ?_);refine af ?_;refine ab (aq rfl (fun h=>aZ (av ⟨rfl,rfl,cG h oC,trivial⟩)) fun M=>aj ?_);refine af ?_;refine ab (aq rfl (fun h=>aZ (av ⟨rfl,rfl,cG h oC,trivial⟩)) fun zn=>aj ?_);refine af ?_;refine ab (aq rfl (fun h=>aZ (av ⟨rfl,rfl,cG h oC,trivial⟩)) fun X=>aj ?_);refine af ?_;refine ab (aq rfl (fun h=>aZ (av ⟨rfl,rfl,cG h oC,trivial⟩)) fun zo=>aj ?_);refine af ?_;refine ab (aq rfl (fun h=>aZ (av ⟨rfl,rfl,cG h oC,trivial⟩)) fun D4=>aj ?_);refine af ?_;refine ab (aq rfl (fun h=>aZ (av ⟨rfl,rfl,cG h oC,trivial⟩)) fun C=>aj ?_);refine af ?_;refine ab (aq rfl (fun h=>aZ (av ⟨rfl,rfl,cG h oC,trivial⟩)) fun vI=>aj ?_);refine af ?_;refine ab (aq rfl (fun h=>aZ (av ⟨rfl,rfl,cG h oC,trivial⟩)) fun vJ=>aj ?_);refine af ?_;refine ab (aq rfl (fun h=>aZ (av ⟨rfl,rfl,cG h oC,trivial⟩)) fun vK=>aj ?_);refine af ?_;refine ab (aq rfl (fun h=>aZ (av ⟨rfl,rfl,cG h oC,trivial⟩)) fun vL=>aj ?_);refine af ?_;refine ab (aq rfl (fun h=>aZ (av ⟨rfl,rfl,cG h oC,trivial⟩)) fun zp=>aj ?_);refine af ?_;refine ab (aq rfl (fun h=>aZ (av ⟨rfl,rfl,cG h oC,trivial⟩)) fun U=>kK ?_);refine af ?_;refine ab (av ⟨rfl,rfl,?_,trivial⟩);show D.s (.bool (x.op==37))=_;simp only[aN,mb,nJ,List.cons_append,List.nil_append,List.any_cons,List.any_nil,e1,e2,e3,e4,e5,e6,e7,e8,e9,M,zn,X,zo,D4,C,vI,vJ,vK,vL,zp,U,Bool.false_or,Bool.or_false]
 refine aq rfl (fun h1=>aj ?_) fun h1=>mn (aj ?_)
 .refine au ?_;refine ab (aV (bx (aT (ay rfl ?_))));rw[J,if_pos h1];rfl
 .refine SS ?_;refine ab (ay rfl ?_);rw[J,if_neg (by simp[h1])];rfl
theorem Gk{x:Argus.End}:PCall prog 146 [.agg (bc x)] (I (dJ x)):=by
 have C:∀ a∈[D.agg (bc x)],Tr a:=.cons (.agg (kH x)) .nil;have qB:=qB (x:=x.ins);refine a9 mixed Un (by rw[aic];rfl) C (Tr.s _) ?_;rw[aid,aie];refine aw ?_;refine af ?_;refine ab (aO (bw [(0,bc x,69)] eH (l:=[(1,.pt (bc x))]) eH) (aC (aj ?_)));refine af ?_;refine ab (mN (aj ?_));refine af ?_;refine ab (aq rfl (fun h1=>?_) fun h1=>?_)
 .have h1:x.kind=5:=by simpa using h1
  refine ws ?_;refine af ?_;refine cl qB ?_;refine SS ?_;refine ab (aV (bx (aT (ay (d:=I (cZ x.ins)) rfl ?_))));simp[dJ,h1]
 have h1:¬ x.kind=5:=by simpa using h1
 refine dE (fun s=>Ghost prog s ⟨az [(1,.pt (bc x)),(4,U8 x.kind),(10,B (aN [6,7] x.kind))],fun _=>none,1⟩) (aj ?_) fun s hg=>⟨_,hg,?_⟩
 .refine af ?_;refine ab (aq rfl (fun h=>aZ (av ⟨rfl,rfl,cG h oC,trivial⟩)) fun e6=>kK ?_);refine af ?_;refine ab ?_;refine av ⟨rfl,rfl,?_,trivial⟩;show D.s (.bool (x.kind==7))=_;simp[aN,e6]
 refine aq rfl (fun h2=>?_) fun h2=>?_
 .refine ws ?_;refine au ?_;refine ab (aV (bx (aT (ay (d:=I x.a) rfl ?_))));simp[dJ,h1,h2]
 refine ws ?_;refine af ?_;refine ab (aq rfl (fun h3=>?_) fun h3=>?_)
 .have h3:x.kind=8:=by simpa using h3
  refine ws ?_;refine au ?_;refine ab (aV (bx (aT (ay (d:=I x.b) rfl ?_))));simp[dJ,h2,h3];simp[aN]
 have h3:¬ x.kind=8:=by simpa using h3
 refine mn (aj ?_);refine SS ?_;refine ab (ay (d:=I (-1)) rfl ?_);simp[dJ,h1,h2,h3]
theorem wP{x:bt}(hx:x.op=10\/x.op=38->x.args.length<=1000):PCall prog 123 [.agg (bl x)] (ax (cr x)):=by
 have U:∀ a∈[D.agg (bl x)],Tr a:=.cons (.agg (p8 x)) .nil;refine a9 mixed Uo (by rw[aif];rfl) U (cB _) ?_;rw[aih,aii];refine aw ?_;refine af ?_;refine ab (aO (bw [(0,bl x,66)] eH (l:=[(1,.pt (bl x))]) eH) (aC (aj ?_)));refine af ?_;refine ab (mN ?_);refine dE (fun s=>Ghost prog s ⟨az [(1,.pt (bl x)),(4,U8 x.op),(5,B (aN nN x.op))],fun _=>none,1⟩) (aj ?_) fun s hg=>⟨_,hg,?_⟩
 .refine af ?_;refine ab (aq rfl (fun h=>aZ (av ⟨rfl,rfl,cG h oC,trivial⟩)) fun e2=>aj ?_);refine af ?_;refine ab (aq rfl (fun h=>aZ (av ⟨rfl,rfl,cG h oC,trivial⟩)) fun e8=>aj ?_);refine af ?_;refine ab (aq rfl (fun h=>aZ (av ⟨rfl,rfl,cG h oC,trivial⟩)) fun zn=>aj ?_);refine af ?_;refine ab (aq rfl (fun h=>aZ (av ⟨rfl,rfl,cG h oC,trivial⟩)) fun X=>aj ?_);refine af ?_;refine ab (aq rfl (fun h=>aZ (av ⟨rfl,rfl,cG h oC,trivial⟩)) fun zo=>aj ?_);refine af ?_;refine ab (aq rfl (fun h=>aZ (av ⟨rfl,rfl,cG h oC,trivial⟩)) fun D5=>aj ?_);refine af ?_;refine ab (aq rfl (fun h=>aZ (av ⟨rfl,rfl,cG h oC,trivial⟩)) fun D6=>aj ?_);refine af ?_;refine ab (aq rfl (fun h=>aZ (av ⟨rfl,rfl,cG h oC,trivial⟩)) fun C=>kK ?_);refine af ?_;refine ab ?_;refine av ⟨rfl,rfl,?_,trivial⟩;show D.s (.bool (x.op==36))=_;simp[aN,nN,e2,e8,zn,X,zo,D5,D6,C]
 refine aq rfl (fun h1=>?_) fun h1=>?_
 .refine aw ?_;refine aP ?_;refine ab (aO (bw [(1,([x.a]).map I,3)] eH (l:=[(2,ax ([x.a]))]) ⟨j7 c3 rfl,trivial⟩) (aV (bx (aT (ay (d:=ax ([x.a])) rfl ?_)))));exact congrArg ax (by unfold cr;rw[if_pos h1])
 refine dE (fun s=>Ghost prog s ⟨az [(1,.pt (bl x)),(4,U8 x.op),(18,B (aN qX x.op))],fun _=>none,1⟩) (aj ?_) fun s hg=>⟨_,hg,?_⟩
 .refine af ?_;refine ab (aq rfl (fun h=>aZ (av ⟨rfl,rfl,cG h oC,trivial⟩)) fun e3=>aj ?_);refine af ?_;refine ab (aq rfl (fun h=>aZ (av ⟨rfl,rfl,cG h oC,trivial⟩)) fun e4=>aj ?_);refine af ?_;refine ab (aq rfl (fun h=>aZ (av ⟨rfl,rfl,cG h oC,trivial⟩)) fun e5=>aj ?_);refine af ?_;refine ab (aq rfl (fun h=>aZ (av ⟨rfl,rfl,cG h oC,trivial⟩)) fun e6=>aj ?_);refine af ?_;refine ab (aq rfl (fun h=>aZ (av ⟨rfl,rfl,cG h oC,trivial⟩)) fun e7=>aj ?_);refine af ?_;refine ab (aq rfl (fun h=>aZ (av ⟨rfl,rfl,cG h oC,trivial⟩)) fun J=>aj ?_);refine af ?_;refine ab (aq rfl (fun h=>aZ (av ⟨rfl,rfl,cG h oC,trivial⟩)) fun vI=>aj ?_);refine af ?_;refine ab (aq rfl (fun h=>aZ (av ⟨rfl,rfl,cG h oC,trivial⟩)) fun vJ=>aj ?_);refine af ?_;refine ab (aq rfl (fun h=>aZ (av ⟨rfl,rfl,cG h oC,trivial⟩)) fun vK=>aj ?_);refine af ?_;refine ab (aq rfl (fun h=>aZ (av ⟨rfl,rfl,cG h oC,trivial⟩)) fun vL=>aj ?_);refine af ?_;refine ab (aq rfl (fun h=>aZ (av ⟨rfl,rfl,cG h oC,trivial⟩)) fun zp=>aj ?_);refine af ?_;refine ab (aq rfl (fun h=>aZ (av ⟨rfl,rfl,cG h oC,trivial⟩)) fun M=>kK ?_);refine af ?_;refine ab ?_;refine av ⟨rfl,rfl,?_,trivial⟩;show D.s (.bool (x.op==37))=_;simp[aN,qX,e3,e4,e5,e6,e7,J,vI,vJ,vK,vL,zp,M]
 refine aq rfl (fun h2=>?_) fun h2=>?_
 .refine aw ?_;refine bD ?_;refine ab (aO (bw [(1,([x.a,x.b]).map I,3)] eH (l:=[(2,ax ([x.a,x.b]))]) ⟨j7 c3 rfl,trivial⟩) (aV (bx (aT (ay (d:=ax ([x.a,x.b])) rfl ?_)))));exact congrArg ax (by unfold cr;rw[if_neg (by simp[h1]),if_pos h2])
 refine ws ?_;refine af ?_;refine ab (aq rfl (fun h3=>?_) fun h3=>?_)
 .have h3:x.op=10:=by simpa using h3
  have hl:=hx (.inl h3);have rT:(x.args.map I).take (x.args.length*1)=x.args.map I:=List.take_of_length_le oS;refine aw ?_;refine aK ?_;refine ab (aO (bw [(2,x.args.map I,3)] eH (l:=[(2,ax x.args)]) ⟨?_,trivial⟩) (aV (bx (aT (ay (d:=ax x.args) rfl ?_)))))
  .show si _ [(2,_,3)] (.rs 2 0 (0+x.args.length))=_;refine(j7 c3 (es:=x.args.map I) (List.take_of_length_le oS)).trans ?_;rw[Nat.zero_add]
  exact congrArg ax (by unfold cr;rw[if_neg (by simp[h1]),if_neg (by simp[h2]),if_pos h3])
 have h3:¬ x.op=10:=by simpa using h3
 refine ws ?_;refine af ?_;refine ab (aq rfl (fun h4=>?_) fun h4=>?_)
 .have h4:x.op=38:=by simpa using h4
  have hl:=hx (.inr h4);have rT:(x.args.map I).take (x.args.length*1)=x.args.map I:=List.take_of_length_le oS;refine aw ?_;refine aL ?_;refine ab (aO (bw [(2,(x.a::x.b::x.args).map I,3)] eH (l:=[(2,ax (x.a::x.b::x.args))]) ⟨?_,trivial⟩) (aV (bx (aT (ay (d:=ax (x.a::x.b::x.args)) rfl ?_)))))
  .show si _ [(2,_,3)] (.rs 2 0 (2+x.args.length))=_;refine(j7 c3 (es:=(x.a::x.b::x.args).map I) (List.take_of_length_le oP)).trans ?_;rw[Nat.add_comm];rfl
  .exact congrArg ax (by unfold cr;rw[if_neg (by simp[h1]),if_neg (by simp[h2]),if_neg h3,if_pos h4])
 have h4:¬ x.op=38:=by simpa using h4
 refine mn (aw ?_);refine SS ?_;refine ab (aO (xL (n0:=2) rfl) (ay (d:=ax []) rfl ?_));exact congrArg ax (by unfold cr;rw[if_neg (by simp[h1]),if_neg (by simp[h2]),if_neg h3,if_neg h4])
theorem Gl{x:Argus.End}(hx:x.kind=5->x.ins.op=10\/x.ins.op=38->x.ins.args.length<=1000)(hy:x.kind=6\/x.kind=7->x.args.length<=1000):PCall prog 128 [.agg (bc x)] (ax (cn x)):=by
 have C:∀ a∈[D.agg (bc x)],Tr a:=.cons (.agg (kH x)) .nil;refine a9 mixed Up (by rw[aij];rfl) C (cB _) ?_;rw[aik,ail];refine aw ?_;refine af ?_;refine ab (aO (bw [(0,bc x,69)] eH (l:=[(1,.pt (bc x))]) eH) (aC (aj ?_)));refine af ?_;refine ab (mN ?_);refine dE (fun s=>Ghost prog s ⟨az [(1,.pt (bc x)),(4,U8 x.kind),(5,B (aN [2,8,9] x.kind))],fun _=>none,1⟩) (aj ?_) fun s hg=>⟨_,hg,?_⟩
 .refine af ?_;refine ab (aq rfl (fun h=>aZ (av ⟨rfl,rfl,cG h oC,trivial⟩)) fun e2=>aj ?_);refine af ?_;refine ab (aq rfl (fun h=>aZ (av ⟨rfl,rfl,cG h oC,trivial⟩)) fun e8=>kK ?_);refine af ?_;refine ab ?_;refine av ⟨rfl,rfl,?_,trivial⟩;show D.s (.bool (x.kind==9))=_;simp[aN,e2,e8]
 refine aq rfl (fun h1=>?_) fun h1=>?_
 .refine aw ?_;refine aP ?_;refine ab (aO (bw [(1,([x.a]).map I,3)] eH (l:=[(2,ax ([x.a]))]) ⟨j7 c3 rfl,trivial⟩) (aV (bx (aT (ay (d:=ax ([x.a])) rfl ?_)))));exact congrArg ax (by unfold cn;rw[if_pos h1])
 refine ws ?_;refine af ?_;refine ab (aq rfl (fun h2=>?_) fun h2=>?_)
 .have h2:x.kind=3:=by simpa using h2
  refine aC (aj ?_);refine au ?_;refine ab (bh rfl (fun h3=>?_) fun h3=>bS (aw ?_))
  .have h3:x.a= -1:=by simpa using h3
   refine aC (aw ?_);refine SS ?_;refine ab (aO (xL (n0:=2) rfl) (cU (bx (aT (ay (d:=ax []) rfl ?_)))));exact congrArg ax (by unfold cn;rw[if_neg (by simp[h1]),if_pos h2,if_neg (by simp[h3])])
  .have h3:¬ x.a= -1:=by simpa using h3
   refine aP ?_;refine ab (aO (bw [(1,([x.a]).map I,3)] eH (l:=[(2,ax ([x.a]))]) ⟨j7 c3 rfl,trivial⟩) (aV (bx (aT (ay (d:=ax ([x.a])) rfl ?_)))));exact congrArg ax (by unfold cn;rw[if_neg (by simp[h1]),if_pos h2,if_pos h3])
 have h2:¬ x.kind=3:=by simpa using h2
 refine ws ?_;refine af ?_;refine ab (aq rfl (fun h3=>?_) fun h3=>?_)
 .have h3:x.kind=5:=by simpa using h3
  have wP:=wP (x:=x.ins) (hx h3);refine ws ?_;refine af ?_;refine cl wP ?_;refine SS ?_;refine ab (aV (bx (aT (ay (d:=ax (cr x.ins)) rfl ?_))));exact congrArg ax (by unfold cn;rw[if_neg (by simp[h1]),if_neg h2,if_pos h3])
 have h3:¬ x.kind=5:=by simpa using h3
 refine dE (fun s=>Ghost prog s ⟨az [(1,.pt (bc x)),(4,U8 x.kind),(25,B (aN [6,7] x.kind))],fun _=>none,1⟩) (aj ?_) fun s hg=>⟨_,hg,?_⟩
 .refine af ?_;refine ab (aq rfl (fun h=>aZ (av ⟨rfl,rfl,cG h oC,trivial⟩)) fun e6=>kK ?_);refine af ?_;refine ab ?_;refine av ⟨rfl,rfl,?_,trivial⟩;show D.s (.bool (x.kind==7))=_;simp[aN,e6]
 refine aq rfl (fun h4=>?_) fun h4=>?_
 .have h5:x.kind=6\/x.kind=7:=by simpa[aN] using h4
  have hl:=hy h5;have rT:(x.args.map I).take (x.args.length*1)=x.args.map I:=List.take_of_length_le oS;refine aw ?_;refine aK ?_;refine ab (aO (bw [(2,x.args.map I,3)] eH (l:=[(2,ax x.args)]) ⟨?_,trivial⟩) (aV (bx (aT (ay (d:=ax x.args) rfl ?_)))))
  .show si _ [(2,_,3)] (.rs 2 0 (0+x.args.length))=_;refine(j7 c3 (es:=x.args.map I) (List.take_of_length_le oS)).trans ?_;rw[Nat.zero_add]
  exact congrArg ax (by unfold cn;rw[if_neg (by simp[h1]),if_neg h2,if_neg h3,if_pos h4])
 refine mn (aw ?_);refine SS ?_;refine ab (aO (xL (n0:=2) rfl) (ay (d:=ax []) rfl ?_));exact congrArg ax (by unfold cn;rw[if_neg (by simp[h1]),if_neg h2,if_neg h3,if_neg (by simp[h4])])
end Go.Proofs.Tryz.K
end
namespace Go.Argus
open Go Go.Abs
open Go.Proofs.Tryz.K (nextR)
structure Gp(R n:Nat)(x:bt):Prop where
 r:∀ r∈cr x,∃ i:Nat,i<R/\r=i
 s:x.op=17->∃ i:Nat,R+i<n/\x.n=i
 p:x.op=19->∀ r∈x.args,∃ i:Nat,i<R/\r=i
theorem kG{l:List Int}{r:Int}(h:iy l r):∃ i:Nat,i<l.length/\r=i:=⟨r.toNat,by unfold iy at h;omega,by unfold iy at h;omega⟩
theorem QE{f:aF}{b ah:Int}{x:bt}(hs:∀ k∈f.aR,k≠0)(h:dv f b ah x=true):yN f.ag.length (f.ag.length+f.aR.length) x/\Gp f.ag.length (f.ag.length+f.aR.length) x/\(x.op=19->(x.args.length:Int)=ah):=by
 have k1:∀ {r:Int},bf f r 119=true->∃ i:Nat,i<f.ag.length/\r=i:=fun {r} h=>kG (jZ fun e=>by rw[tB,e] at h;simp[aQ] at h);have M:∀ {r:Int},bf f r 114=true->∃ i:Nat,i<f.ag.length/\r=i:=fun {r} h=>kG (jZ fun e=>by rw[yw,e] at h;simp[aQ] at h);have k3:∀ {r:Int},bf f r 105=true->∃ i:Nat,i<f.ag.length/\r=i:=fun {r} h=>kG (jZ fun e=>by rw[CI,e] at h;simp[aQ] at h);have k4:∀ {r:Int},bf f r 118=true->∃ i:Nat,i<f.ag.length/\r=i:=fun {r} h=>kG (nI h)
 have U:∀ {a b:Int},jI f a b=true->(∃ i:Nat,i<f.ag.length/\a=i)/\∃ i:Nat,i<f.ag.length/\b=i:=fun {a b} h=>by
  simp only[jI,Bool.and_eq_true] at h;exact⟨kG (nI h.1),kG (nI h.2.1)⟩
 have k6:∀ {l:List Int},fQ f.ag l=true->∀ r∈l,∃ i:Nat,i<f.ag.length/\r=i:=fun {l} h r hr=>kG (xK h r hr)
 have X:∀ {r n:Int},lK f.ag f.aR r n=true->(∃ i:Nat,i<f.ag.length/\r=i)/\∃ i:Nat,f.ag.length+i<f.ag.length+f.aR.length/\n=i:=fun {r n} h=>by
  obtain⟨h1,h2,h3⟩:=IG hs h;exact⟨kG h1,n.toNat,by omega,by omega⟩
 obtain⟨op,to,a,C,n,args⟩:=x;unfold dv at h;dsimp only at h
 have fin:∀ {W:Prop} {Rs:List Int},(cZ ⟨op,to,a,C,n,args⟩= -1\/∃ i:Nat,i<f.ag.length/\cZ ⟨op,to,a,C,n,args⟩=i)->cr ⟨op,to,a,C,n,args⟩=Rs->(∀ r∈Rs,∃ i:Nat,i<f.ag.length/\r=i)->
  op≠17->op≠18->op≠19->yN f.ag.length (f.ag.length+f.aR.length) ⟨op,to,a,C,n,args⟩/\Gp f.ag.length (f.ag.length+f.aR.length) ⟨op,to,a,C,n,args⟩/\(op=19->(args.length:Int)=ah):=fun {W Rs} h1 h2 h3 e1 e2 e3=>
  ⟨⟨h1,fun e=>absurd e e2⟩,⟨by rw[h2];exact h3,fun e=>absurd e e1,fun e=>absurd e e3⟩,fun e=>absurd e e3⟩
 by_cases h1:op=1
 .subst h1;simp[Bool.and_eq_true] at h;exact fin (W:=True) (Rs:=[]) (.inr (k1 h.2.1)) rfl oS oC oC oC
 by_cases h2:op=2
 .subst h2;simp[Bool.and_eq_true] at h;exact fin (W:=True) (Rs:=[a]) (.inr (U h.2).1) rfl (by simpa using(U h.2).2) oC oC oC
 by_cases h3:op=3\/op=4\/op=6\/op=7
 .have J:bf f to 119=true/\bf f a 119=true/\bf f C 119=true:=by
   rcases h3 with rfl|rfl|rfl|rfl<;>(simp[aN,Bool.and_eq_true] at h;exact h.2)
  have hr:∀ r∈[a,C],∃ i:Nat,i<f.ag.length/\r=i:=by
   intro r hr;simp at hr;rcases hr with rfl|rfl
   .exact k1 J.2.1
   .exact k1 J.2.2
  rcases h3 with rfl|rfl|rfl|rfl<;>exact fin (W:=True) (Rs:=[a,C]) (.inr (k1 J.1)) rfl hr oC oC oC
 by_cases h5:op=5
 .subst h5;simp[aN,Bool.and_eq_true] at h;refine fin (W:=True) (Rs:=[a,C]) (.inr (k1 h.2.1)) rfl ?_ oC oC oC;intro r hr;simp at hr;rcases hr with rfl|rfl
  .exact(U h.2.2).1
  .exact(U h.2.2).2
 by_cases h8:op=8
 .subst h8;simp[aN,Bool.and_eq_true] at h;exact fin (W:=True) (Rs:=[a]) (.inr (k1 h.2.1)) rfl (by simpa using k1 h.2.2) oC oC oC
 by_cases h9:op=9
 .subst h9;simp[aN,Bool.and_eq_true] at h;exact fin (W:=True) (Rs:=[]) (.inr (M h.2.1)) rfl oS oC oC oC
 by_cases mI:op=10
 .subst mI;simp[aN,Bool.and_eq_true] at h;exact fin (W:=True) (Rs:=args) (.inr (M h.2.1)) rfl (k6 h.2.2.2.2) oC oC oC
 by_cases ou:op=11
 .subst ou;simp[aN,Bool.and_eq_true] at h;exact fin (W:=True) (Rs:=[a]) (.inr (k4 h.2.1)) rfl (by simpa using M h.2.2.1) oC oC oC
 by_cases pQ:op=12
 .subst pQ;simp[aN,Bool.and_eq_true] at h;refine fin (W:=True) (Rs:=[a,C]) (.inl rfl) rfl ?_ oC oC oC;intro r hr;simp at hr;rcases hr with rfl|rfl
  .exact M h.2.1
  .exact k4 h.2.2.1
 by_cases vM:op=13\/op=14
 .have J:bf f to 119=true/\bf f a 114=true:=by
   rcases vM with rfl|rfl<;>(simp[aN,Bool.and_eq_true] at h;exact h.2)
  rcases vM with rfl|rfl<;>exact fin (W:=True) (Rs:=[a]) (.inr (k1 J.1)) rfl (by simpa using M J.2) oC oC oC
 by_cases X2:op=15
 .subst X2;simp[aN,Bool.and_eq_true] at h;exact fin (W:=True) (Rs:=[a]) (.inl rfl) rfl (by simpa using k1 h.2) oC oC oC
 by_cases pM:op=16
 .subst pM;simp[aN,Bool.and_eq_true] at h;exact fin (W:=True) (Rs:=[a]) (.inl rfl) rfl (by simpa using k3 h.2) oC oC oC
 by_cases gE:op=17
 .subst gE;simp[aN,Bool.and_eq_true] at h;exact⟨⟨.inr (X h.2).1,fun e=>by simp at e⟩,⟨by simp[cr,aN,nN,qX],fun _=>(X h.2).2,fun e=>by simp at e⟩,fun e=>by simp at e⟩
 by_cases dI:op=18
 .subst dI;simp[aN,Bool.and_eq_true] at h;exact⟨⟨.inl rfl,fun _=>(X h.2).2⟩,⟨by simpa[cr,aN,nN] using(X h.2).1,fun e=>by simp at e,fun e=>by simp at e⟩,fun e=>by simp at e⟩
 by_cases eB:op=19
 .subst eB;simp[aN,Bool.and_eq_true] at h;refine⟨⟨.inr (k4 h.2.2.1),fun e=>by simp at e⟩,⟨by simp[cr,aN,nN,qX],fun e=>by simp at e,fun _ r hr=>(U (h.2.2.2.2 r hr)).2⟩,fun _=>?_⟩;simpa[aQ] using h.2.2.2.1
 .rw[if_neg h1,if_neg h2,if_neg (by simp[aN];omega),if_neg h5,if_neg h8,if_neg h9,if_neg mI,if_neg ou,if_neg pQ,if_neg (by simp[aN];omega),if_neg X2,if_neg pM,if_neg gE,if_neg dI,if_neg eB] at h;cases h
theorem QF{f:aF}{x:bt}(h:ko f x=true):(cZ x= -1\/∃ i:Nat,i<f.ag.length/\cZ x=i)/\∀ r∈cr x,∃ i:Nat,i<f.ag.length/\r=i:=by
 have k1:∀ {r:Int},bf f r 119=true->∃ i:Nat,i<f.ag.length/\r=i:=fun {r} h=>kG (jZ fun e=>by rw[tB,e] at h;simp[aQ] at h);have J:∀ {r:Int},bf f r 114=true->∃ i:Nat,i<f.ag.length/\r=i:=fun {r} h=>kG (jZ fun e=>by rw[yw,e] at h;simp[aQ] at h);have U:∀ {r:Int},bf f r 118=true->∃ i:Nat,i<f.ag.length/\r=i:=fun {r} h=>kG (nI h);have k6:∀ {l:List Int},fQ f.ag l=true->∀ r∈l,∃ i:Nat,i<f.ag.length/\r=i:=fun {l} h r hr=>kG (xK h r hr);obtain⟨op,to,a,C,n,args⟩:=x;unfold ko at h;dsimp only at h;by_cases h0:op=30\/op=31\/op=32\/op=33\/op=34
 .have M:bf f to 119=true/\bf f a 119=true/\bf f C 119=true:=by
   rcases h0 with rfl|rfl|rfl|rfl|rfl<;>(simp[aN,Bool.and_eq_true] at h;exact h.2)
  have hr:∀ r∈[a,C],∃ i:Nat,i<f.ag.length/\r=i:=by
   intro r hr;simp at hr;rcases hr with rfl|rfl
   .exact k1 M.2.1
   .exact k1 M.2.2
  rcases h0 with rfl|rfl|rfl|rfl|rfl<;>exact⟨.inr (k1 M.1),hr⟩
 by_cases h5:op=35
 .subst h5;simp[aN,Bool.and_eq_true] at h;refine⟨.inl rfl,?_⟩;show ∀ r∈[a,C],_;intro r hr;simp at hr;rcases hr with rfl|rfl
  .exact J h.2.1
  .exact U h.2.2
 by_cases X:op=36
 .subst X;simp[aN,Bool.and_eq_true] at h;refine⟨.inr (U h.2.1),?_⟩;show ∀ r∈[a],_;simpa using J h.2.2
 by_cases h7:op=37
 .subst h7;simp[aN,Bool.and_eq_true] at h;refine⟨.inr (U h.2.1),?_⟩;show ∀ r∈[a,C],_;intro r hr;simp at hr;rcases hr with rfl|rfl
  .exact J h.2.2.1
  .exact k1 h.2.2.2
 by_cases h8:op=38
 .subst h8;simp[aN,Bool.and_eq_true] at h;refine⟨.inl rfl,?_⟩;show ∀ r∈a::C::args,_;intro r hr;rcases List.mem_cons.1 hr with rfl|hr
  .exact J h.2.1
  .rcases List.mem_cons.1 hr with rfl|hr
   .exact k1 h.2.2.1
   .exact k6 h.2.2.2.2 r hr
 .exfalso;simp[aN,h5,X,h7,h8] at h;omega
theorem IN{f:aF}{x:End}(h:gf f x=true):(dJ x= -1\/∃ i:Nat,i<f.ag.length/\dJ x=i)/\(∀ r∈cn x,∃ i:Nat,i<f.ag.length/\r=i)/\(x.kind=7->∃ i:Nat,i<f.ag.length/\x.a=i):=by
 have k1:∀ {r:Int},bf f r 119=true->∃ i:Nat,i<f.ag.length/\r=i:=fun {r} h=>kG (jZ fun e=>by rw[tB,e] at h;simp[aQ] at h);have k3:∀ {r:Int},bf f r 105=true->∃ i:Nat,i<f.ag.length/\r=i:=fun {r} h=>kG (jZ fun e=>by rw[CI,e] at h;simp[aQ] at h);have C:∀ {r:Int},bf f r 118=true->∃ i:Nat,i<f.ag.length/\r=i:=fun {r} h=>kG (nI h);have k6:∀ {l:List Int},fQ f.ag l=true->∀ r∈l,∃ i:Nat,i<f.ag.length/\r=i:=fun {l} h r hr=>kG (xK h r hr);obtain⟨kind,a,b,to,fm,name,ins,args,aI,cx⟩:=x;unfold gf at h;dsimp only at h;by_cases h1:kind=1
 .subst h1;exact⟨.inl rfl,by simp[cn,aN],fun e=>by simp at e⟩
 by_cases h2:kind=2
 .subst h2;simp[Bool.and_eq_true] at h;refine⟨.inl rfl,?_,fun e=>by simp at e⟩;show ∀ r∈[a],_;simpa using k1 h.2.1
 by_cases h3:kind=3
 .subst h3;rw[if_neg oC,if_neg oC,if_pos rfl] at h;refine⟨.inl rfl,?_,fun e=>by simp at e⟩;intro r hr;simp[cn,aN] at hr;obtain⟨e,rfl⟩:=hr;by_cases hc:f.iter=true\/f.result=0
  .rw[if_pos hc,Bool.and_eq_true,mQ] at h;exact absurd h.2 e
  .rw[if_neg hc,Bool.and_eq_true,Bool.and_eq_true] at h;exact C h.2.1
 by_cases h4:kind=4
 .subst h4;exact⟨.inl rfl,by simp[cn,aN],fun e=>by simp at e⟩
 by_cases h5:kind=5
 .subst h5;simp[Bool.and_eq_true] at h;exact⟨(QF h.2.1).1,(QF h.2.1).2,fun e=>by simp at e⟩
 by_cases J:kind=6
 .subst J;simp[Bool.and_eq_true] at h;refine⟨?_,k6 h.2.2.2.1,fun e=>by simp at e⟩;show a= -1\/∃ i:Nat,_/\a=_;rcases h.2.2.2.2.1 with e|e
  .exact .inl (by simpa[aQ] using e)
  .exact .inr (C e)
 by_cases M:kind=7
 .subst M;simp[Bool.and_eq_true] at h;exact⟨.inr (k3 h.2.2.2.2.1),k6 h.2.2.2.1,fun _=>k3 h.2.2.2.2.1⟩
 by_cases U:kind=8
 .subst U;simp[Bool.and_eq_true] at h;refine⟨.inr (C h.2.2.1),?_,fun e=>by simp at e⟩;show ∀ r∈[a],_;simpa using k3 h.2.1
 by_cases X:kind=9
 .subst X;simp[Bool.and_eq_true] at h;refine⟨.inl rfl,?_,fun e=>by simp at e⟩;show ∀ r∈[a],_;simpa using C h.2.2.1
 .simp[h1,h2,h3,h4,h5,J,M,U,X] at h
end Go.Argus
section
open Go Go.Abs Go.Proofs Go.Argus
namespace Go.Argus
open Go.Proofs.Tryz.K (nextR)
theorem OL{f:aF}{x:End}(h:jg f x=true):oX x=nextR x:=by
 refine Fh (BA .nil).1 (NI x) fun t=>?_;rw[Nx,EE h,nextR,El]
theorem HL{f:aF}{bs:List bP}(h:∀ b∈bs,jg f b.fin=true)(k:Nat):kM bs k=bA bs k:=by
 induction k with
 |zero=>rfl
 |succ k ih=>
  unfold kM bA at ih ⊢;rw[List.range_succ,List.foldl_append,List.foldl_append,ih];show BT bs _ k=oJ bs _ k;unfold BT oJ;cases hx:bs[k]? with
  |none=>rfl
  |some x=>dsimp only;rw[OL (h x (List.mem_of_getElem? hx))]
end Go.Argus
end
namespace Go.Argus
open Go Go.Abs
open Go.Proofs.Tryz.K (nextR)
def qq(f:aF):Bool:=mR f&&(p9 f&&mS f)
def Fb(f:aF):Bool:=f.blocks.all fun x=>(de x.fin).all (bU f)
def uR(f:aF)(b:Nat)(l:List bt)(j:Nat):Bool:=dv f b (kM f.blocks f.blocks.length b).length (l.getD j dt)&& !(bT (l.getD j dt)&&(decide (0<j)&& !bT (l.getD (j - 1) dt)))
def qC(f:aF)(b:Nat):Bool:=
 let x:=f.blocks.getD b jn
 !decide ((200:Int)<x.ins.length)&&((List.range x.ins.length).all (uR f b x.ins)&&(gf f x.fin&& !(x.fin.kind==7&&(kI f.blocks b).any (·==x.fin.a))))
def uC(f:aF):Bool:=qq f&&(Fb f&&(List.range f.blocks.length).all (qC f))
theorem Et(f:aF)(b:Int)(x:bt)(p:Bool)(C:Int):iM f b x p C=(iM f b x true C&&(!bT x||p)):=by
 unfold iM bT;by_cases X:x.op=16
 .simp[X]
 .by_cases U:x.op=17
  .simp[U]
  .by_cases J:x.op=18
   .simp[J]
   .by_cases M:x.op=19
    .simp[M,Bool.and_comm]
    .simp[X,U,J,M]
theorem abW(l:List bt):(∀ j,j<l.length->bT (l.getD j dt)=true->0<j->bT (l.getD (j - 1) dt)=true)↔∀ j,j<l.length->bT (l.getD j dt)=true->(l.take (j+1)).all bT=true:=by
 have hg:∀ {j},j<l.length->∀ y,l[j]? =some y->l.getD j dt=y:=fun _ y hy=>getD_some hy;constructor
 .intro h j
  induction j with
  |zero=>
   intro hj hp;have hx:l[0]? =some l[0]:=List.getElem?_eq_getElem hj;rw[getD_some hx] at hp;rw[List.take_add_one,hx];simpa using hp
  |succ j ih=>
   intro hj hp;have hx:l[j+1]? =some l[j+1]:=List.getElem?_eq_getElem hj;have h1:=h (j+1) hj hp oG;have h2:=ih oG (by simpa using h1);rw[List.take_add_one,List.all_append,h2,hx];rw[getD_some hx] at hp;simpa using hp
 .intro h j hj hp h0;have h1:=h j hj hp;have hx:l[j - 1]? =some l[j - 1]:=List.getElem?_eq_getElem oG;rw[getD_some hx];refine List.all_eq_true.1 h1 _ ?_;refine List.mem_of_getElem? (i:=j - 1) ?_;rw[List.getElem?_take,if_pos oG,hx]
theorem acZ{n:Nat}{p q:Nat->Bool}:(List.range n).all (fun j=>p j&&q j)=((List.range n).all p&&(List.range n).all q):=by
 rw[Bool.eq_iff_iff];simp only[List.all_eq_true,Bool.and_eq_true,List.mem_range];exact⟨fun h=>⟨fun j hj=>(h j hj).1,fun j hj=>(h j hj).2⟩,fun h j hj=>⟨h.1 j hj,h.2 j hj⟩⟩
theorem MX{f:aF}:uC f=ik f:=by
 have hH:ik f=(qq f&&((List.range f.blocks.length).all (jb f)&&(List.range f.blocks.length).all (qW f))):=by
  unfold ik qq;simp only[Bool.and_assoc]
 rw[hH];unfold uC;cases hh:qq f with
 |false=>rfl
 |true=>
  rw[Bool.true_and,Bool.true_and,Bool.eq_iff_iff,Bool.and_eq_true,Bool.and_eq_true,List.all_eq_true,List.all_eq_true,List.all_eq_true];unfold qq at hh;simp only[Bool.and_eq_true] at hh;obtain⟨h1,h2,_⟩:=hh
  have J:pZ f=true:=by
   unfold mR at h1;simp only[Bool.and_eq_true] at h1;exact h1.2.2.1
  have ki:f.ag.length<=1200:=by
   unfold mR at h1;simp only[Bool.and_eq_true,Bool.not_eq_true',decide_eq_false_iff_not] at h1;omega
  have fq:∀ k∈f.aR,k=1\/k=2:=fun k hk=>by
   unfold p9 at h2;simp only[Bool.and_eq_true] at h2;have h3:=h2.2.2.1;simp only[dY,Bool.not_eq_true',List.any_eq_false] at h3;have:=h3 k hk;simp[ma] at this;omega
  have iB:∀ {k:Nat},k<f.blocks.length->∃ x,f.blocks[k]? =some x/\f.blocks.getD k jn=x/\x∈f.blocks:=fun {k} hk=>by
   have hx:f.blocks[k]? =some f.blocks[k]:=List.getElem?_eq_getElem hk;exact⟨_,hx,getD_some hx,List.getElem_mem _⟩
  have rS:(∀ b∈f.blocks,jg f b.fin=true)->∀ k,k<f.blocks.length->(qC f k=true↔jb f k=true/\qW f k=true):=fun he k hk=>by
   obtain⟨x,hx,hg,hm⟩:=iB hk;have X:=HL he f.blocks.length;unfold qC jb qW uR uy;simp only[hg,IT J,he x hm,X,Bool.true_and,Bool.and_eq_true,List.all_eq_true,List.mem_range];have h3:∀ j,dv f k (bA f.blocks f.blocks.length k).length (x.ins.getD j dt)=iM f k (x.ins.getD j dt) true (bA f.blocks f.blocks.length k).length:=fun j=>QD fq;have Wz:=abW x.ins;simp only[h3];constructor
   .rintro⟨M,C,U⟩;refine⟨⟨M,U⟩,fun j hj=>?_⟩;rw[Et,Bool.and_eq_true];refine⟨(C j hj).1,?_⟩;have:=Wz.1 (fun j hj hp h0=>by have:=(C j hj).2;rw[hp] at this;simpa[h0] using this) j hj;cases hp:bT (x.ins.getD j dt) with
    |false=>rfl
    |true=>rw[this hp];rfl
   .rintro⟨⟨M,U⟩,C⟩;refine⟨M,fun j hj=>?_,U⟩
    have h4:∀ j,j<x.ins.length->bT (x.ins.getD j dt)=true->(x.ins.take (j+1)).all bT=true:=fun j hj hp=>by
     have:=C j hj;rw[Et,Bool.and_eq_true,hp] at this;simpa using this.2
    have h5:=C j hj;rw[Et,Bool.and_eq_true] at h5;refine⟨h5.1,?_⟩;have h6:=Wz.2 h4 j hj;cases hp:bT (x.ins.getD j dt) with
    |false=>rfl
    |true=>
     by_cases h0:0<j
     .rw[h6 hp h0];simp
     .simp[h0]
  constructor
  .rintro⟨h3,h4⟩
   have he:∀ b∈f.blocks,jg f b.fin=true:=fun b hb=>by
    obtain⟨k,hk⟩:=List.getElem?_of_mem hb;have:=h4 k (by simpa using(List.getElem?_eq_some_iff.1 hk).1);unfold qC at this;simp only[getD_some hk,Bool.and_eq_true,IT J] at this;exact this.2.2.1
   exact⟨fun k hk=>((rS he k (by simpa using hk)).1 (h4 k hk)).1,fun k hk=>((rS he k (by simpa using hk)).1 (h4 k hk)).2⟩
  .rintro⟨h3,h4⟩
   have he:∀ b∈f.blocks,jg f b.fin=true:=fun b hb=>by
    obtain⟨k,hk⟩:=List.getElem?_of_mem hb;have:=h3 k (by simpa using(List.getElem?_eq_some_iff.1 hk).1);unfold jb at this;simp only[getD_some hk,Bool.and_eq_true] at this;exact this.1
   refine⟨List.all_eq_true.2 fun x hx=>List.all_eq_true.2 fun t ht=>?_,fun k hk=>(rS he k (by simpa using hk)).2 ⟨h3 k hk,h4 k hk⟩⟩;rw[EE (he x hx)] at ht;have:=(H8 ki J (he x hx)).to t ht;rw[bU,jY];omega
def opsV(R:Nat)(c:Cert)(x:bt):Bool:=(x.op !=17||c.is.getD ((R:Int)+x.n).toNat false)&&qP c (cr x)
def o6(f:aF)(s:CS)(b:Nat)(x:bt)(k:Nat):Bool:=
 let p:=((bA f.blocks f.blocks.length b).getD k 0).toNat
 let c:=bY f.ag.length (f.ag.length+f.aR.length) s p
 c.any||(mz (f.blocks.getD p jn).fin b (eh f.ag.length (f.blocks.getD p jn).ins c)).is.getD (x.args.getD k 0).toNat false
def AP(f:aF)(s:CS)(b:Nat)(x:bt):Bool:= !bT x||(List.range x.args.length).all (o6 f s b x)
def yO(f:aF)(s:CS)(b:Nat)(l:List bt)(c:Cert)(j:Nat):Bool:=opsV f.ag.length (eh f.ag.length (l.take j) c) (l.getD j dt)&&AP f s b (l.getD j dt)
def o5(f:aF)(s:CS)(b:Nat):Bool:=
 let c:=bY f.ag.length (f.ag.length+f.aR.length) s b
 let l:=(f.blocks.getD b jn).ins
 c.any||((List.range l.length).all (yO f s b l c)&&qP (eh f.ag.length l c) (cn (f.blocks.getD b jn).fin))
def I6(f:aF):Int:=if uC f=true then(if(List.range f.blocks.length).all (o5 f (gI f.blocks f.args.toNat))=true then 0 else 81) else 80
theorem Jc{R n:Nat}(J:R<=n){w:List Int}(C:eY w):∀ {rs:List Int} {ok:Bool},(∀ r∈rs,∃ i:Nat,i<R/\r=i)->iK w ok rs=(ok&&qP ⟨false,bW R n w⟩ rs)
 |[],ok,_=>by simp[iK,qP]
 |r::rs,ok,h=>by
  obtain⟨i,hi,e⟩:=h r oS;have ih:=Jc J C (rs:=rs) (ok:=ok&&lR w r.toNat) fun r hr=>h r (by simp[hr])
  have h1:(bW R n w).getD r.toNat false=lR w r.toNat:=by
   rw[e,Int.toNat_natCast,getD_some (tg oG),Io C.all];unfold fG;rw[if_pos hi]
  unfold iK qP at ih ⊢;rw[List.foldl_cons,ih,List.all_cons,h1,Bool.and_assoc]
theorem QG{R n:Nat}(hR:R<=1200)(hn:n<=R+60)(C:R<=n):∀ {l:List bt} (_:∀ x∈l,yN R n x/\Gp R n x) {w:List Int} {ok:Bool} (_:eY w) (_:lO R n w),
 (l.foldl m8 (w,ok)).2=(ok&&(List.range l.length).all fun j=>opsV R (eh R (l.take j) ⟨false,bW R n w⟩) (l.getD j dt))
 |[],_,w,ok,_,_=>by simp
 |x::l,h,w,ok,hw,ho=>by
  obtain⟨U,J⟩:=h x oS;obtain⟨h1,h2,h3⟩:=OJ hR hn C U hw ho;have ih:=QG hR hn C (l:=l) (ok:=(m8 (w,ok) x).2) (fun y hy=>h y (by simp[hy])) h2 h3;rw[List.foldl_cons];show(l.foldl m8 (wc w x,(m8 (w,ok) x).2)).2=_;rw[ih,List.length_cons,List.range_succ_eq_map,List.all_cons,List.all_map]
  have h0:(m8 (w,ok) x).2=(ok&&opsV R ⟨false,bW R n w⟩ x):=by
   show(iK w ok (cr x)&&_)=_;rw[Jc C hw J.r,Bool.and_assoc];congr 1;unfold opsV;rw[Bool.and_comm];congr 1;by_cases M:x.op=17
   .obtain⟨i,hi,e⟩:=J.s M;have e1:((R:Int)+x.n).toNat=R+i:=by omega
    have e2:(jV x.n).toNat=fG R (R+i):=by unfold jV fG;rw[if_neg oG];omega
    rw[e1,e2,getD_some (tg oG),Io hw.all]
   .have:(x.op !=17)=true:=by simpa using M
    rw[this];rfl
  rw[h0,Bool.and_assoc];congr 2;refine List.all_congr rfl fun j=>?_;show _=opsV R (eh R ((x::l).take (j+1)) _) ((x::l).getD (j+1) dt);unfold eh;rw[List.take_succ_cons,List.foldl_cons,h1];rfl
theorem abX{l:List bt}{P:bt->Bool}(h:∀ j,j<l.length->bT (l.getD j dt)=true->(l.take (j+1)).all bT=true):(List.range l.length).all (fun j=> !bT (l.getD j dt)||P (l.getD j dt))=(l.takeWhile bT).all P:=by
 rw[Bool.eq_iff_iff,List.all_eq_true,List.all_eq_true];constructor
 .intro ha y hy;have C:y∈l:=List.takeWhile_sublist _ |>.subset hy;have hp:bT y=true:=List.all_eq_true.1 List.all_takeWhile y hy;obtain⟨j,hj⟩:=List.getElem?_of_mem C;have:=ha j (by simpa using(List.getElem?_eq_some_iff.1 hj).1);rw[getD_some hj,hp] at this;simpa using this
 .intro ha j hj;have ao:j<l.length:=by simpa using hj
  have hx:l[j]? =some l[j]:=List.getElem?_eq_getElem ao;have h1:=h j ao;rw[getD_some hx] at h1 ⊢;cases hp:bT l[j] with
  |false=>rfl
  |true=>
   have h2:=List.all_eq_true.1 (h1 hp)
   have J:l.takeWhile bT=l.take (j+1)++(l.drop (j+1)).takeWhile bT:=by
    conv=>lhs;rw[<- List.take_append_drop (j+1) l]
    exact List.takeWhile_append_of_pos h2
   have:P l[j]=true:=ha _ (by
    rw[J,List.mem_append];left
    exact List.mem_of_getElem? (i:=j) (by rw[List.getElem?_take,if_pos oG,hx]))
   rw[this];rfl
structure yv(f:aF):Prop where
 ok:lD f
 sl:f.aR.length<=60
 ins:∀ b∈f.blocks,∀ x∈b.ins,yN f.ag.length (f.ag.length+f.aR.length) x/\Gp f.ag.length (f.ag.length+f.aR.length) x
 GO:∀ (k:Nat) b,f.blocks[k]? =some b->∀ (j:Nat) x,b.ins[j]? =some x->bT x=true->x.args.length=(bA f.blocks f.blocks.length k).length/\(b.ins.take (j+1)).all bT=true
 wr:∀ b∈f.blocks,dJ b.fin= -1\/∃ i:Nat,i<f.ag.length/\dJ b.fin=i
 rd:∀ b∈f.blocks,∀ r∈cn b.fin,∃ i:Nat,i<f.ag.length/\r=i
 ed:∀ b∈f.blocks,de b.fin=cM b.fin/\oX b.fin=nextR b.fin
 ar:∃ a:Nat,f.args=a/\a<=f.ag.length
theorem Aj{f:aF}(h:ik f=true):yv f:=by
 have C:=uG h;have hd:=h;unfold ik at hd;simp only[Bool.and_eq_true] at hd;obtain⟨h1,h2,_,h4,_⟩:=hd
 have U:pZ f=true:=by
  unfold mR at h1;simp only[Bool.and_eq_true] at h1;exact h1.2.2.1
 have di:∃ a:Nat,f.args=a/\a<=f.ag.length:=by
  unfold mR at h1;simp only[Bool.and_eq_true,jY] at h1;have:=h1.2.1;refine⟨f.args.toNat,by omega,?_⟩;have:=this.2;split at this<;>omega
 have X:∀ k∈f.aR,k=1\/k=2:=fun k hk=>by
  unfold p9 at h2;simp only[Bool.and_eq_true] at h2;have h3:=h2.2.2.1;simp only[dY,Bool.not_eq_true',List.any_eq_false] at h3;have:=h3 k hk;simp[ma] at this;omega
 have he:∀ b∈f.blocks,jg f b.fin=true:=fun b hb=>by
  obtain⟨k,hk⟩:=List.getElem?_of_mem hb;have:=List.all_eq_true.1 h4 k (by simpa using(List.getElem?_eq_some_iff.1 hk).1);unfold jb at this;simp only[getD_some hk,Bool.and_eq_true] at this;exact this.1
 have J:∀ (k:Nat) b,f.blocks[k]? =some b->∀ (j:Nat) x,b.ins[j]? =some x->dv f k (bA f.blocks f.blocks.length k).length x=true/\(bT x=true->(b.ins.take (j+1)).all bT=true):=fun k b hb j x hx=>by
  have:=C.right k b hb j x hx;rw[Et,Bool.and_eq_true] at this;refine⟨by rw[QD X];exact this.1,fun hp=>?_⟩;have h3:=this.2;rw[hp] at h3;simpa using h3
 have M:∀ b∈f.blocks,gf f b.fin=true:=fun b hb=>by rw[IT U];exact he b hb
 refine⟨C,C.aR.2,fun b hb x hx=>?_,fun k b hb j x hx hp=>?_,fun b hb=>(IN (M b hb)).1,fun b hb=>(IN (M b hb)).2.1,fun b hb=>⟨EE (he b hb),OL (he b hb)⟩,di⟩
 .obtain⟨k,hk⟩:=List.getElem?_of_mem hb;obtain⟨j,hj⟩:=List.getElem?_of_mem hx;have:=QE C.aR.1 (J k b hk j x hj).1;exact⟨this.1,this.2.1⟩
 .have:=QE C.aR.1 (J k b hb j x hx).1;have h3:=this.2.2 (by simpa[bT] using hp);exact⟨by omega,(J k b hb j x hx).2 hp⟩
theorem aaF{f:aF}(h:yv f):o4 f.ag.length (f.ag.length+f.aR.length) f.blocks.length (gI f.blocks f.args.toNat):=by
 obtain⟨a,ha,sj⟩:=h.ar;have hR:=h.ok.ag;have hS:=h.sl;have hi:=Nz (R:=f.ag.length) (n:=f.ag.length+f.aR.length) (args:=a) hR oG oG h.ok.pos sj;rw[ha,Int.toNat_natCast];unfold gI;refine(OI (J:=o4 f.ag.length (f.ag.length+f.aR.length) f.blocks.length) h.ok.blk (fun s M hj=>abR (J:=o4 f.ag.length (f.ag.length+f.aR.length) f.blocks.length) h.ok.blk (fun s h=>Pc h false) (fun s k M hj=>?_) M hj) _ _ hi.1.ok hi.1 (Nat.lt_succ_self _)).2.2;refine acT (J:=o4 f.ag.length (f.ag.length+f.aR.length) f.blocks.length) h.ok.blk M hj fun x hx hr u hu X t ht=>?_;have hk:k<f.blocks.length:=(List.getElem?_eq_some_iff.1 hx).1;have C:=List.mem_of_getElem? hx;have U:=(h.ok.blk x C).to t ht;obtain⟨t,rfl⟩:=Int.eq_ofNat_of_zero_le U.1;obtain⟨_,p2,p3⟩:=BJ hR oG oG (ok:=true) (fun y hy=>(h.ins x C y hy).1) (M.lZ hk) (hj.yes k hk hr);exact(Pd hR oG oG X (h.ed x C).1 (h.wr x C) oG p2 p3).1
theorem OM{f:aF}(h:yv f){b:Nat}(hb:b<f.blocks.length):o5 f (gI f.blocks f.args.toNat) b=qV f.blocks (gI f.blocks f.args.toNat) b:=by
 have M:=aaF h;have hR:=h.ok.ag;have hS:=h.sl;generalize gI f.blocks f.args.toNat=s at M ⊢;have hx:f.blocks[b]? =some f.blocks[b]:=List.getElem?_eq_getElem hb;have J:f.blocks[b]∈f.blocks:=List.getElem_mem _;unfold o5 qV;simp only[getD_some hx];have yE:=h.GO b _ hx;generalize f.blocks[b]=x at hx J yE;cases ow:s.re.getD b false with
 |false=>
  have:bY f.ag.length (f.ag.length+f.aR.length) s b=⟨true,List.replicate (f.ag.length+f.aR.length) false⟩:=by unfold bY;rw[ow];rfl
  rw[this];rfl
 |true=>
  have hc:bY f.ag.length (f.ag.length+f.aR.length) s b=⟨false,bW f.ag.length (f.ag.length+f.aR.length) (s.ws.getD b [])⟩:=by unfold bY;rw[ow];rfl
  have hw:=M.ok.lZ hb;have ho:=M.yes b hb ow;rw[hc];generalize s.ws.getD b []=w at hw ho;have h1:=QG hR oG oG (h.ins x J) (ok:=true) hw ho;obtain⟨h2,h3,h4⟩:=BJ hR oG oG (ok:=true) (fun y hy=>(h.ins x J y hy).1) hw ho;have h5:=Jc (R:=f.ag.length) (n:=f.ag.length+f.aR.length) oG h3 (ok:=(x.ins.foldl m8 (w,true)).2) (h.rd x J)
  have h6:∀ j,j<x.ins.length->bT (x.ins.getD j dt)=true->(x.ins.take (j+1)).all bT=true:=fun j hj hp=>by
   have hy:x.ins[j]? =some x.ins[j]:=List.getElem?_eq_getElem hj;rw[getD_some hy] at hp;exact(yE j _ hy hp).2
  have h7:=abX (l:=x.ins) (P:=fun y=>(List.range y.args.length).all (o6 f s b y)) h6
  have h8:(x.ins.takeWhile bT).all (fun y=>(List.range y.args.length).all (o6 f s b y))=(x.ins.takeWhile bT).all (uP f.blocks s b):=by
   rw[Bool.eq_iff_iff,List.all_eq_true,List.all_eq_true]
   have pG:∀ y∈x.ins.takeWhile bT,(List.range y.args.length).all (o6 f s b y)=uP f.blocks s b y:=fun y hy=>by
    have Hc:y∈x.ins:=List.takeWhile_sublist _ |>.subset hy;have hp:bT y=true:=List.all_eq_true.1 List.all_takeWhile y hy;obtain⟨j,hj⟩:=List.getElem?_of_mem Hc;have hlen:=(yE j y hj hp).1;unfold uP;rw[hlen,Bool.eq_iff_iff,List.all_eq_true,List.all_eq_true]
    have:∀ k∈List.range (bA f.blocks f.blocks.length b).length,o6 f s b y k=s5 f.blocks s b y k:=fun k hk=>by
     have hk:k<(bA f.blocks f.blocks.length b).length:=by simpa using hk
     have Lx:(bA f.blocks f.blocks.length b)[k]? =some (bA f.blocks f.blocks.length b)[k]:=List.getElem?_eq_getElem hk;unfold o6 s5;simp only[getD_some Lx]
     have U:(bA f.blocks f.blocks.length b)[k].toNat<f.blocks.length:=by
      have rV:=(Es (fun b hb t ht=>((h.ok.blk b hb).to t ht).1) f.blocks.length b).2 _ (List.getElem_mem hk);have:=h.ok.pos;omega
     generalize (bA f.blocks f.blocks.length b)[k].toNat=p at U;have ud:f.blocks[p]? =some f.blocks[p]:=List.getElem?_eq_getElem U;have X:f.blocks[p]∈f.blocks:=List.getElem_mem _;rw[getD_some ud];generalize f.blocks[p]=z at ud X;have hak:y.args[k]? =some y.args[k]:=List.getElem?_eq_getElem oG;have ua:=(h.ins x J y Hc).2.p (by simpa[bT] using hp) _ (List.getElem_mem (h:=by omega):y.args[k]∈y.args);rw[getD_some hak];obtain⟨i,hi,e⟩:=ua;rw[e,Int.toNat_natCast];cases yZ:s.re.getD p false with
     |false=>
      have:bY f.ag.length (f.ag.length+f.aR.length) s p=⟨true,List.replicate (f.ag.length+f.aR.length) false⟩:=by unfold bY;rw[yZ];rfl
      rw[this];rfl
     |true=>
      have zs:bY f.ag.length (f.ag.length+f.aR.length) s p=⟨false,bW f.ag.length (f.ag.length+f.aR.length) (s.ws.getD p [])⟩:=by unfold bY;rw[yZ];rfl
      obtain⟨q2,q3,q4⟩:=BJ hR oG oG (ok:=true) (fun y hy=>(h.ins z X y hy).1) (M.ok.lZ U) (M.yes p U yZ);obtain⟨r2,r3,r4⟩:=OK hR oG oG (h.ed z X).1 (h.wr z X) (to:=(b:Int)) q3 q4;rw[zs,q2,r2,getD_some (tg (show i<f.ag.length+f.aR.length by omega))];have iC:fG f.ag.length i=i:=by unfold fG;rw[if_pos hi]
      rw[iC];show(false||dP _ i)=(!true||lR _ i)
      rw[<- Io r3.all];rfl
    exact⟨fun h k hk=>by rw[<- this k hk];exact h k hk,fun h k hk=>by rw[this k hk];exact h k hk⟩
   exact⟨fun h y hy=>by rw[<- pG y hy];exact h y hy,fun h y hy=>by rw[pG y hy];exact h y hy⟩
  have h9:(List.range x.ins.length).all (yO f s b x.ins ⟨false,bW f.ag.length (f.ag.length+f.aR.length) w⟩)=((List.range x.ins.length).all (fun j=>opsV f.ag.length (eh f.ag.length (x.ins.take j) ⟨false,bW f.ag.length (f.ag.length+f.aR.length) w⟩) (x.ins.getD j dt))&&(List.range x.ins.length).all fun j=> !bT (x.ins.getD j dt)||(List.range (x.ins.getD j dt).args.length).all (o6 f s b (x.ins.getD j dt))):=by
   rw[<- acZ];rfl
  have mI:(iH x w).2=iK (x.ins.foldl m8 (w,true)).1 (x.ins.foldl m8 (w,true)).2 (cn x.fin):=rfl;rw[h9,h7,h8,h2,mI,h5,h1];simp only[Bool.true_and,Bool.false_or,Bool.not_true];generalize (List.range x.ins.length).all _=A;generalize (x.ins.takeWhile bT).all _=B;generalize qP _ _=C;cases A<;>cases B<;>cases C<;>rfl
theorem aal(f:aF):I6 f=cR f:=by
 unfold I6 cR;rw[MX];split
 .rename_i h;have hf:=Aj h
  have:(List.range f.blocks.length).all (o5 f (gI f.blocks f.args.toNat))=vQ f.blocks f.args.toNat:=by
   unfold vQ;rw[Bool.eq_iff_iff,List.all_eq_true,List.all_eq_true];exact⟨fun h k hk=>by rw[<- OM hf (by simpa using hk)];exact h k hk,fun h k hk=>by rw[OM hf (by simpa using hk)];exact h k hk⟩
  rw[this]
 .rfl
end Go.Argus
namespace Go.Argus
open Go.Abs
structure uO(f:aF):Prop where
 W6:0<=f.result
 nm:f.name.size<=maxLen
 sg:∀ s∈f.signals,s.size<=maxLen
 en:∀ b∈f.blocks,b.fin.name.size<=maxLen/\∀ w∈b.fin.aI,w.name.size<=maxLen
theorem adR(x:yg.val)(h:yg.ok x):uO (SL x):=by
 obtain⟨h1,_,_,h4,_,_,J,M,_⟩:=h;refine⟨?_,h1,fun s U=>?_,fun b hb=>?_⟩
 .have:(Lit.int .u8 x.2.2.2.1).wf=true:=h4;simp only[Lit.wf,Bool.and_eq_true] at this;exact of_decide_eq_true this.1
 .exact J s U
 .obtain⟨y,hy,rfl⟩:=List.mem_map.1 hb;obtain⟨_,C,_⟩:=M y hy;obtain⟨_,_,_,_,_,e6,_,_,e9,_,_⟩:=C;refine⟨e6,fun w X=>?_⟩;obtain⟨z,hz,rfl⟩:=List.mem_map.1 X;exact(e9 z hz).1
end Go.Argus
section
open Go Go.Abs Go.Proofs Go.Argus
namespace Go.Argus
def wy(f:aF):Bool:=kL f.name&&(!decide ((1200:Int)<f.ag.length)&&(!decide ((60:Int)<f.aR.length)&&(cJ f.args 0 (if(f.ag.length:Int)<6 then(f.ag.length:Int) else 6)&&(!decide (2<f.result)&&(!(f.iter&&decide (f.result=0))&&(!decide ((6:Int)<f.signals.length)&&cJ f.blocks.length 1 1200))))))
def tt(a:Int)(j:Nat)(x:Int):Bool:=ma 3 x||(decide ((j:Int)<a)&&decide (x=3))
theorem YD{f:aF}(h:wy f=false):qq f=false:=by
 unfold wy at h;unfold qq mR p9 pZ;revert h;generalize kL f.name=a;generalize cJ f.args 0 _=b;generalize cJ f.blocks.length 1 1200=c;generalize mS f=d;generalize dY f.ag 3=e;generalize dY (f.ag.take f.args.toNat) 2=g;generalize dY f.aR 2=i;generalize f.signals.any _=j;grind
theorem Y8{f:aF}(h:wy f=true)(hr:0<=f.result):mR f=true/\f.signals.length<=6/\f.ag.length<=1200/\f.aR.length<=60/\0<=f.args/\f.args<=f.ag.length:=by
 unfold wy at h;simp only[Bool.and_eq_true,Bool.not_eq_true',decide_eq_false_iff_not,jY] at h;obtain⟨h1,h2,h3,h4,h5,C,M,J⟩:=h;have ha:f.args<=f.ag.length:=by have:=h4.2;split at this<;>omega
 refine⟨?_,by omega,by omega,by omega,h4.1,ha⟩;unfold mR pZ;simp only[Bool.and_eq_true,Bool.not_eq_true',decide_eq_false_iff_not,jY];refine⟨h1,h4,?_,h2,h3,J⟩;have:f.result=0\/f.result=1\/f.result=2:=by omega
 rcases this with e|e|e
 .simp[e] at C ⊢;exact C
 .simp[e]
 .simp[e]
theorem gj(a b:Bool):(if a=true then b else false)=(a&&b):=by cases a<;>rfl
theorem yf(a b:Bool):(if a=true then true else b)=(a||b):=by cases a<;>rfl
def iL(bs:List bP):List (List Int):=(List.range bs.length).map (kM bs bs.length)
def lN(R:Nat)(bs:List bP)(k:Nat):List Bool:=(List.range R).map fun(i:Nat)=>(kI bs k).any (·==(i:Int))
theorem BB(R:Nat)(bs:List bP)(k:Nat):(lN R bs k).length=R:=by simp[lN]
theorem ES{R i:Nat}{bs:List bP}{k:Nat}(h:i<R):(lN R bs k)[i]? =some ((kI bs k).any (·==(i:Int))):=by simp[lN,h]
theorem MW{bs:List bP}{k:Nat}{x:bP}(h:bs[k]? =some x):kI bs (k+1)=kI bs k++if x.fin.kind=7 then [x.fin.a] else []:=by
 unfold kI;rw[List.take_add_one,h,List.filter_append,List.map_append];congr 1;by_cases e:x.fin.kind=7<;>simp[e]
theorem acE{R:Nat}{bs:List bP}{k:Nat}{x:bP}(h:bs[k]? =some x)(e:¬ x.fin.kind=7):lN R bs (k+1)=lN R bs k:=by
 unfold lN;rw[MW h,if_neg e,List.append_nil]
theorem aby{R i:Nat}{bs:List bP}{k:Nat}{x:bP}(h:bs[k]? =some x)(e:x.fin.kind=7)(ha:x.fin.a=i):lN R bs (k+1)=(lN R bs k).set i true:=by
 apply List.ext_getElem?;intro j;rw[List.getElem?_set];by_cases hj:j<R
 .rw[ES hj,ES hj,MW h,if_pos e,List.any_append,ha,BB];by_cases C:i=j
  .subst C;simp[hj]
  .rw[if_neg C];have:((i:Int)==(j:Int))=false:=by simp;omega
   simp[this]
 .have h1:∀ k,(lN R bs k)[j]? =none:=fun k=>List.getElem?_eq_none (by rw[BB];omega);rw[h1,h1,BB];split
  .rw[if_neg oG]
  .rfl
theorem aag(R:Nat)(bs:List bP):lN R bs 0=List.replicate R false:=by
 apply List.ext_getElem?;intro j;by_cases hj:j<R
 .rw[ES hj];simp[kI,hj]
 .rw[List.getElem?_eq_none (by rw[BB];omega),List.getElem?_eq_none oP]
theorem take_set{C:List Bool}{k n:Nat}{v:Bool}(h:C[k]? =some v)(hn:C.length=n):((C.take k++List.replicate (n - k) false).set k v)=C.take (k+1)++List.replicate (n - (k+1)) false:=by
 have hk:=(List.getElem?_eq_some_iff.1 h).1;have hl:(C.take k).length=k:=by simp;omega
 rw[show n - k=n - (k+1)+1 by omega,List.replicate_succ,List.set_append_right _ _ oG,hl,Nat.sub_self,List.set_cons_zero,List.take_add_one,h];simp
def nX(p:Bool×D):List D:=[B p.1,p.2]
def cO(L:List (Bool×D)):List D:=L.flatMap nX
def De(c:Cert):Bool×D:=(c.any,bq c.is)
theorem zS:∀ L:List (Bool×D),(cO L).length=L.length*2
 |[]=>rfl
 |p::L=>by
  have:=zS L;unfold cO at this ⊢;rw[List.flatMap_cons,List.length_append,this];simp[nX];omega
theorem Ic:∀ {L:List (Bool×D)} {t:Nat} {p:Bool×D},L[t]? =some p->∃ r,(cO L).drop (t*2)=B p.1::p.2::r
 |[],_,_,h=>by simp at h
 |p::L,0,q,h=>by
  simp at h;subst h;exact⟨cO L,rfl⟩
 |p::L,t+1,q,h=>by
  obtain⟨r,hr⟩:=Ic (L:=L) (t:=t) (by simpa using h);refine⟨r,?_⟩;rw[show(t+1)*2=t*2+2 by omega];show(B p.1::p.2::cO L).drop (t*2+2)=_;exact hr
theorem O':∀ {L:List (Bool×D)} {t:Nat} (q:Bool×D),t<L.length->(cO L).take (t*2)++[B q.1,q.2]++(cO L).drop (t*2+2)=cO (L.set t q)
 |[],_,_,h=>by simp at h
 |p::L,0,q,h=>rfl
 |p::L,t+1,q,h=>by
  have ih:=O' (L:=L) (t:=t) q (by simpa using h);rw[show(t+1)*2=t*2+2 by omega,List.set_cons_succ];show B p.1::p.2::((cO L).take (t*2)++[B q.1,q.2]++(cO L).drop (t*2+2))=_;rw[ih];rfl
theorem Hw{L:List (Bool×D)}{t:Nat}(q:Bool×D)(h:t<L.length):splice (cO L) (t*2) [B q.1,q.2]=cO (L.set t q):=O' q h
theorem adJ{L:List (Bool×D)}{t:Nat}{p:Bool×D}(h:L[t]? =some p):∃ r,(cO L).drop (t*2+0)=B p.1::p.2::r:=Ic h
theorem Pa{L:List (Bool×D)}{t:Nat}{p:Bool×D}(h:L[t]? =some p):((cO L).drop (t*2)).take 2=[B p.1,p.2]:=by
 obtain⟨r,hr⟩:=Ic h;rw[hr];rfl
theorem Ff(g:D->D)(hg:∀ b,g (B b)=B b):∀ L:List (Bool×D),(cO L).map g=cO (L.map fun p=>(p.1,g p.2))
 |[]=>rfl
 |p::L=>by
  show g (B p.1)::g p.2::(cO L).map g=B p.1::g p.2::_;rw[hg,Ff g hg L];rfl
def iz(n N:Nat)(d:D):Nat->List (Bool×D)
 |0=>List.replicate N (false,.z)
 |k+1=>(true,d)::(List.replicate k (true,bq (List.replicate n false))++List.replicate (N - (k+1)) (false,.z))
theorem HK{n N:Nat}{d:D}{k:Nat}(h:k<=N):(iz n N d k).length=N:=by
 cases k with
 |zero=>simp[iz]
 |succ k=>simp[iz];omega
theorem acF{n N:Nat}{d:D}(h:0<N):(iz n N d 0).set 0 (true,d)=iz n N d 1:=by
 obtain⟨M,rfl⟩:∃ M,N=M+1:=⟨N - 1,by omega⟩
 simp[iz,List.replicate_succ]
theorem acG{n N:Nat}{d:D}{k:Nat}(h:k+1<N):(iz n N d (k+1)).set (k+1) (true,bq (List.replicate n false))=iz n N d (k+2):=by
 unfold iz;rw[List.set_cons_succ,show N - (k+1)=N - (k+1+1)+1 by omega,List.replicate_succ (n:=N - (k+1+1)),List.set_append_right _ _ oS,List.length_replicate,Nat.sub_self,List.set_cons_zero];show _=(true,d)::(List.replicate (k+1) _++_)
 rw[List.replicate_succ',List.append_assoc];rfl
def eg(R n N:Nat)(s:CS):List (Bool×D):=(List.range N).map fun k=>De (bY R n s k)
theorem vO(R n N:Nat)(s:CS):(eg R n N s).length=N:=by simp[eg]
theorem zA{R n N:Nat}{s:CS}{k:Nat}(h:k<N):(eg R n N s)[k]? =some (De (bY R n s k)):=by simp[eg,h]
theorem Zj{R n N:Nat}{s s':CS}{t:Nat}{c:Cert}(h:∀ k,bY R n s' k=if k=t then c else bY R n s k):(eg R n N s).set t (De c)=eg R n N s':=by
 apply List.ext_getElem?;intro j;rw[List.getElem?_set,vO];by_cases hj:j<N
 .rw[zA hj,zA hj,h j];by_cases e:t=j
  .subst e;simp[hj]
  .rw[if_neg e,if_neg fun h=>e h.symm]
 .have h1:∀ s,(eg R n N s)[j]? =none:=fun s=>by simp[eg];omega
  rw[h1,h1];split
  .rw[if_neg oG]
  .rfl
def Cu(f:aF)(s:CS):D:=.sl (cO (eg f.ag.length (f.ag.length+f.aR.length) f.blocks.length s)) f.blocks.length
theorem Hx{R n:Nat}{s:CS}{k:Nat}:(bY R n s k).is.length=n:=by
 unfold bY;split
 .exact BI ..
 .simp
def oZ(a b:Cert)(q:Nat):Bool:=(a.any==b.any)&&(List.range q).all fun i=>a.is.getD i false==b.is.getD i false
theorem Zk(a b:Cert)(q:Nat):oZ a b (q+1)=(oZ a b q&&(a.is.getD q false==b.is.getD q false)):=by
 unfold oZ;rw[List.range_succ,List.all_append,Bool.and_assoc];simp
theorem aak{a b:Cert}{n:Nat}(ha:a.is.length=n)(hb:b.is.length=n):oZ a b n=true↔a.any=b.any/\a.is=b.is:=by
 unfold oZ;rw[Bool.and_eq_true,beq_iff_eq,List.all_eq_true];refine and_congr_right fun _=>⟨fun h=>?_,fun h k hk=>by rw[h];simp⟩
 apply List.ext_getElem?;intro j;by_cases hj:j<n
 .have:=h j (by simpa using hj);have h1:a.is[j]? =some a.is[j]:=List.getElem?_eq_getElem oG;have h2:b.is[j]? =some b.is[j]:=List.getElem?_eq_getElem oG;rw[getD_some h1,getD_some h2,beq_iff_eq] at this;rw[h1,h2,this]
 .rw[List.getElem?_eq_none oG,List.getElem?_eq_none oG]
theorem Ow:∀ n:Nat,replD n [B false,.z]=cO (List.replicate n (false,.z))
 |0=>rfl
 |n+1=>by
  have:=Ow n;unfold replD at this ⊢;rw[List.replicate_succ,List.replicate_succ,List.flatten_cons,this];rfl
theorem Pb:∀ {L:List (Bool×D)},(∀ p∈L,Tr p.2)->∀ x∈cO L,Tr x
 |[],_,x,h=>by simp[cO] at h
 |p::L,hp,x,h=>by
  have h:x∈B p.1::p.2::cO L:=h;rcases List.mem_cons.1 h with rfl|h
  .exact .s _
  .rcases List.mem_cons.1 h with rfl|h
   .exact hp p oS
   .exact Pb (fun q hq=>hp q (by simp[hq])) x h
theorem abz(f:aF)(s:CS):Tr (Cu f s):=.sl (Pb fun p hp=>by
 obtain⟨k,_,rfl⟩:=List.mem_map.1 hp
 exact .sl (.map fun _=>.s _))
theorem abA{n N i:Nat}{cs:List D}{sz:Nat}(h:i≠2)(k:Nat):(iz n N (.rs 2 0 n) k).map (fun p=>(p.1,sub (fz0 i cs sz) p.2))=iz n N (.rs 2 0 n) k:=by
 cases k with
 |zero=>simp only[iz,List.map_replicate];rfl
 |succ k=>
  simp only[iz,List.map_cons,List.map_append,List.map_replicate,zM (Ne.symm h)];rfl
theorem acH{n N i k:Nat}(h:i≠2)(hk:k+1<N):(cO ((iz n N (.rs 2 0 n) (k+1)).set (k+1) (true,.rs i 0 n))).map (sub (fz0 i ((List.replicate n false).map B) 1))=cO (iz n N (.rs 2 0 n) (k+2)):=by
 rw[Ff _ (fun _=>rfl),List.map_set,abA h,yr,List.drop_zero,List.take_of_length_le oS, <- acG hk];congr 3;show _=D.sl _ _;rw[List.length_replicate]
def nY(n N:Nat):List (Bool×D):=List.replicate (N - 1) (true,bq (List.replicate n false))
theorem acI{n N:Nat}{d:D}(h:0<N):iz n N d N=(true,d)::nY n N:=by
 obtain⟨M,rfl⟩:∃ M,N=M+1:=⟨N - 1,by omega⟩
 simp[iz,nY]
theorem Ny{n N:Nat}(h:0<N):(nY n N).length+1=N:=by simp[nY];omega
theorem amF{n N i:Nat}{cs:List D}{sz:Nat}:(nY n N).map (fun p=>(p.1,sub (fz0 i cs sz) p.2))=nY n N:=by
 unfold nY;rw[List.map_replicate];rfl
theorem YE{R n N args:Nat}(h0:bY R n (jF N args) 0=⟨false,List.replicate args true++List.replicate (n - args) false⟩)(h1:∀ k,0<k->k<N->bY R n (jF N args) k=⟨true,List.replicate n false⟩)(C:0<N):
 eg R n N (jF N args)=(false,bq (List.replicate args true++List.replicate (n - args) false))::nY n N:=by
 apply List.ext_getElem?;intro j;by_cases hj:j<N
 .rw[zA hj];cases j with
  |zero=>rw[h0];rfl
  |succ j=>
   rw[h1 _ oG hj,List.getElem?_cons_succ];unfold nY;rw[List.getElem?_replicate,if_pos oG];rfl
 .rw[List.getElem?_eq_none (by rw[vO];omega),List.getElem?_eq_none (by have:=Ny (n:=n) C;simp;omega)]
theorem Ie{R n N i sz:Nat}{cs:List D}{e:TypeId}{s:CS}:Row.sub (fz0 i cs sz) (.cells (cO (eg R n N s)) e)=.cells (cO (eg R n N s)) e:=by
 refine congrArg (fun c=>Row.cells c e) ((Ff _ (fun _=>rfl) _).trans (congrArg cO ?_));unfold eg;rw[List.map_map];rfl
def JU(f:aF)(n N:Nat):Nat->St
 |0=>⟨az [(1,.pt (aG f)),(3,I n),(4,.rs 1 0 N),(5,I (0:Nat))],aY [(1,.cells (cO (iz n N (.rs 2 0 n) 0)) 158)],2⟩
 |k+1=>⟨az [(1,.pt (aG f)),(3,I n),(4,.rs 1 0 N),(5,I (k+1:Nat))],aY [(1,.cells (cO (iz n N (.rs 2 0 n) (k+1))) 158),(2,.cells ((List.replicate n false).map B) 4)],k+3⟩
end Go.Argus
namespace Go.Proofs.Tryz.K
set_option maxRecDepth 10000
set_option maxHeartbeats 1000000 in
theorem AJ{f:aF}(U:uO f):PCall prog 169 [.agg (aG f)] (B (qq f)):=by
 have yL:=yL U.nm;have fZ:∀ {n a b:Int},PCall prog 212 [I n,I a,I b] (B (cJ n a b)):=fun {n a b}=>fZ;refine a9 mixed Uq (by rw[aim];rfl) (.cons (.agg (gn f)) .nil) (Tr.s _) ?_;rw[ain,aio];refine aw ?_;refine af ?_;refine ab (aO (bw [(0,aG f,26)] eH (l:=[(1,.pt (aG f))]) eH) (aC (aj ?_)));refine af ?_;refine cl yL ?_;refine aL ?_;refine bF ?_;refine af ?_;refine bG rfl rfl (SW rfl rfl) (fun hc=>⟨ak,rfl⟩) ?_;refine gc fZ ?_;refine aL ?_;refine aL ?_;refine bF ?_;refine gc fZ ?_;refine af ?_;refine ab (bh rfl (fun h=>?_) fun h=>bS (aC (aw ?_)))
 .refine aC (aj ?_);refine SS ?_;refine ab (cU (ay (d:=B false) rfl ?_))
  have:wy f=false:=by
   revert h;unfold wy;generalize kL f.name=a;generalize cJ f.args 0 _=b;generalize cJ f.blocks.length 1 1200=c;generalize f.iter=d;grind
  rw[YD this]
 have hA:wy f=true:=by
  revert h;unfold wy;generalize kL f.name=a;generalize cJ f.args 0 _=b;generalize cJ f.blocks.length 1 1200=c;generalize f.iter=d;grind
 obtain⟨h1,h6,hR,hS,M,haR⟩:=Y8 hA U.W6;clear h hA;obtain⟨a,ha⟩:=Int.eq_ofNat_of_zero_le M
 have hV:qq f=(dY f.ag 3&&(dY (f.ag.take a) 2&&(dY f.aR 2&&((!f.signals.any fun s=> !isName s)&&mS f)))):=by
  rw[qq,h1,p9,ha,Int.toNat_natCast,show decide ((6:Int)<f.signals.length)=false from decide_eq_false oG];simp only[Bool.true_and,Bool.not_false,Bool.and_assoc]
 rw[hV];clear hV h1
 have Ur:∀ (j:Nat) x,f.ag[j]? =some x->tt a j x=true->(dY f.ag 3&&(dY (f.ag.take a) 2&&(dY f.aR 2&&((!f.signals.any fun s=> !isName s)&&mS f))))=false:=fun j x hx hb=>by
  unfold tt at hb;rw[Bool.or_eq_true] at hb;rcases hb with hb|hb
  .have:dY f.ag 3=false:=by
    unfold dY;rw[List.any_eq_true.2 ⟨x,List.mem_of_getElem? hx,hb⟩];rfl
   rw[this];rfl
  .have hb:j<a/\x=3:=by simpa using hb
   have:dY (f.ag.take a) 2=false:=by
    unfold dY;rw[List.any_eq_true.2 ⟨x,List.mem_of_getElem? (i:=j) (by rw[List.getElem?_take,if_pos hb.1,hx]),by rw[hb.2];rfl⟩];rfl
   rw[this,Bool.false_and,Bool.and_false]
 have Ry:(∀ (j:Nat) x,f.ag[j]? =some x->tt a j x=false)->dY f.ag 3=true/\dY (f.ag.take a) 2=true:=fun h=>by
  constructor
  .unfold dY;rw[Bool.not_eq_true',List.any_eq_false];intro x hx;obtain⟨j,hj⟩:=List.getElem?_of_mem hx;have:=h j x hj;unfold tt at this;rw[Bool.or_eq_false_iff] at this;rw[this.1];simp
  .unfold dY;rw[Bool.not_eq_true',List.any_eq_false];intro x hx;obtain⟨j,hj⟩:=List.getElem?_of_mem hx;have um:j<a:=by have:=(List.getElem?_eq_some_iff.1 hj).1;simp at this;omega
   rw[List.getElem?_take,if_pos um] at hj;have:=h j x hj;unfold tt ma at this;simp[um] at this;simp[ma];omega
 refine SS ?_
 refine ab (bO (fun s=>Ghost prog s ⟨az [(1,.pt (aG f))],fun _=>none,1⟩/\dY f.ag 3=true/\dY (f.ag.take a) 2=true) (b8 (α:=Nat) (fun k=>⟨az [(1,.pt (aG f)),(3,I k)],fun _=>none,1⟩)
  (fun k=>k<=f.ag.length/\∀ j x,j<k->f.ag[j]? =some x->tt a j x=false) (fun k=>f.ag.length - k) 0 (av eH) ⟨by omega,fun j y hj=>by omega⟩ ?_) ?_)
 .rintro k ⟨hk,hinv⟩;refine aK ?_;refine ab ⟨_,rfl,fun h=>?_,fun h=>?_⟩
  .have ao:k<f.ag.length:=by simpa using h
   have hx:f.ag[k]? =some f.ag[k]:=List.getElem?_eq_getElem ao;have kn:=Ur k _ hx
   have uf:tt a k f.ag[k]=false->∀ j y,j<k+1->f.ag[j]? =some y->tt a j y=false:=fun h j y hj hy=>by
    by_cases e:j=k
    .subst e;rw[hx] at hy;cases hy;exact h
    .exact hinv j y oG hy
   generalize f.ag[k]=x at hx kn uf;refine ws ?_;refine aL ?_;refine aL ?_;refine bF ?_;refine af ?_;refine ab (aq rfl (fun hp=>?_) fun hp=>?_)
   .refine ws ?_;refine SS ?_;refine ab (aV (cq (aT (ay (d:=B false) rfl ?_))));rw[kn (by revert hp;unfold tt ma;rw[ha];grind)]
   .refine cg ?_;refine au ?_;refine ab (aJ (k+1) (av eH) ⟨by omega,uf (by revert hp;unfold tt ma;rw[ha];grind)⟩ oG)
  .have aX:¬ k<f.ag.length:=by simpa using h
   exact⟨av eH,Ry fun j x hx=>hinv j x (by have:=(List.getElem?_eq_some_iff.1 hx).1;omega) hx⟩
 rintro s ⟨hg,e1,e2⟩;clear Ur Ry;rw[e1,e2,Bool.true_and,Bool.true_and];refine⟨_,hg,aC (aw ?_)⟩;refine SS ?_
 refine ab (bO (fun s=>Ghost prog s ⟨az [(1,.pt (aG f))],fun _=>none,1⟩/\dY f.aR 2=true) (b8 (α:=Nat) (fun k=>⟨az [(1,.pt (aG f)),(4,I k)],fun _=>none,1⟩)
  (fun k=>k<=f.aR.length/\∀ (j:Nat) x,j<k->f.aR[j]? =some x->ma 2 x=false) (fun k=>f.aR.length - k) 0 (av eH) ⟨by omega,fun j y hj=>by omega⟩ ?_) ?_)
 .rintro k ⟨hk,hinv⟩;refine aK ?_;refine ab ⟨_,rfl,fun h=>?_,fun h=>?_⟩
  .have ao:k<f.aR.length:=by simpa using h
   have hx:f.aR[k]? =some f.aR[k]:=List.getElem?_eq_getElem ao;generalize f.aR[k]=x at hx;refine ws ?_;refine aL ?_;refine aK ?_;refine ab (aq rfl (fun hp=>?_) fun hp=>?_)
   .refine ws ?_;refine SS ?_;refine ab (aV (cq (aT (ay (d:=B false) rfl ?_))))
    have:dY f.aR 2=false:=by
     unfold dY;rw[List.any_eq_true.2 ⟨x,List.mem_of_getElem? hx,by revert hp;unfold ma;grind⟩];rfl
    rw[this];rfl
   .refine cg ?_;refine au ?_;refine ab (aJ (k+1) (av eH) ⟨by omega,fun j y hj hy=>?_⟩ oG);by_cases e:j=k
    .subst e;rw[hx] at hy;cases hy;revert hp;unfold ma;grind
    .exact hinv j y oG hy
  .have aX:¬ k<f.aR.length:=by simpa using h
   refine⟨av eH,?_⟩;unfold dY;rw[Bool.not_eq_true',List.any_eq_false];intro x hx;obtain⟨j,hj⟩:=List.getElem?_of_mem hx;rw[hinv j x (by have:=(List.getElem?_eq_some_iff.1 hj).1;omega) hj];simp
 rintro s ⟨hg,e3⟩;rw[e3,Bool.true_and];clear e1 e2 e3;have VC:∀ b:Bool,b=(!(f.signals.any fun s=> !isName s)&&mS f)->b=((!f.signals.any fun s=> !isName s)&&mS f):=fun b h=>h
 have C:∀ (j:Nat) x,f.signals[j]? =some x->isName x=false->((!f.signals.any fun s=> !isName s)&&mS f)=false:=fun j x hx hb=>by
  rw[List.any_eq_true.2 ⟨x,List.mem_of_getElem? hx,by rw[hb];rfl⟩];rfl
 have J:∀ (j:Nat) x y,f.signals[j]? =some x->f.signals[j+1]? =some y->Op.bytesLess x.toList y.toList=false->((!f.signals.any fun s=> !isName s)&&mS f)=false:=fun j x y hx hy hb=>by
  have:mS f=false:=by
   unfold mS;refine nH (k:=j) (by have:=(List.getElem?_eq_some_iff.1 hy).1;omega) ?_;unfold s6;rw[getD_some hx,getD_some hy,hb]
  rw[this,Bool.and_false]
 refine⟨_,hg,aC (aw ?_)⟩;refine SS ?_
 refine ab (bO (fun s=>Ghost prog s ⟨az [],fun _=>none,1⟩/\((!f.signals.any fun s=> !isName s)&&mS f)=true) (b8 (α:=Nat) (fun k=>⟨az [(1,.pt (aG f)),(5,I k)],fun _=>none,1⟩)
  (fun k=>k<=f.signals.length/\(∀ (j:Nat) x,j<k->f.signals[j]? =some x->isName x=true)/\∀ (j:Nat) x y,j+1<k->f.signals[j]? =some x->f.signals[j+1]? =some y->Op.bytesLess x.toList y.toList=true) (fun k=>f.signals.length - k) 0 (av eH) ⟨by omega,fun j y hj=>by omega,fun j x y hj=>by omega⟩ ?_) ?_)
 .rintro k ⟨hk,hinv,Us⟩;refine aK ?_;refine ab ⟨_,rfl,fun h=>?_,fun h=>?_⟩
  .have ao:k<f.signals.length:=by simpa using h
   have hx:f.signals[k]? =some f.signals[k]:=List.getElem?_eq_getElem ao;have nq:=nq (U.sg _ (List.getElem_mem ao));generalize f.signals[k]=x at hx nq
   have jR:isName x=true->∀ (j:Nat) y,j<k+1->f.signals[j]? =some y->isName y=true:=fun hq j y hj hy=>by
    by_cases e:j=k
    .subst e;rw[hx] at hy;cases hy;exact hq
    .exact hinv j y oG hy
   have qN:=C k x hx;generalize isName x=nb at nq jR qN;refine dm Y9 ?_;cases nb with
   |false=>
    refine aK ?_;refine cl nq ?_;refine aL ?_;(iterate 2 refine z fun _ _=>?_);refine aK ?_;(iterate 2 refine z fun _ _=>?_);refine SS ?_;refine bk (by simp[apartT]) (aq rfl (fun hp=>?_) fun hp=>(by cases hp));refine ws ?_;refine SS ?_;refine ab (aV (cq (aT (ay (d:=B false) rfl ?_))));rw[qN rfl]
   |true=>
    cases k with
    |zero=>
     have uV:decide ((0:Int)<((0:Nat):Int))=false:=rfl;refine aK ?_;refine cl nq ?_;refine aL ?_;(iterate 2 refine z fun _ _=>?_);refine aK ?_;refine z fun _ _=>?_;refine af ?_;refine bk (by simp[apartT]) (aq rfl (fun hp=>(by cases hp)) fun hp=>cg ?_);refine au ?_;refine ab (aJ 1 (av eH) ⟨by omega,jR rfl,fun j x y hj=>by omega⟩ oG)
    |succ i=>
     have uV:decide ((0:Int)<((i+1:Nat):Int))=true:=decide_eq_true oG;have uW:((i+1:Nat):Int) - 1=(i:Int)/\ -9223372036854775808<=(i:Int)/\(i:Int)<=9223372036854775807:=by omega
     have hy:f.signals[i]? =some f.signals[i]:=List.getElem?_eq_getElem oG;generalize f.signals[i]=y at hy;have cI:=J i y x hy hx
     have AX:Op.bytesLess y.toList x.toList=true->∀ (j:Nat) x y,j+1<i+1+1->f.signals[j]? =some x->f.signals[j+1]? =some y->Op.bytesLess x.toList y.toList=true:=fun hq j u v hj X hv=>by
      by_cases e:j=i
      .subst e;rw[hy] at X;cases X;rw[hx] at hv;cases hv;exact hq
      .exact Us j u v oG X hv
     refine aK ?_;refine cl nq ?_;refine aL ?_;refine c8 ?_;refine bG rfl rfl (QO rfl rfl) (fun hc=>⟨ak,trivial⟩) ?_;refine af ?_;refine bk (by simp[apartT]) (aq rfl (fun hp=>?_) fun hp=>?_)
     .refine ws ?_;refine SS ?_;refine ab (aV (cq (aT (ay (d:=B false) rfl ?_))));rw[cI (by revert hp;generalize Op.bytesLess y.toList x.toList=q;cases q<;>simp)]
     .refine cg ?_;refine au ?_;refine ab (aJ (i+1+1) (av eH) ⟨by omega,jR rfl,AX (by revert hp;generalize Op.bytesLess y.toList x.toList=q;cases q<;>simp)⟩ oG)
  .have aX:¬ k<f.signals.length:=by simpa using h
   refine⟨.forget _ _ _ _ fun _=>.inr rfl,?_⟩;rw[Bool.and_eq_true];constructor
   .rw[Bool.not_eq_true',List.any_eq_false];intro x hx;obtain⟨j,hj⟩:=List.getElem?_of_mem hx;rw[hinv j x (by have:=(List.getElem?_eq_some_iff.1 hj).1;omega) hj];simp
   .unfold mS;refine List.all_eq_true.2 fun j hj=>?_;have hj:j<f.signals.length - 1:=by simpa using hj
    have h1:f.signals[j]? =some f.signals[j]:=List.getElem?_eq_getElem oG;have h2:f.signals[j+1]? =some f.signals[j+1]:=List.getElem?_eq_getElem oG;unfold s6;rw[getD_some h1,getD_some h2];exact Us j _ _ oG h1 h2
 rintro s ⟨hg,e4⟩;rw[e4];refine⟨_,hg,aj ?_⟩;refine SS ?_;exact ab (ay rfl rfl)
section
variable{f:aF}{hd:D}(ht:Tr hd)(c7:hd.one=true)
include ht c7
theorem KG{x:bt}:PCall prog 220 [.agg (bL f hd),.agg (bl x)] (B (ko f x)):=by
 have bH:∀ {r k:Int},PCall prog 215 [.agg (bL f hd),I r,U8 k] (B (bf f r k)):=fun {r k}=>bH ht c7;have tP:∀ {l:List Int},PCall prog 217 [.agg (bL f hd),ax l] (B (fQ f.ag l)):=fun {l}=>tP ht c7;refine a9 mixed Ut (by rw[air];rfl) (.cons (.agg (uQ ht f)) (.cons (.agg (p8 x)) .nil)) (Tr.s _) ?_;rw[ais,ait];refine aw ?_;refine au ?_;refine ab (aO (bw [(0,bL f hd,208),(1,bl x,66)] eH (l:=[(2,.pt (bL f hd)),(3,.pt (bl x))]) eH) (aC (aj ?_)));refine af ?_;refine ab (mN ?_);refine dE (fun s=>Ghost prog s ⟨az [(2,.pt (bL f hd)),(3,.pt (bl x)),(6,U8 x.op),(7,B (aN [30,31,32,33,34] x.op))],fun _=>none,2⟩) (aj ?_) fun s hg=>⟨_,hg,?_⟩
 .refine af ?_;refine ab (aq rfl (fun h=>aZ (av ⟨rfl,rfl,rfl,cG h oC,trivial⟩)) fun C=>aj ?_);refine af ?_;refine ab (aq rfl (fun h=>aZ (av ⟨rfl,rfl,rfl,cG h oC,trivial⟩)) fun J=>aj ?_);refine af ?_;refine ab (aq rfl (fun h=>aZ (av ⟨rfl,rfl,rfl,cG h oC,trivial⟩)) fun M=>aj ?_);refine af ?_;refine ab (aq rfl (fun h=>aZ (av ⟨rfl,rfl,rfl,cG h oC,trivial⟩)) fun U=>kK ?_);refine af ?_;refine ab (av ⟨rfl,rfl,rfl,?_,trivial⟩);show D.s (.bool (x.op==34))=_;simp only[aN,List.any_cons,List.any_nil,C,J,M,U,Bool.false_or,Bool.or_false]
 refine aq rfl (fun h0=>aj ?_) fun h0=>aj ?_
 .have bV:PCall prog 214 [.agg (bl x),S ⟨#[116,97,98]⟩] (B (bK x [116,97,98])):=bV oC;refine SS ?_;refine cl bV ?_;refine aP ?_;refine gc bH ?_;refine aK ?_;refine gc bH ?_;refine aK ?_;refine gc bH ?_;refine af ?_;refine ab (aV (bx (aT (ay (d:=.s (.bool _)) rfl ?_))));have e:ko f x=(bK x [116,97,98]&&(bf f x.to 119&&(bf f x.a 119&&bf f x.b 119))):=by rw[ko,if_pos h0]
  rw[e];simp only[gj,Bool.and_assoc,aQ]
 refine af ?_;refine ab (aq rfl (fun h1=>aj ?_) fun h1=>aj ?_)
 .have bV:PCall prog 214 [.agg (bl x),S ⟨#[97,98]⟩] (B (bK x [97,98])):=bV oC;refine SS ?_;refine cl bV ?_;refine aP ?_;refine gc bH ?_;refine aK ?_;refine gc bH ?_;refine af ?_;refine ab (aV (bx (aT (ay (d:=.s (.bool _)) rfl ?_))));have e:ko f x=(bK x [97,98]&&(bf f x.a 114&&bf f x.b 118)):=by rw[ko,if_neg (by rw[h0];decide),if_pos (by simpa using h1)]
  rw[e];simp only[gj,Bool.and_assoc,aQ]
 have h1:¬ x.op=35:=by simpa using h1
 refine af ?_;refine ab (aq rfl (fun h2=>aj ?_) fun h2=>aj ?_)
 .have bV:PCall prog 214 [.agg (bl x),S ⟨#[116,97]⟩] (B (bK x [116,97])):=bV oC;refine SS ?_;refine cl bV ?_;refine aP ?_;refine gc bH ?_;refine aK ?_;refine gc bH ?_;refine af ?_;refine ab (aV (bx (aT (ay (d:=.s (.bool _)) rfl ?_))));have e:ko f x=(bK x [116,97]&&(bf f x.to 118&&bf f x.a 114)):=by rw[ko,if_neg (by rw[h0];decide),if_neg h1,if_pos (by simpa using h2)]
  rw[e];simp only[gj,Bool.and_assoc,aQ]
 have h2:¬ x.op=36:=by simpa using h2
 refine af ?_;refine ab (aq rfl (fun h3=>aj ?_) fun h3=>aj ?_)
 .have bV:PCall prog 214 [.agg (bl x),S ⟨#[116,97,98]⟩] (B (bK x [116,97,98])):=bV oC;refine SS ?_;refine cl bV ?_;refine aP ?_;refine gc bH ?_;refine aK ?_;refine gc bH ?_;refine aK ?_;refine gc bH ?_;refine af ?_;refine ab (aV (bx (aT (ay (d:=.s (.bool _)) rfl ?_))));have e:ko f x=(bK x [116,97,98]&&(bf f x.to 118&&(bf f x.a 114&&bf f x.b 119))):=by rw[ko,if_neg (by rw[h0];decide),if_neg h1,if_neg h2,if_pos (by simpa using h3)]
  rw[e];simp only[gj,Bool.and_assoc,aQ]
 have h3:¬ x.op=37:=by simpa using h3
 refine af ?_;refine ab (aq rfl (fun h4=>aj ?_) fun h4=>mn (aj ?_))
 .have bV:PCall prog 214 [.agg (bl x),S ⟨#[97,98,108]⟩] (B (bK x [97,98,108])):=bV oC;refine SS ?_;refine cl bV ?_;refine aP ?_;refine gc bH ?_;refine aK ?_;refine gc bH ?_;refine aL ?_;refine af ?_;refine gc tP ?_;refine af ?_;refine ab (aV (bx (aT (ay (d:=.s (.bool _)) rfl ?_))));have e:ko f x=(bK x [97,98,108]&&(bf f x.a 114&&(bf f x.b 119&&(aQ x.args.length 1&&fQ f.ag x.args)))):=by rw[ko,if_neg (by rw[h0];decide),if_neg h1,if_neg h2,if_neg h3,if_pos (by simpa using h4)]
  rw[e];simp only[gj,Bool.and_assoc,aQ];rfl
 have h4:¬ x.op=38:=by simpa using h4
 refine SS ?_;refine ab (ay (d:=.s (.bool _)) rfl ?_);rw[ko,if_neg (by rw[h0];decide),if_neg h1,if_neg h2,if_neg h3,if_neg h4]
end
theorem r7{f:aF}{L:List (List Int)}{b:Nat}{A:List Int}{x:bt}(hb:L[b]? =some A)(hl:f.aR.length<=60)(hs:∀ k∈f.aR,k=1\/k=2)(hL:L.length<=100000):
 PCall prog 171 [.agg (bL f (bp L)),.agg (bl x),I b] (B (dv f b A.length x)):=by
 have ht:=sT L;have c7:(bp L).one=true:=rfl;have bH:∀ {r k:Int},PCall prog 215 [.agg (bL f (bp L)),I r,U8 k] (B (bf f r k)):=fun {r k}=>bH ht c7;have yM:∀ {a b:Int},PCall prog 216 [.agg (bL f (bp L)),I a,I b] (B (jI f a b)):=fun {a b}=>yM ht c7;have tP:∀ {l:List Int},PCall prog 217 [.agg (bL f (bp L)),ax l] (B (fQ f.ag l)):=fun {l}=>tP ht c7;have Gj:∀ {n r:Int},PCall prog 218 [.agg (bL f (bp L)),I n,I r] (B (lK f.ag f.aR r n)):=fun {n r}=>Gj ht c7 hl hs;have fZ:∀ {n a b:Int},PCall prog 212 [I n,I a,I b] (B (cJ n a b)):=fun {n a b}=>fZ;have aW:∀ a∈[D.agg (bL f (bp L)),.agg (bl x),I b],Tr a:=.cons (.agg (uQ ht f)) (.cons (.agg (p8 x)) (.cons (.s _) .nil));refine mM JR.he aW fun fA=>?_;have hlen:x.args.length<=maxLen:=((fA _ (List.mem_cons_of_mem _ (List.mem_cons_self ..))).agg (ax x.args) (by simp[bl])).sl.1;unfold maxLen at hlen;refine a9 mixed JR (by rw[aiu];rfl) aW (Tr.s _) ?_;rw[aiv,aiw];refine aw ?_;refine au ?_;refine ab (aO (bw [(0,bL f (bp L),208),(1,bl x,66)] eH (l:=[(2,I b),(3,.pt (bL f (bp L))),(4,.pt (bl x))]) eH) (aC (aj ?_)));refine af ?_;refine ab (mN ?_);refine ws ?_;refine af ?_;refine ab (aq rfl (fun h0=>?_) fun h0=>?_)
 .refine ws ?_;have bV:PCall prog 214 [.agg (bl x),S ⟨#[116,110]⟩] (B (bK x [116,110])):=bV oC;refine SS ?_;refine cl bV ?_;refine aP ?_;refine gc bH ?_;refine aP ?_;refine gc fZ ?_;refine af ?_;refine ab (aV (bx (aT (ay (d:=.s (.bool _)) rfl ?_))));have e:dv f b A.length x=(bK x [116,110]&&(bf f x.to 119&&cJ x.n (-1000000000) 1000000000)):=by rw[dv,if_pos (by simpa using h0)]
  rw[e];simp only[gj,Bool.and_assoc,aQ]
 have h0:¬ x.op=1:=by simpa using h0
 refine ws ?_;refine af ?_;refine ab (aq rfl (fun h1=>?_) fun h1=>?_)
 .refine ws ?_;have bV:PCall prog 214 [.agg (bl x),S ⟨#[116,97]⟩] (B (bK x [116,97])):=bV oC;refine SS ?_;refine cl bV ?_;refine bD ?_;refine gc yM ?_;refine af ?_;refine ab (aV (bx (aT (ay (d:=.s (.bool _)) rfl ?_))));have e:dv f b A.length x=(bK x [116,97]&&jI f x.to x.a):=by rw[dv,if_neg h0,if_pos (by simpa using h1)]
  rw[e];simp only[gj,Bool.and_assoc,aQ]
 have h1:¬ x.op=2:=by simpa using h1
 refine dE (fun s=>Ghost prog s ⟨az [(2,I b),(3,.pt (bL f (bp L))),(4,.pt (bl x)),(9,U8 x.op),(37,B (aN [3,4,6,7] x.op))],fun _=>none,2⟩) (aj ?_) fun s hg=>⟨_,hg,?_⟩
 .refine af ?_;refine ab (aq rfl (fun h=>aZ (av ⟨rfl,rfl,rfl,rfl,cG h oC,trivial⟩)) fun e3=>aj ?_);refine af ?_;refine ab (aq rfl (fun h=>aZ (av ⟨rfl,rfl,rfl,rfl,cG h oC,trivial⟩)) fun e4=>aj ?_);refine af ?_;refine ab (aq rfl (fun h=>aZ (av ⟨rfl,rfl,rfl,rfl,cG h oC,trivial⟩)) fun e6=>kK ?_);refine af ?_;refine ab (av ⟨rfl,rfl,rfl,rfl,?_,trivial⟩);show D.s (.bool (x.op==7))=_;simp only[aN,List.any_cons,List.any_nil,e3,e4,e6,Bool.false_or,Bool.or_false]
 refine aq rfl (fun h2=>aj ?_) fun h2=>?_
 .have bV:PCall prog 214 [.agg (bl x),S ⟨#[116,97,98]⟩] (B (bK x [116,97,98])):=bV oC;refine SS ?_;refine cl bV ?_;refine aP ?_;refine gc bH ?_;refine aK ?_;refine gc bH ?_;refine aK ?_;refine gc bH ?_;refine af ?_;refine ab (aV (bx (aT (ay (d:=.s (.bool _)) rfl ?_))));have e:dv f b A.length x=(bK x [116,97,98]&&(bf f x.to 119&&(bf f x.a 119&&bf f x.b 119))):=by rw[dv,if_neg h0,if_neg h1,if_pos h2]
  rw[e];simp only[gj,Bool.and_assoc,aQ]
 refine ws ?_;refine af ?_;refine ab (aq rfl (fun h3=>?_) fun h3=>?_)
 .refine ws ?_;have bV:PCall prog 214 [.agg (bl x),S ⟨#[116,97,98]⟩] (B (bK x [116,97,98])):=bV oC;refine SS ?_;refine cl bV ?_;refine aP ?_;refine gc bH ?_;refine c8 ?_;refine gc yM ?_;refine af ?_;refine ab (aV (bx (aT (ay (d:=.s (.bool _)) rfl ?_))));have e:dv f b A.length x=(bK x [116,97,98]&&(bf f x.to 119&&jI f x.a x.b)):=by rw[dv,if_neg h0,if_neg h1,if_neg (by rw[h2];decide),if_pos (by simpa using h3)]
  rw[e];simp only[gj,Bool.and_assoc,aQ]
 have h3:¬ x.op=5:=by simpa using h3
 refine ws ?_;refine af ?_;refine ab (aq rfl (fun h4=>?_) fun h4=>?_)
 .refine ws ?_;have bV:PCall prog 214 [.agg (bl x),S ⟨#[116,97]⟩] (B (bK x [116,97])):=bV oC;refine SS ?_;refine cl bV ?_;refine aP ?_;refine gc bH ?_;refine aK ?_;refine gc bH ?_;refine af ?_;refine ab (aV (bx (aT (ay (d:=.s (.bool _)) rfl ?_))));have e:dv f b A.length x=(bK x [116,97]&&(bf f x.to 119&&bf f x.a 119)):=by rw[dv,if_neg h0,if_neg h1,if_neg (by rw[h2];decide),if_neg h3,if_pos (by simpa using h4)]
  rw[e];simp only[gj,Bool.and_assoc,aQ]
 have h4:¬ x.op=8:=by simpa using h4
 refine ws ?_;refine af ?_;refine ab (aq rfl (fun h5=>?_) fun h5=>?_)
 .refine ws ?_;have bV:PCall prog 214 [.agg (bl x),S ⟨#[116,110]⟩] (B (bK x [116,110])):=bV oC;refine SS ?_;refine cl bV ?_;refine aP ?_;refine gc bH ?_;refine aP ?_;refine gc fZ ?_;refine af ?_;refine ab (aV (bx (aT (ay (d:=.s (.bool _)) rfl ?_))));have e:dv f b A.length x=(bK x [116,110]&&(bf f x.to 114&&cJ x.n 0 1)):=by rw[dv,if_neg h0,if_neg h1,if_neg (by rw[h2];decide),if_neg h3,if_neg h4,if_pos (by simpa using h5)]
  rw[e];simp only[gj,Bool.and_assoc,aQ]
 have h5:¬ x.op=9:=by simpa using h5
 refine ws ?_;refine af ?_;refine ab (aq rfl (fun C=>?_) fun C=>?_)
 .refine ws ?_;have bV:PCall prog 214 [.agg (bl x),S ⟨#[116,110,108]⟩] (B (bK x [116,110,108])):=bV oC;refine SS ?_;refine cl bV ?_;refine aP ?_;refine gc bH ?_;refine aP ?_;refine gc fZ ?_;refine aK ?_;refine gc fZ ?_;refine aK ?_;refine gc tP ?_;refine af ?_;refine ab (aV (bx (aT (ay (d:=.s (.bool _)) rfl ?_))));have e:dv f b A.length x=(bK x [116,110,108]&&(bf f x.to 114&&(cJ x.n 0 5&&(cJ x.args.length 1 6&&fQ f.ag x.args)))):=by rw[dv,if_neg h0,if_neg h1,if_neg (by rw[h2];decide),if_neg h3,if_neg h4,if_neg h5,if_pos (by simpa using C)]
  rw[e];simp only[gj,Bool.and_assoc,aQ]
 have C:¬ x.op=10:=by simpa using C
 refine ws ?_;refine af ?_;refine ab (aq rfl (fun J=>?_) fun J=>?_)
 .refine ws ?_;have bV:PCall prog 214 [.agg (bl x),S ⟨#[116,97,110]⟩] (B (bK x [116,97,110])):=bV oC;refine SS ?_;refine cl bV ?_;refine aP ?_;refine gc bH ?_;refine aK ?_;refine gc bH ?_;refine aP ?_;refine gc fZ ?_;refine af ?_;refine ab (aV (bx (aT (ay (d:=.s (.bool _)) rfl ?_))));have e:dv f b A.length x=(bK x [116,97,110]&&(bf f x.to 118&&(bf f x.a 114&&cJ x.n 0 5))):=by rw[dv,if_neg h0,if_neg h1,if_neg (by rw[h2];decide),if_neg h3,if_neg h4,if_neg h5,if_neg C,if_pos (by simpa using J)]
  rw[e];simp only[gj,Bool.and_assoc,aQ]
 have J:¬ x.op=11:=by simpa using J
 refine ws ?_;refine af ?_;refine ab (aq rfl (fun M=>?_) fun M=>?_)
 .refine ws ?_;have bV:PCall prog 214 [.agg (bl x),S ⟨#[97,98,110]⟩] (B (bK x [97,98,110])):=bV oC;refine SS ?_;refine cl bV ?_;refine aP ?_;refine gc bH ?_;refine aK ?_;refine gc bH ?_;refine aP ?_;refine gc fZ ?_;refine af ?_;refine ab (aV (bx (aT (ay (d:=.s (.bool _)) rfl ?_))));have e:dv f b A.length x=(bK x [97,98,110]&&(bf f x.a 114&&(bf f x.b 118&&cJ x.n 0 5))):=by rw[dv,if_neg h0,if_neg h1,if_neg (by rw[h2];decide),if_neg h3,if_neg h4,if_neg h5,if_neg C,if_neg J,if_pos (by simpa using M)]
  rw[e];simp only[gj,Bool.and_assoc,aQ]
 have M:¬ x.op=12:=by simpa using M
 refine dE (fun s=>Ghost prog s ⟨az [(2,I b),(3,.pt (bL f (bp L))),(4,.pt (bl x)),(9,U8 x.op),(180,B (aN [13,14] x.op))],fun _=>none,2⟩) (aj ?_) fun s hg=>⟨_,hg,?_⟩
 .refine af ?_;refine ab (aq rfl (fun h=>aZ (av ⟨rfl,rfl,rfl,rfl,cG h oC,trivial⟩)) fun vH=>kK ?_);refine af ?_;refine ab (av ⟨rfl,rfl,rfl,rfl,?_,trivial⟩);show D.s (.bool (x.op==14))=_;simp only[aN,List.any_cons,List.any_nil,vH,Bool.false_or,Bool.or_false]
 refine aq rfl (fun X=>aj ?_) fun X=>?_
 .have bV:PCall prog 214 [.agg (bl x),S ⟨#[116,97]⟩] (B (bK x [116,97])):=bV oC;refine SS ?_;refine cl bV ?_;refine aP ?_;refine gc bH ?_;refine aK ?_;refine gc bH ?_;refine af ?_;refine ab (aV (bx (aT (ay (d:=.s (.bool _)) rfl ?_))));have e:dv f b A.length x=(bK x [116,97]&&(bf f x.to 119&&bf f x.a 114)):=by rw[dv,if_neg h0,if_neg h1,if_neg (by rw[h2];decide),if_neg h3,if_neg h4,if_neg h5,if_neg C,if_neg J,if_neg M,if_pos X]
  rw[e];simp only[gj,Bool.and_assoc,aQ]
 refine ws ?_;refine af ?_;refine ab (aq rfl (fun U=>?_) fun U=>?_)
 .refine ws ?_;have bV:PCall prog 214 [.agg (bl x),S ⟨#[97]⟩] (B (bK x [97])):=bV oC;refine SS ?_;refine cl bV ?_;refine aP ?_;refine gc bH ?_;refine af ?_;refine ab (aV (bx (aT (ay (d:=.s (.bool _)) rfl ?_))));have e:dv f b A.length x=(bK x [97]&&bf f x.a 119):=by rw[dv,if_neg h0,if_neg h1,if_neg (by rw[h2];decide),if_neg h3,if_neg h4,if_neg h5,if_neg C,if_neg J,if_neg M,if_neg (by rw[X];decide),if_pos (by simpa using U)]
  rw[e];simp only[gj,Bool.and_assoc,aQ]
 have U:¬ x.op=15:=by simpa using U
 refine ws ?_;refine af ?_;refine ab (aq rfl (fun ou=>?_) fun ou=>?_)
 .refine ws ?_;have bV:PCall prog 214 [.agg (bl x),S ⟨#[97]⟩] (B (bK x [97])):=bV oC;refine SS ?_;refine cl bV ?_;refine aP ?_;refine gc bH ?_;refine af ?_;refine ab (aV (bx (aT (ay (d:=.s (.bool _)) rfl ?_))));have e:dv f b A.length x=(bK x [97]&&bf f x.a 105):=by rw[dv,if_neg h0,if_neg h1,if_neg (by rw[h2];decide),if_neg h3,if_neg h4,if_neg h5,if_neg C,if_neg J,if_neg M,if_neg (by rw[X];decide),if_neg U,if_pos (by simpa using ou)]
  rw[e];simp only[gj,Bool.and_assoc,aQ]
 have ou:¬ x.op=16:=by simpa using ou
 refine ws ?_;refine af ?_;refine ab (aq rfl (fun pQ=>?_) fun pQ=>?_)
 .refine ws ?_;have bV:PCall prog 214 [.agg (bl x),S ⟨#[116,110]⟩] (B (bK x [116,110])):=bV oC;refine SS ?_;refine cl bV ?_;refine bD ?_;refine gc Gj ?_;refine af ?_;refine ab (aV (bx (aT (ay (d:=.s (.bool _)) rfl ?_))));have e:dv f b A.length x=(bK x [116,110]&&lK f.ag f.aR x.to x.n):=by rw[dv,if_neg h0,if_neg h1,if_neg (by rw[h2];decide),if_neg h3,if_neg h4,if_neg h5,if_neg C,if_neg J,if_neg M,if_neg (by rw[X];decide),if_neg U,if_neg ou,if_pos (by simpa using pQ)]
  rw[e];simp only[gj,Bool.and_assoc,aQ]
 have pQ:¬ x.op=17:=by simpa using pQ
 refine ws ?_;refine af ?_;refine ab (aq rfl (fun vM=>?_) fun vM=>?_)
 .refine ws ?_;have bV:PCall prog 214 [.agg (bl x),S ⟨#[97,110]⟩] (B (bK x [97,110])):=bV oC;refine SS ?_;refine cl bV ?_;refine bD ?_;refine gc Gj ?_;refine af ?_;refine ab (aV (bx (aT (ay (d:=.s (.bool _)) rfl ?_))));have e:dv f b A.length x=(bK x [97,110]&&lK f.ag f.aR x.a x.n):=by rw[dv,if_neg h0,if_neg h1,if_neg (by rw[h2];decide),if_neg h3,if_neg h4,if_neg h5,if_neg C,if_neg J,if_neg M,if_neg (by rw[X];decide),if_neg U,if_neg ou,if_neg pQ,if_pos (by simpa using vM)]
  rw[e];simp only[gj,Bool.and_assoc,aQ]
 have vM:¬ x.op=18:=by simpa using vM
 refine ws ?_;refine af ?_;refine ab (aq rfl (fun D7=>?_) fun D7=>?_)
 .have bV:PCall prog 214 [.agg (bl x),S ⟨#[116,108]⟩] (B (bK x [116,108])):=bV oC;have hv:dv f b A.length x=(!aQ b 0&&(bK x [116,108]&&(bf f x.to 118&&(aQ x.args.length A.length&&x.args.all (jI f x.to))))):=by rw[dv,if_neg h0,if_neg h1,if_neg (by rw[h2];decide),if_neg h3,if_neg h4,if_neg h5,if_neg C,if_neg J,if_neg M,if_neg (by rw[X];decide),if_neg U,if_neg ou,if_neg pQ,if_neg vM,if_pos (by simpa using D7)]
  rw[hv];clear hv;have JS:=bV;have JT:= @bH x.to 118;have aix:= @yM x.to;generalize bK x [116,108]=lv at JS ⊢;generalize bf f x.to 118=iv at JT ⊢;refine aC (dm Y' ?_);have bV:=JS;have bH:=JT;by_cases GY:b=0
  .have fh:((b:Int)==0)=true:=by simp[GY]
   have e0:aQ b 0=true:=by simp[aQ,GY]
   rw[e0];refine aP ?_;refine gc bV ?_;refine bD ?_;refine gc bH ?_;refine aL ?_;refine aK ?_;refine bk (by simp[apartT]) (bh rfl (fun hp=>?_) fun hp=>(by cases hp));refine aC (aj ?_);refine SS ?_;refine ab (cU (bx (aT (ay (d:=B false) rfl ?_))));rfl
  have fh:((b:Int)==0)=false:=by simp[GY]
  have e0:aQ b 0=false:=by simp[aQ,GY]
  rw[e0];refine aP ?_;refine gc bV ?_;refine bD ?_;refine gc bH ?_;refine aL ?_;refine aK ?_;refine bk (by simp[apartT]) (bh rfl (fun hp=>?_) fun hp=>bS ?_)
  .refine aC (aj ?_);refine SS ?_;refine ab (cU (bx (aT (ay (d:=B false) rfl ?_))))
   have:(lv&&(iv&&aQ x.args.length A.length))=false:=by
    revert hp;cases lv<;>cases iv<;>simp[aQ]
   revert this;generalize x.args.all (jI f x.to)=q;generalize aQ x.args.length A.length=r;cases lv<;>cases iv<;>cases r<;>simp
  have n4:lv=true/\iv=true/\aQ x.args.length A.length=true:=by
   revert hp;cases lv<;>cases iv<;>simp[aQ]
  obtain⟨rfl,rfl,e1⟩:=n4;rw[e1];show AW _ _ _ _ (blockQ _ (seqQ _ (retQ _ _ (fun d _=>d=B (x.args.all (jI f x.to)))))) _;clear JS JT bV bH hp e1 e0 fh;refine aC (aw ?_);refine SS ?_
  refine ab (bO (fun s=>Ghost prog s ⟨az [],fun _=>none,2⟩/\∀ (j:Nat) y,x.args[j]? =some y->jI f x.to y=true) (b8 (α:=Nat) (fun k=>⟨az [(3,.pt (bL f (bp L))),(4,.pt (bl x)),(7,I k)],fun _=>none,2⟩)
   (fun k=>k<=x.args.length/\∀ j y,j<k->x.args[j]? =some y->jI f x.to y=true) (fun k=>x.args.length - k) 0 (av eH) ⟨by omega,fun j y hj=>by omega⟩ ?_) ?_)
  .rintro k ⟨hk,hinv⟩;refine aK ?_;refine ab ⟨_,rfl,fun h=>?_,fun h=>?_⟩
   .have ao:k<x.args.length:=by simpa using h
    have hx:x.args[k]? =some x.args[k]:=List.getElem?_eq_getElem ao;generalize x.args[k]=y at hx;have yM:= @aix y;refine dm Za ?_;refine bF ?_;refine cl yM ?_;refine SS ?_;refine bk (by simp[apartT]) (aq rfl (fun hp=>?_) fun hp=>?_)
    .refine ws ?_;refine SS ?_;refine ab (aV (cq (aT (bx (aT (ay (d:=B false) rfl ?_))))));have:x.args.all (jI f x.to)=false:=List.all_eq_false.2 ⟨y,List.mem_of_getElem? hx,by simpa using hp⟩;rw[this]
    .refine cg ?_;refine au ?_;refine ab (aJ (k+1) (av eH) ⟨by omega,fun j z hj hz=>?_⟩ oG);by_cases e:j=k
     .subst e;rw[hx] at hz;cases hz;simpa using hp
     .exact hinv j z oG hz
   .have aX:¬ k<x.args.length:=by simpa using h
    exact⟨.forget _ _ _ _ fun _=>.inr rfl,fun j y hy=>hinv j y (by have:=(List.getElem?_eq_some_iff.1 hy).1;omega) hy⟩
  .rintro s ⟨hg,br⟩;refine⟨_,hg,aj ?_⟩;refine SS ?_;refine ab (aV (bx (aT (ay (d:=B true) rfl ?_))))
   have:x.args.all (jI f x.to)=true:=List.all_eq_true.2 fun y hy=>by
    obtain⟨j,hj⟩:=List.getElem?_of_mem hy;exact br j y hj
   rw[this]
 have D7:¬ x.op=19:=by simpa using D7
 refine mn (aj ?_);refine SS ?_;refine ab (ay (d:=.s (.bool _)) rfl ?_);rw[dv,if_neg h0,if_neg h1,if_neg (by rw[h2];decide),if_neg h3,if_neg h4,if_neg h5,if_neg C,if_neg J,if_neg M,if_neg (by rw[X];decide),if_neg U,if_neg ou,if_neg pQ,if_neg vM,if_neg D7]
section
variable{f:aF}{hd:D}(ht:Tr hd)(c7:hd.one=true)
include ht c7
theorem Dd{x:Argus.End}(hw:∀ w∈x.aI,w.name.size<=maxLen)(hn:f.blocks.length<=1200):PCall prog 221 [.agg (bL f hd),.agg (bc x)] (B (me f x)):=by
 have gl:∀ {b:Int},PCall prog 170 [.agg (bL f hd),I b] (B (bU f b)):=fun {b}=>gl ht c7 hn;have aW:∀ a∈[D.agg (bL f hd),.agg (bc x)],Tr a:=.cons (.agg (uQ ht f)) (.cons (.agg (kH x)) .nil);refine a9 mixed Uu (by rw[aiy];rfl) aW (Tr.s _) ?_;rw[aiz,aiA];refine aw ?_;refine au ?_;refine ab (aO (bw [(0,bL f hd,208),(1,bc x,69)] eH (l:=[(2,.pt (bL f hd)),(3,.pt (bc x))]) eH) (aC (aj ?_)));have hh:me f x=(Fu f x.aI&&(decide ((x.aI.length:Int)<=7)&&(decide (x.cx= -1)||bU f x.cx))):=rfl;rw[hh];clear hh;generalize X:bU f x.cx=bo;have U:PCall prog 170 [.agg (bL f hd),I x.cx] (B bo):=X▸gl;clear X;have M:= @gl;clear gl;have gl:=U;refine aL ?_;refine au ?_;refine gc gl ?_;refine au ?_;refine ab (bh rfl (fun h=>?_) fun h=>bS (aC (aw ?_)))
 .refine aC (aj ?_);refine SS ?_;refine ab (cU (ay (d:=B false) rfl ?_))
  have h2:(decide ((x.aI.length:Int)<=7)&&(decide (x.cx= -1)||bo))=false:=by
   revert h;cases bo<;>simp<;>grind
  rw[h2,Bool.and_false]
 have h2:(decide ((x.aI.length:Int)<=7)&&(decide (x.cx= -1)||bo))=true:=by
  revert h;cases bo<;>simp<;>grind
 have h7:x.aI.length<=7:=by
  rw[Bool.and_eq_true,decide_eq_true_eq] at h2;omega
 rw[h2,Bool.and_true];clear h h2 gl U;refine SS ?_
 refine ab (bO (fun s=>Ghost prog s ⟨az [],fun _=>none,2⟩/\∀ (j:Nat) y,x.aI[j]? =some y->nW f x.aI j y=true) (b8 (α:=Nat) (fun k=>⟨az [(2,.pt (bL f hd)),(3,.pt (bc x)),(5,I k)],fun _=>none,2⟩)
  (fun k=>k<=x.aI.length/\∀ j y,j<k->x.aI[j]? =some y->nW f x.aI j y=true) (fun k=>x.aI.length - k) 0 (av eH) ⟨by omega,fun j y hj=>by omega⟩ ?_) ?_)
 .rintro k ⟨hk,hinv⟩;refine aK ?_;refine ab ⟨_,rfl,fun h=>?_,fun h=>?_⟩
  .have ao:k<x.aI.length:=by simpa using h
   have hx:x.aI[k]? =some x.aI[k]:=List.getElem?_eq_getElem ao;have nq:=nq (hw _ (List.getElem_mem ao));generalize x.aI[k]=w at hx nq;have J:nW f x.aI k w=(isName w.name&&(bU f w.to&& !(x.aI.take k).any fun v=>v.name.toList==w.name.toList)):=rfl;have gl:= @M w.to;generalize isName w.name=a at nq J;generalize bU f w.to=b at gl J;refine aC (dm aae ?_);refine bD ?_;refine cl nq ?_;refine bD ?_;refine bG rfl rfl (rz rfl rfl V.h V.h (Bs) oN) (fun hc=>⟨ak,(rA V.h (Bs) oN)⟩) ?_;refine af ?_;refine gc gl ?_;refine af ?_;refine bk (by simp[apartT]) (bh rfl (fun hp=>?_) fun hp=>bS (aw ?_))
   .refine aC (aj ?_);refine SS ?_;refine ab (cU (cq (aT (ay (d:=B false) rfl ?_))))
    have:nW f x.aI k w=false:=by
     rw[J];revert hp;cases a<;>cases b<;>simp
    rw[Hh hx this]
   have fp:a=true/\b=true:=by revert hp;cases a<;>cases b<;>simp
   obtain⟨rfl,rfl⟩:=fp;refine SS ?_
   refine ab (b8 (α:=Nat) (fun q=>⟨az [(2,.pt (bL f hd)),(3,.pt (bc x)),(5,I k),(6,I q)],fun _=>none,2⟩)
    (fun q=>q<=k/\∀ j y,j<q->x.aI[j]? =some y->(y.name.toList==w.name.toList)=false) (fun q=>k - q) 0 (av eH) ⟨by omega,fun j y hj=>by omega⟩ ?_)
   rintro q ⟨hq,lX⟩;refine au ?_;refine ab ⟨_,rfl,fun h=>?_,fun h=>?_⟩
   .have y9:q<k:=by simpa using h
    have hy:x.aI[q]? =some x.aI[q]:=List.getElem?_eq_getElem oG;generalize x.aI[q]=y at hy;refine dm Zb ?_;refine aL ?_;refine au ?_;refine aH (IU rfl rfl) ak trivial ?_;refine bk (by simp[apartT]) (aq rfl (fun hp=>?_) fun hp=>?_)
    .refine ws ?_;refine SS ?_;refine ab (aV (cq (cq (aT (ay (d:=B false) rfl ?_)))))
     have:nW f x.aI k w=false:=by
      rw[J,List.any_eq_true.2 ⟨y,List.mem_of_getElem? (i:=q) (by rw[List.getElem?_take,if_pos y9,hy]),hp⟩];rfl
     rw[Hh hx this]
    .refine cg ?_;refine au ?_;refine ab (aJ (q+1) (av eH) ⟨by omega,fun j z hj C=>?_⟩ oG);by_cases e:j=q
     .subst e;rw[hy] at C;cases C;exact hp
     .exact lX j z oG C
   .have aX:¬ q<k:=by simpa using h
    have:q=k:=by omega
    subst this;show AOps _ _ _ _ _ _ _ _ _;refine au ?_;refine ab (aJ (q+1) (av eH) ⟨by omega,fun j z hj C=>?_⟩ oG);by_cases e:j=q
    .subst e;rw[hx] at C;cases C;rw[J]
     have:((x.aI.take j).any fun v=>v.name.toList==w.name.toList)=false:=List.any_eq_false.2 fun v hv=>by
      obtain⟨i,hi⟩:=List.getElem?_of_mem hv;have pC:i<j:=by have:=(List.getElem?_eq_some_iff.1 hi).1;simp at this;omega
      rw[List.getElem?_take,if_pos pC] at hi;rw[lX i v pC hi];simp
     rw[this];rfl
    .exact hinv j z oG C
  .have aX:¬ k<x.aI.length:=by simpa using h
   exact⟨.forget _ _ _ _ fun _=>.inr rfl,fun j y hy=>hinv j y (by have:=(List.getElem?_eq_some_iff.1 hy).1;omega) hy⟩
 .rintro s ⟨hg,br⟩;refine⟨_,hg,aj ?_⟩;refine SS ?_;refine ab (ay (d:=B true) rfl ?_);rw[MA br]
theorem Gm{x:Argus.End}(ze:x.name.size<=maxLen)(hw:∀ w∈x.aI,w.name.size<=maxLen)(hn:f.blocks.length<=1200):PCall prog 172 [.agg (bL f hd),.agg (bc x)] (B (gf f x)):=by
 have gl:∀ {b:Int},PCall prog 170 [.agg (bL f hd),I b] (B (bU f b)):=fun {b}=>gl ht c7 hn;have bH:∀ {r k:Int},PCall prog 215 [.agg (bL f hd),I r,U8 k] (B (bf f r k)):=fun {r k}=>bH ht c7;have tP:∀ {l:List Int},PCall prog 217 [.agg (bL f hd),ax l] (B (fQ f.ag l)):=fun {l}=>tP ht c7;have KG:PCall prog 220 [.agg (bL f hd),.agg (bl x.ins)] (B (ko f x.ins)):=KG ht c7;have Dd:=Dd ht c7 hw hn;have yL:=yL ze;have nq:=nq ze;have aW:∀ a∈[D.agg (bL f hd),.agg (bc x)],Tr a:=.cons (.agg (uQ ht f)) (.cons (.agg (kH x)) .nil);refine a9 mixed Uw (by rw[aiC];rfl) aW (Tr.s _) ?_;rw[aiD,aiE];refine ws ?_;refine au ?_;refine ab (aw ?_);refine SS ?_;refine VW ?_;refine SS ?_;refine b9 (gR (cs':=aG _) rfl rfl rfl rfl) ak (cP V.h V.h (by first|(simp;done)|exact⟨rfl,Nat.le_of_ble_eq_true rfl⟩|(simp;omega)) (by rfl)) ?_;refine ab (aO (bw [(0,bL f hd,208),(1,bc x,69),(2,aG f,26)] eH (l:=[(2,.pt (bL f hd)),(3,.pt (bc x)),(5,.pt (aG f))]) eH) (aC (aj ?_)));refine af ?_;refine ab (mN ?_);refine ws ?_;refine af ?_;refine ab (aq rfl (fun h1=>?_) fun h1=>?_)
 .have h1:x.kind=1:=by simpa using h1
  have dX:PCall prog 219 [.agg (bc x),S ⟨#[116]⟩] (B (dk x [116])):=dX oC;refine ws ?_;refine SS ?_;refine cl dX ?_;refine aP ?_;refine gc gl ?_;refine af ?_;refine ab (aV (bx (aT (ay (d:=.s (.bool _)) rfl ?_))));have e:gf f x=(dk x [116]&&bU f x.to):=by rw[gf,if_pos h1]
  rw[e];simp only[gj,yf,Bool.and_assoc,aQ,ib]
 have h1:¬ x.kind=1:=by simpa using h1
 refine ws ?_;refine af ?_;refine ab (aq rfl (fun h2=>?_) fun h2=>?_)
 .have h2:x.kind=2:=by simpa using h2
  have dX:PCall prog 219 [.agg (bc x),S ⟨#[97,116,101]⟩] (B (dk x [97,116,101])):=dX oC;refine ws ?_;refine SS ?_;refine cl dX ?_;refine aP ?_;refine gc bH ?_;refine aK ?_;refine gc gl ?_;refine aK ?_;refine gc gl ?_;refine af ?_;refine ab (aV (bx (aT (ay (d:=.s (.bool _)) rfl ?_))));have e:gf f x=(dk x [97,116,101]&&(bf f x.a 119&&(bU f x.to&&bU f x.fm))):=by rw[gf,if_neg h1,if_pos h2]
  rw[e];simp only[gj,yf,Bool.and_assoc,aQ,ib]
 have h2:¬ x.kind=2:=by simpa using h2
 refine ws ?_;refine af ?_;refine ab (aq rfl (fun h3=>?_) fun h3=>?_)
 .have h3:x.kind=3:=by simpa using h3
  have dX:PCall prog 219 [.agg (bc x),S ⟨#[97]⟩] (B (dk x [97])):=dX oC;have hv:gf f x=if f.iter=true\/f.result=0 then dk x [97]&&aQ x.a (-1) else dk x [97]&&(bf f x.a 118&&aQ (bZ f.ag x.a) f.result):=by rw[gf,if_neg h1,if_neg h2,if_pos h3]
  rw[hv];clear hv;refine aC (aj ?_);refine c8 ?_;refine ab (bh rfl (fun h=>?_) fun h=>bS ?_)
  .have od:f.iter=true\/f.result=0:=by revert h;cases f.iter<;>simp
   rw[if_pos od];refine aC (aj ?_);refine SS ?_;refine cl dX ?_;refine bD ?_;refine ab (cU (bx (aT (ay (d:=.s (.bool _)) rfl ?_))));simp only[gj,aQ,ib]
  .have od:¬ (f.iter=true\/f.result=0):=by revert h;cases f.iter<;>simp
   rw[if_neg od];clear od h;obtain⟨xk,xa,xb,xt,xe,xn,xi,xs,xw,xo⟩:=x;dsimp only at*
   refine dm Zc ?_;generalize dk _ [97]=bv at dX;cases bv with
   |false=>
    refine SS ?_;refine cl dX ?_;refine SS ?_;(iterate 4 refine z fun _ _=>?_);refine af ?_;(iterate 9 refine z fun _ _=>?_);refine af ?_;exact bk (by simp[apartT]) (aV (bx (aT (ay rfl rfl))))
   |true=>
    have M:= @bH xa 118;cases hv:bf f xa 118 with
    |false=>
     rw[hv] at M;have bH:=M;refine SS ?_;refine cl dX ?_;refine aP ?_;refine gc bH ?_;refine af ?_;(iterate 9 refine z fun _ _=>?_);refine af ?_;exact bk (by simp[apartT]) (aV (bx (aT (ay rfl rfl))))
    |true=>
     rw[hv] at M;have bH:=M;obtain⟨i,hi,rfl⟩:=kG (nI hv);have hx:f.ag[i]? =some f.ag[i]:=List.getElem?_eq_getElem hi;have D1:=sX hx;rw[D1];generalize f.ag[i]=y at hx;refine SS ?_;refine cl dX ?_;refine aP ?_;refine gc bH ?_;refine aL ?_;refine aP ?_;refine bk (by simp[apartT]) (aV (bx (aT (ay (d:=.s (.bool _)) rfl ?_))));rfl
 have h3:¬ x.kind=3:=by simpa using h3
 refine ws ?_;refine af ?_;refine ab (aq rfl (fun h4=>?_) fun h4=>?_)
 .have h4:x.kind=4:=by simpa using h4
  have dX:PCall prog 219 [.agg (bc x),S ⟨#[110]⟩] (B (dk x [110])):=dX oC;refine ws ?_;refine SS ?_;refine cl dX ?_;refine au ?_;refine gc nq ?_;refine af ?_;refine ab (aV (bx (aT (ay (d:=.s (.bool _)) rfl ?_))));have e:gf f x=(dk x [110]&&isName x.name):=by rw[gf,if_neg h1,if_neg h2,if_neg h3,if_pos h4]
  rw[e];simp only[gj,yf,Bool.and_assoc,aQ,ib]
 have h4:¬ x.kind=4:=by simpa using h4
 refine ws ?_;refine af ?_;refine ab (aq rfl (fun h5=>?_) fun h5=>?_)
 .have h5:x.kind=5:=by simpa using h5
  have dX:PCall prog 219 [.agg (bc x),S ⟨#[116,105,104]⟩] (B (dk x [116,105,104])):=dX oC;refine ws ?_;refine SS ?_;refine cl dX ?_;refine aP ?_;refine gc KG ?_;refine aK ?_;refine gc gl ?_;refine aP ?_;refine gc Dd ?_;refine af ?_;refine ab (aV (bx (aT (ay (d:=.s (.bool _)) rfl ?_))));have e:gf f x=(dk x [116,105,104]&&(ko f x.ins&&(bU f x.to&&me f x))):=by rw[gf,if_neg h1,if_neg h2,if_neg h3,if_neg h4,if_pos h5]
  rw[e];simp only[gj,yf,Bool.and_assoc,aQ,ib]
 have h5:¬ x.kind=5:=by simpa using h5
 refine ws ?_;refine af ?_;refine ab (aq rfl (fun C=>?_) fun C=>?_)
 .have C:x.kind=6:=by simpa using C
  have dX:PCall prog 219 [.agg (bc x),S ⟨#[97,116,110,108,104]⟩] (B (dk x [97,116,110,108,104])):=dX oC;refine ws ?_;refine SS ?_;refine cl dX ?_;refine au ?_;refine gc yL ?_;refine aL ?_;refine af ?_;refine gc tP ?_;refine aL ?_;refine gc bH ?_;refine bD ?_;refine gc gl ?_;refine aP ?_;refine gc Dd ?_;refine af ?_;refine ab (aV (bx (aT (ay (d:=.s (.bool _)) rfl ?_))));have e:gf f x=(dk x [97,116,110,108,104]&&(kL x.name&&(decide ((x.args.length:Int)<=6)&&(fQ f.ag x.args&&((aQ x.a (-1)||bf f x.a 118)&&(bU f x.to&&me f x)))))):=by rw[gf,if_neg h1,if_neg h2,if_neg h3,if_neg h4,if_neg h5,if_pos C]
  rw[e];simp only[gj,yf,Bool.and_assoc,aQ,ib]
 have C:¬ x.kind=6:=by simpa using C
 refine ws ?_;refine af ?_;refine ab (aq rfl (fun J=>?_) fun J=>?_)
 .have J:x.kind=7:=by simpa using J
  have dX:PCall prog 219 [.agg (bc x),S ⟨#[97,116,110,108]⟩] (B (dk x [97,116,110,108])):=dX oC;refine ws ?_;refine SS ?_;refine cl dX ?_;refine au ?_;refine gc yL ?_;refine aL ?_;refine af ?_;refine gc tP ?_;refine aK ?_;refine gc bH ?_;refine aK ?_;refine gc gl ?_;refine af ?_;refine ab (aV (bx (aT (ay (d:=.s (.bool _)) rfl ?_))));have e:gf f x=(dk x [97,116,110,108]&&(kL x.name&&(decide ((x.args.length:Int)<=6)&&(fQ f.ag x.args&&(bf f x.a 105&&bU f x.to))))):=by rw[gf,if_neg h1,if_neg h2,if_neg h3,if_neg h4,if_neg h5,if_neg C,if_pos J]
  rw[e];simp only[gj,yf,Bool.and_assoc,aQ,ib]
 have J:¬ x.kind=7:=by simpa using J
 refine ws ?_;refine af ?_;refine ab (aq rfl (fun U=>?_) fun U=>?_)
 .have U:x.kind=8:=by simpa using U
  have dX:PCall prog 219 [.agg (bc x),S ⟨#[97,98,116,101,104]⟩] (B (dk x [97,98,116,101,104])):=dX oC;refine ws ?_;refine SS ?_;refine cl dX ?_;refine aP ?_;refine gc bH ?_;refine aK ?_;refine gc bH ?_;refine aK ?_;refine gc gl ?_;refine aK ?_;refine gc gl ?_;refine aP ?_;refine gc Dd ?_;refine af ?_;refine ab (aV (bx (aT (ay (d:=.s (.bool _)) rfl ?_))));have e:gf f x=(dk x [97,98,116,101,104]&&(bf f x.a 105&&(bf f x.b 118&&(bU f x.to&&(bU f x.fm&&me f x))))):=by rw[gf,if_neg h1,if_neg h2,if_neg h3,if_neg h4,if_neg h5,if_neg C,if_neg J,if_pos U]
  rw[e];simp only[gj,yf,Bool.and_assoc,aQ,ib]
 have U:¬ x.kind=8:=by simpa using U
 refine ws ?_;refine af ?_;refine ab (aq rfl (fun X=>?_) fun X=>?_)
 .have X:x.kind=9:=by simpa using X
  have dX:PCall prog 219 [.agg (bc x),S ⟨#[97,116]⟩] (B (dk x [97,116])):=dX oC;have hv:gf f x=(dk x [97,116]&&(f.iter&&(bf f x.a 118&&(aQ (bZ f.ag x.a) f.result&&bU f x.to)))):=by rw[gf,if_neg h1,if_neg h2,if_neg h3,if_neg h4,if_neg h5,if_neg C,if_neg J,if_neg U,if_pos X]
  rw[hv];clear hv;obtain⟨xk,xa,xb,xt,xe,xn,xi,xs,xw,xo⟩:=x;dsimp only at*
  refine dm Zd ?_;generalize dk _ [97,116]=bv at dX;have M:= @bH xa 118;have kb:= @gl xt;generalize bU f xt=bb at kb;have gl:=kb;cases bv with
  |false=>
   refine SS ?_;refine cl dX ?_;refine SS ?_;(iterate 2 refine z fun _ _=>?_);refine af ?_;(iterate 4 refine z fun _ _=>?_);refine af ?_;(iterate 9 refine z fun _ _=>?_);refine af ?_;(iterate 4 refine z fun _ _=>?_);refine af ?_;exact bk (by simp[apartT]) (aV (bx (aT (ay rfl rfl))))
  |true=>
   obtain⟨fnm,fi,fa,fr,fg,fs,fz,fb⟩:=f;dsimp only at*
   cases fi with
   |false=>
    refine SS ?_;refine cl dX ?_;refine aK ?_;(iterate 4 refine z fun _ _=>?_);refine af ?_;(iterate 9 refine z fun _ _=>?_);refine af ?_;(iterate 4 refine z fun _ _=>?_);refine af ?_;exact bk (by simp[apartT]) (aV (bx (aT (ay rfl rfl))))
   |true=>
    cases hv:bf ⟨fnm,true,fa,fr,fg,fs,fz,fb⟩ xa 118 with
    |false=>
     rw[hv] at M;have bH:=M;refine SS ?_;refine cl dX ?_;refine bF ?_;refine gc bH ?_;refine af ?_;(iterate 9 refine z fun _ _=>?_);refine af ?_;(iterate 4 refine z fun _ _=>?_);refine af ?_;exact bk (by simp[apartT]) (aV (bx (aT (ay rfl rfl))))
    |true=>
     rw[hv] at M;have bH:=M;obtain⟨i,hi,rfl⟩:=kG (nI hv);have hx:fg[i]? =some fg[i]:=List.getElem?_eq_getElem hi;have D1:=sX hx;rw[D1];generalize fg[i]=y at hx;cases xD:decide (y=fr) with
     |false=>
      have fh:(y==fr)=false:=by simpa using xD
      refine SS ?_;refine cl dX ?_;refine bF ?_;refine gc bH ?_;refine aL ?_;refine aP ?_;(iterate 4 refine z fun _ _=>?_);refine af ?_;refine bk (by simp[apartT]) (aV (bx (aT (ay (d:=.s (.bool _)) rfl ?_))));simp[aQ,xD]
     |true=>
      have fh:(y==fr)=true:=by simpa using xD
      refine SS ?_;refine cl dX ?_;refine bF ?_;refine gc bH ?_;refine aL ?_;refine c8 ?_;refine gc gl ?_;refine af ?_;refine bk (by simp[apartT]) (aV (bx (aT (ay (d:=.s (.bool _)) rfl ?_))));simp[aQ,xD]
 have X:¬ x.kind=9:=by simpa using X
 refine mn (aj ?_);refine SS ?_;refine ab (ay (d:=.s (.bool _)) rfl ?_);rw[gf,if_neg h1,if_neg h2,if_neg h3,if_neg h4,if_neg h5,if_neg C,if_neg J,if_neg U,if_neg X]
end
theorem jT{f:aF}{b:Nat}{x:Argus.bP}(hx:f.blocks[b]? =some x)(hw:x.fin.aI.length<=100):PCall prog 76 [.agg (aG f),I b] (ax (oX x.fin)):=by
 have qA:=qA (x:=x.fin) oG;have M:=Bw x.fin;refine a9 mixed V9 (by rw[amz];rfl) (.cons (.agg (gn f)) (.cons (.s _) .nil)) (cB _) ?_;rw[amA,amB];refine aw ?_;refine af ?_;refine ab (aO (bw [(0,aG f,26)] eH (l:=[(1,I b),(2,.pt (aG f))]) eH) (aw ?_));refine SS ?_;refine ab ⟨_,(Ghost.nilrow _ _ _ 5 3 rfl).trans (bw [(1,[],3)] ⟨up_same _ _ _,trivial⟩ (l:=[(1,I b),(2,.pt (aG f)),(5,ax [])]) ⟨rfl,rfl,j7 (sz:=1) c3 rfl,trivial⟩),aj ?_⟩;unfold oX;generalize de x.fin=l at qA M;refine bD ?_;refine cl qA ?_;refine SS ?_;refine ab (aC (aw ?_));refine SS ?_
 refine ab (bO (fun s=>Ghost prog s ⟨az [(5,ax (rN l))],fun _=>none,2⟩) (b8 (α:=Nat) (fun k=>⟨az [(5,ax (rN (l.take k))),(6,ax l),(7,I k)],fun _=>none,2⟩)
  (fun k=>k<=l.length) (fun k=>l.length - k) 0 (av eH) oG ?_) ?_)
 .intro k hk;have J:=(BA (l:=l.take k) (z:=[]) .nil).2.2;have C:∀ t,l[k]? =some t->rN (l.take (k+1))=eA (rN (l.take k)) t:=fun t ht=>iG ht;have U:k=l.length->rN (l.take k)=rN l:=fun e=>by rw[e,List.take_length]
  change (rN (l.take k)).length<=_ at J
  rw[List.length_take,List.length_nil] at J;generalize rN (l.take k)=c at J C U;refine aP ?_;refine ab ⟨_,rfl,fun h=>?_,fun h=>?_⟩
  .have ao:k<l.length:=by simpa using h
   have hy:l[k]? =some l[k]:=List.getElem?_eq_getElem ao;have C:=C _ hy;generalize l[k]=t at hy C;have pI:=pI (l:=c) (n:=t) oG;refine dz ?_;refine aK ?_;refine cl pI ?_;refine SS ?_;refine ab ?_;refine au ?_;refine ab (aJ (k+1) (av ⟨?_,rfl,rfl,trivial⟩) oG oG);rw[C];rfl
  .have X:¬ k<l.length:=by simpa using h
   rw[<- U oG];exact av eH
 .intro s hg;refine⟨_,hg,aj ?_⟩;refine af ?_;exact ab (ay rfl rfl)
set_option maxHeartbeats 1000000 in
theorem nF{f:aF}{n:Nat}(hn:f.blocks.length=n)(jR:n<=100000)(hw:∀ b∈f.blocks,b.fin.aI.length<=9)(ht:∀ b∈f.blocks,∀ t∈oX b.fin,0<=t/\t<n):
 PCall prog 56 [.agg (aG f)] (bp (iL f.blocks)):=by
 have aW:∀ a∈[D.agg (aG f)],Tr a:=.cons (.agg (gn f)) .nil;refine a9 mixed V' (by rw[amC];rfl) aW (sT _) ?_;rw[amD,amE];refine aw ?_;refine af ?_;refine ab (aO (bw [(0,aG f,26)] eH (l:=[(1,.pt (aG f))]) eH) (aw ?_));refine aK ?_;have cE:((f.blocks.length:Nat):Int).toNat=n:=hn;refine ab (aO (aE (l:=[(1,.pt (aG f)),(3,.rs 1 0 n)]) (ml:=[(1,.cells (List.replicate n .z) 27)]) ⟨rfl,congrArg (fun k=>D.rs 1 0 k) cE,trivial⟩ ⟨?_,trivial⟩) (aC (aw ?_)))
 .exact congrArg (fun c=>some (Row.cells c 27)) ((congrArg (fun k=>replD k [D.z]) cE).trans (zP n))
 refine SS ?_
 refine ab (bO (fun s=>∃ m nx ρ,Ghost prog s ⟨az [(3,.rs 1 0 n)],m,nx⟩/\dx m nx 1 n 27 3 ρ (fun i=>(kM f.blocks n i).map I)) (b8 (α:=Nat×Mem×Nat)
  (fun k=>⟨az [(1,.pt (aG f)),(3,.rs 1 0 n),(4,I k.1)],k.2.1,k.2.2⟩)
  (fun k=>k.1<=n/\(∃ ρ,dx k.2.1 k.2.2 1 n 27 3 ρ (fun i=>(kM f.blocks k.1 i).map I))/\∀ i,(kM f.blocks k.1 i).length<=12*k.1) (fun k=>n - k.1) (0,aY [(1,.cells (List.replicate n .z) 27)],2)
  (av eH) ⟨Nat.zero_le _,⟨fun _=>0,EO (show 1<2 by decide) rfl⟩,fun _=>Nat.le_refl _⟩ ?_) ?_)
 .rintro⟨k,m,nx⟩ ⟨hk,⟨ρ,C⟩,hlen⟩;dsimp only at hk C hlen ⊢;have aA:=C.row;have ct:=C.nC;refine aK ?_;refine ab ⟨_,rfl,fun h=>?_,fun h=>?_⟩
  .have ao:k<n:=by simpa[hn] using h
   have hx:f.blocks[k]? =some f.blocks[k]:=List.getElem?_eq_getElem oG;have X:f.blocks[k]∈f.blocks:=List.getElem_mem _;have jT:=jT hx (by have:=hw _ X;omega);generalize f.blocks[k]=x at hx X jT
   have bC:kM f.blocks (k+1)=(oX x.fin).foldl (c6 k) (kM f.blocks k):=by
    rw[kM,List.range_succ,List.foldl_append];show BT f.blocks _ k=_;rw[BT,hx];rfl
   generalize kM f.blocks k=L0 at C hlen aA bC;have cS:=ht x X;have ic:=aaf x.fin;have GJ:=hw x X;generalize oX x.fin=l at jT cS ic bC;refine ws ?_;refine af ?_;refine cl jT ?_;refine SS ?_;refine ab (aw ?_);refine SS ?_
   refine ab (b8 (α:=Nat×Mem×Nat)
    (fun j=>⟨az [(1,.pt (aG f)),(3,.rs 1 0 n),(4,I k),(5,ax l),(6,I j.1)],j.2.1,j.2.2⟩)
    (fun j=>j.1<=l.length/\(∃ ρ,dx j.2.1 j.2.2 1 n 27 3 ρ (fun i=>((l.take j.1).foldl (c6 k) L0 i).map I))/\∀ i,((l.take j.1).foldl (c6 k) L0 i).length<=12*k+j.1) (fun j=>l.length - j.1) (0,m,nx)
    (av eH) ⟨Nat.zero_le _,⟨ρ,C⟩,hlen⟩ ?_)
   clear C aA hlen;rintro⟨j,m,nx⟩ ⟨hj,⟨ρ,C⟩,hlen⟩;dsimp only at hj C hlen ⊢;have aA:=C.row;have ct:=C.nC;have U:∀ t,l[j]? =some t->(l.take (j+1)).foldl (c6 k) L0=c6 k ((l.take j).foldl (c6 k) L0) t:=fun t ht=>iG ht;have jL:j=l.length->(l.take j).foldl (c6 k) L0=kM f.blocks (k+1):=fun e=>by rw[bC,List.take_of_length_le oG]
   generalize (l.take j).foldl (c6 k) L0=L at C hlen aA U jL;refine aP ?_;refine ab ⟨_,rfl,fun h=>?_,fun h=>?_⟩
   .have wK:j<l.length:=by simpa using h
    have xr:l[j]? =some l[j]:=List.getElem?_eq_getElem wK;have nB:=cS _ (List.getElem_mem wK);generalize l[j]=t at xr nB;obtain⟨i,rfl⟩:=Int.eq_ofNat_of_zero_le nB.1;have J:i<n:=by omega
    have hL:=hlen i;have U:(l.take (j+1)).foldl (c6 k) L0=up L i (L i++[(k:Int)]):=U _ xr
    have nU:∀ i,((l.take (j+1)).foldl (c6 k) L0 i).length<=12*k+(j+1):=fun a=>by
     rw[U];exact Eo (t:=(i:Int)) hlen a
    have sy:(fun a=>((l.take (j+1)).foldl (c6 k) L0 a).map I)=up (fun a=>(L a).map I) i ((L i++[(k:Int)]).map I):=by rw[U];exact Fp
    obtain⟨cs,kd⟩:=BF (ρ:=ρ) (L:=fun i=>(L i).map I) J;refine nL abx ?_;by_cases hz:L i=[]
    .have kA:jc (ρ i) ((L i).map I)=.z:=by rw[hz];rfl
     rw[kA] at kd;refine aL ?_;refine bF ?_;refine bk (by simp[apartT]) ?_;refine au ?_;refine ab (aJ (j+1,up (up (up m nx (some (.cells [I k] 3))) (nx+1) (some (.cells [I k] 3))) 1 (some (.cells ((gA ρ (fun i=>(L i).map I) n).set i (.rs (nx+1) 0 1)) 27)),nx+2) (av eH) ⟨by dsimp only;omega,⟨up ρ i (nx+1),?_⟩,nU⟩ oM);dsimp only;rw[sy];refine C.iF J oS oG oG ?_ ?_ (fun q hq oq _=>?_)
     .rw[hz];exact up_same _ _ _
     .rw[hz];exact ap oG (up_same _ _ _)
     .exact ap oG (ap oG (ap oG rfl))
    .have M:(L i).map I≠[]:=by simpa using hz
     have kA:jc (ρ i) ((L i).map I)=.rs (ρ i) 0 (L i).length:=by rw[lI M,List.length_map]
     rw[kA] at kd;have cW:=C.n3 i J M;have uc:=C.lt i J M;have Ll:=C.ne i J M;refine aL ?_;refine bF ?_;refine bk (by simp[apartT]) ?_;refine au ?_;refine ab (aJ (j+1,up (up (up (up m nx (some (.cells [I k] 3))) (ρ i) none) (nx+1) (some (.cells ((L i).map I++[I k]) 3))) 1 (some (.cells ((gA ρ (fun i=>(L i).map I) n).set i (.rs (nx+1) 0 ((L i).length+1))) 27)),nx+2) (av eH) ⟨by dsimp only;omega,⟨up ρ i (nx+1),?_⟩,nU⟩ oM);dsimp only;rw[sy];refine C.iF J oS oG oG ?_ ?_ (fun q hq oq lX=>?_)
     .rw[List.length_map,List.length_append];exact up_same _ _ _
     .rw[List.map_append];exact ap oG (up_same _ _ _)
     .have:=lX M;exact ap oG (ap oG (ap oG (ap oG rfl)))
   .have aX:¬ j<l.length:=by simpa using h
    have vl:=jL oG;subst vl;show AOps _ _ _ _ _ _ _ _ _;refine au ?_;refine ab (aJ (k+1,m,nx) (av eH) ⟨by dsimp only;omega,⟨ρ,C⟩,fun i=>by have:=hlen i;dsimp only at this ⊢;omega⟩ oM)
  .have aX:¬ k<n:=by simpa[hn] using h
   have:k=n:=by omega
   subst this;exact⟨m,nx,ρ,av eH,C⟩
 .rintro s ⟨m,nx,ρ,hg,C⟩;have om:¬ ∃ i,i<n/\(kM f.blocks n i).map I≠[]/\ρ i=1:=fun⟨i,h1,h2,h3⟩=>C.ne i h1 h2 h3;refine⟨_,hg.trans (EB (l:=[(3,.rs 1 0 n)]) (ml:=[]) (fun r=>∃ i,i<n/\(kM f.blocks n i).map I≠[]/\ρ i=r) C (fun _=>.map) c3 (fun i h1 h2=>⟨i,h1,h2,rfl⟩) om ⟨rfl,trivial⟩ (fun x hx=>?_) trivial (fun x hx=>by cases hx)),aw ?_⟩
  .simp at hx;subst hx;exact .rs om
  refine af ?_;refine ab (aO (bw [(1,_,27)] eH (l:=[(2,bp (iL f.blocks))]) ⟨?_,trivial⟩) (ay rfl rfl));show sub (fz0 1 _ (prog.cellsOf 27)) (D.rs 1 0 n)=_;rw[iY (by rw[y6];simp),H6,iL,hn]
set_option maxHeartbeats 2000000 in
theorem AK{f:aF}(hs:uO f)(hw:∀ b∈f.blocks,b.fin.aI.length<=9):PCall prog 120 [.agg (aG f)] (B (uC f)):=by
 have AJ:=AJ hs;refine a9 mixed Ux (by rw[aiF];rfl) (.cons (.agg (gn f)) .nil) (Tr.s _) ?_;rw[aiG,aiH];refine aw ?_;refine af ?_;refine ab (aO (bw [(0,aG f,26)] eH (l:=[(1,.pt (aG f))]) eH) (aj ?_));cases hh:qq f with
 |false=>
  rw[hh] at AJ;refine SS ?_;refine cl AJ ?_;refine SS ?_;refine ab (aC (aj ?_));refine af ?_;refine ab (bh rfl (fun _=>?_) fun h=>oH);refine aC (aj ?_);refine SS ?_;refine ab (cU (ay (d:=B false) rfl ?_));rw[uC,hh];rfl
 |true=>
  rw[hh] at AJ;have hF:uC f=(Fb f&&(List.range f.blocks.length).all (qC f)):=by rw[uC,hh];rfl
  rw[hF];clear hF;unfold qq at hh;simp only[Bool.and_eq_true] at hh;obtain⟨h1,h2,_⟩:=hh;unfold mR at h1;simp only[Bool.and_eq_true,Bool.not_eq_true',decide_eq_false_iff_not,jY] at h1;have hN:f.blocks.length<=1200:=by omega
  have hR:f.ag.length<=1200:=by omega
  have fq:f.aR.length<=60:=by omega
  have xE:∀ k∈f.aR,k=1\/k=2:=fun k hk=>by
   unfold p9 at h2;simp only[Bool.and_eq_true] at h2;have h3:=h2.2.2.1;simp only[dY,Bool.not_eq_true',List.any_eq_false] at h3;have:=h3 k hk;simp[ma] at this;omega
  clear h1 h2;refine SS ?_;refine cl AJ ?_;refine SS ?_;refine ab (aC (aj ?_));refine af ?_;refine ab (bh rfl (fun h=>oH) fun _=>bS (aw ?_));refine SS ?_;refine aH (HS (cs:=bL _ _) V.h V.h V.h rfl rfl) ak ⟨V.h,V.h⟩ ?_;refine SS ?_;refine b9 (gR (cs':=bL _ _) rfl rfl rfl rfl) ak (cP V.h V.h (by first|(simp;done)|exact⟨rfl,Nat.le_of_ble_eq_true rfl⟩|(simp;omega)) (by rfl)) ?_;refine ab (aO (aE (l:=[(1,.pt (aG f)),(4,.rp 1 0)]) (ml:=[(1,.cells (bL f .z) 208)]) eH eH) (aC (aw ?_)));refine SS ?_
  refine ab (bO (fun s=>Ghost prog s ⟨az [(1,.pt (aG f)),(4,.rp 1 0)],aY [(1,.cells (bL f .z) 208)],2⟩/\∀ (j:Nat) x,f.blocks[j]? =some x->(de x.fin).all (bU f)=true) (b8 (α:=Nat) (fun k=>⟨az [(1,.pt (aG f)),(4,.rp 1 0),(5,I k)],aY [(1,.cells (bL f .z) 208)],2⟩)
   (fun k=>k<=f.blocks.length/\∀ j x,j<k->f.blocks[j]? =some x->(de x.fin).all (bU f)=true) (fun k=>f.blocks.length - k) 0 (aE eH eH) ⟨by omega,fun j y hj=>by omega⟩ ?_) ?_)
  .rintro k ⟨hk,hinv⟩;refine aK ?_;refine ab ⟨_,rfl,fun h=>?_,fun h=>?_⟩
   .have ao:k<f.blocks.length:=by simpa using h
    have hx:f.blocks[k]? =some f.blocks[k]:=List.getElem?_eq_getElem ao;have XB:=hw _ (List.getElem_mem ao);generalize f.blocks[k]=x at hx XB;have qA:=qA (x:=x.fin) oG;have hle:=Bw x.fin;have kn:(de x.fin).all (bU f)=false->Fb f=false:=fun h=>List.all_eq_false.2 ⟨x,List.mem_of_getElem? hx,by simp[h]⟩
    have An:(de x.fin).all (bU f)=true->∀ j y,j<k+1->f.blocks[j]? =some y->(de y.fin).all (bU f)=true:=fun hq j y hj hy=>by
     by_cases e:j=k
     .subst e;rw[hx] at hy;cases hy;exact hq
     .exact hinv j y oG hy
    generalize de x.fin=l at qA hle kn An;refine ws ?_;refine bD ?_;refine cl qA ?_;refine SS ?_;refine ab (aw ?_);refine SS ?_
    refine ab (b8 (α:=Nat) (fun q=>⟨az [(1,.pt (aG f)),(4,.rp 1 0),(5,I k),(6,ax l),(7,I q)],aY [(1,.cells (bL f .z) 208)],2⟩)
     (fun q=>q<=l.length/\∀ j y,j<q->l[j]? =some y->bU f y=true) (fun q=>l.length - q) 0 (aE eH eH) ⟨by omega,fun j y hj=>by omega⟩ ?_)
    rintro q ⟨hq,lX⟩;refine aP ?_;refine ab ⟨_,rfl,fun h=>?_,fun h=>?_⟩
    .have Bj:q<l.length:=by simpa using h
     have hy:l[q]? =some l[q]:=List.getElem?_eq_getElem Bj;generalize l[q]=y at hy;have gl:PCall prog 170 [.agg (bL f .z),I y] (B (bU f y)):=gl FM rfl hN;refine dm Ze ?_;refine aH (dU (vs:=bL _ _) rfl rfl V.h V.h rfl) ak (dV V.h V.h (by first|(simp;done)|omega|exact Nat.le_of_ble_eq_true rfl)) ?_;refine aP ?_;refine cl gl ?_;refine SS ?_;refine bk (by simp[apartT]) (aj ?_);refine af ?_;refine ab (aq rfl (fun hp=>?_) fun hp=>?_)
     .refine ws ?_;refine SS ?_;refine ab (aV (cq (cq (aT (ay (d:=B false) rfl ?_)))));rw[kn (List.all_eq_false.2 ⟨y,List.mem_of_getElem? hy,by simpa using hp⟩)];rfl
     .refine cg ?_;refine au ?_;refine ab (aJ (q+1) (aE eH eH) ⟨by omega,fun j z hj hz=>?_⟩ oG);by_cases e:j=q
      .subst e;rw[hy] at hz;cases hz;simpa using hp
      .exact lX j z oG hz
    .have aX:¬ q<l.length:=by simpa using h
     show AOps _ _ _ _ _ _ _ _ _;refine au ?_;refine ab (aJ (k+1) (aE eH eH) ⟨by omega,An (List.all_eq_true.2 fun y hy=>?_)⟩ oG);obtain⟨j,hj⟩:=List.getElem?_of_mem hy;exact lX j y (by have:=(List.getElem?_eq_some_iff.1 hj).1;omega) hj
   .have aX:¬ k<f.blocks.length:=by simpa using h
    exact⟨aE eH eH,fun j y hy=>hinv j y (by have:=(List.getElem?_eq_some_iff.1 hy).1;omega) hy⟩
  rintro s ⟨hg,M⟩
  have hE:Fb f=true:=List.all_eq_true.2 fun x hx=>by
   obtain⟨j,hj⟩:=List.getElem?_of_mem hx;exact M j x hj
  rw[hE,Bool.true_and]
  have cS:∀ b∈f.blocks,∀ t∈oX b.fin,0<=t/\t<f.blocks.length:=fun b hb t ht=>by
   have:=List.all_eq_true.1 (List.all_eq_true.1 hE b hb) t (Nx.1 ht);rw[bU,jY] at this;omega
  have nF:=nF (f:=f) rfl oG hw cS;have dT:∀ k,k<f.blocks.length->(iL f.blocks)[k]? =some (kM f.blocks f.blocks.length k):=fun k hk=>by simp[iL,hk]
  have zq:(iL f.blocks).length<=100000:=by simp[iL];omega
  clear M hE cS;refine⟨_,hg,aw ?_⟩;generalize hL:iL f.blocks=L at nF dT zq;clear hL;refine SS ?_;refine cl nF ?_;refine af ?_;refine ab (aO (bw [(1,bL f (bp L),208)] eH (l:=[(1,.pt (aG f)),(4,.pt (bL f (bp L)))]) eH) (aw ?_));refine aK ?_;have cE:((f.ag.length:Nat):Int).toNat=f.ag.length:=Int.toNat_natCast _;refine ab (aO (aE (l:=[(1,.pt (aG f)),(4,.pt (bL f (bp L))),(9,.rs 2 0 f.ag.length)]) (ml:=[(2,.cells ((List.replicate f.ag.length false).map B) 4)]) ⟨rfl,rfl,congrArg (fun k=>D.rs 2 0 k) cE,trivial⟩ ⟨?_,trivial⟩) (aC (aw ?_)))
  .exact congrArg (fun c=>some (Row.cells c 4)) ((congrArg (fun k=>replD k [B false]) cE).trans (uB _ false))
  rw[<- aag f.ag.length f.blocks];refine SS ?_
  refine ab (bO (fun s=>∃ N,Ghost prog s ⟨az [],fun _=>none,N⟩/\(List.range f.blocks.length).all (qC f)=true) (b8 (α:=Nat×Nat) (fun q=>⟨az [(1,.pt (aG f)),(4,.pt (bL f (bp L))),(9,.rs 2 0 f.ag.length),(10,I q.1)],aY [(2,.cells ((lN f.ag.length f.blocks q.1).map B) 4)],q.2⟩)
   (fun q=>q.1<=f.blocks.length/\3<=q.2/\(List.range q.1).all (qC f)=true) (fun q=>f.blocks.length - q.1) (0,3) (aE eH eH) ⟨Nat.zero_le _,Nat.le_refl _,rfl⟩ ?_) ?_)
  .rintro⟨k,N⟩ ⟨hk,XC,M⟩;dsimp only at hk XC M ⊢;refine aK ?_;refine ab ⟨_,rfl,fun h=>?_,fun h=>?_⟩
   .have ao:k<f.blocks.length:=by simpa using h
    have hx:f.blocks[k]? =some f.blocks[k]:=List.getElem?_eq_getElem ao;have n8:=hs.en _ (List.getElem_mem ao)
    have C:qC f k=(!decide ((200:Int)<f.blocks[k].ins.length)&&((List.range f.blocks[k].ins.length).all (uR f k f.blocks[k].ins)&&(gf f f.blocks[k].fin&& !(f.blocks[k].fin.kind==7&&(kI f.blocks k).any (·==f.blocks[k].fin.a))))):=by
     unfold qC;simp only[getD_some hx]
    have kn:qC f k=false->(List.range f.blocks.length).all (qC f)=false:=fun hq=>nH ao hq;have zm:=acE (R:=f.ag.length) hx;have n4:=fun(i:Nat)=>aby (R:=f.ag.length) (i:=i) hx;have hA:=dT k ao;have r7:∀ {y:bt},PCall prog 171 [.agg (bL f (bp L)),.agg (bl y),I k] (B (dv f k (kM f.blocks f.blocks.length k).length y)):=fun {y}=>r7 hA fq xE zq;have J:∀ j,uR f k f.blocks[k].ins j=(dv f k (kM f.blocks f.blocks.length k).length (f.blocks[k].ins.getD j dt)&& !(bT (f.blocks[k].ins.getD j dt)&&(decide (0<j)&& !bT (f.blocks[k].ins.getD (j - 1) dt)))):=fun j=>rfl;generalize kM f.blocks f.blocks.length k=A at r7 J hA;generalize f.blocks[k]=x at hx n8 C zm n4 J;have Gm:=Gm (f:=f) (sT L) rfl n8.1 n8.2 hN;refine ws ?_;refine c8 ?_;refine ab (aC (aj ?_));refine au ?_;refine ab (bh rfl (fun hp=>?_) fun hp=>bS (aC (aw ?_)))
    .refine aC (aj ?_);refine SS ?_;refine ab (cU (cq (aT (ay (d:=B false) rfl ?_))));rw[kn (by rw[C,hp];rfl)]
    rw[hp,Bool.not_false,Bool.true_and] at C;have hZ:x.ins.length<=200:=by have:=of_decide_eq_false hp;omega
    refine SS ?_
    refine ab (bO (fun s=>Ghost prog s ⟨az [(1,.pt (aG f)),(4,.pt (bL f (bp L))),(9,.rs 2 0 f.ag.length),(10,I k)],aY [(2,.cells ((lN f.ag.length f.blocks k).map B) 4)],N⟩/\(List.range x.ins.length).all (uR f k x.ins)=true) (b8 (α:=Nat) (fun j=>⟨az [(1,.pt (aG f)),(4,.pt (bL f (bp L))),(9,.rs 2 0 f.ag.length),(10,I k),(11,gp x.ins),(12,I j)],aY [(2,.cells ((lN f.ag.length f.blocks k).map B) 4)],N⟩)
     (fun j=>j<=x.ins.length/\(List.range j).all (uR f k x.ins)=true) (fun j=>x.ins.length - j) 0 (aE eH eH) ⟨Nat.zero_le _,rfl⟩ ?_) ?_)
    .rintro j ⟨hj,um⟩;refine aP ?_;refine ab ⟨_,rfl,fun h=>?_,fun h=>?_⟩
     .have ct:j<x.ins.length:=by simpa using h
      have hy:x.ins[j]? =some x.ins[j]:=List.getElem?_eq_getElem ct;have J:=J j;rw[getD_some hy] at J;have X:uR f k x.ins j=false->(List.range f.blocks.length).all (qC f)=false:=fun hq=>kn (by rw[C,nH ct hq];rfl);have U:uR f k x.ins j=true->(List.range (j+1)).all (uR f k x.ins)=true:=fun hq=>kE um hq;generalize x.ins[j]=y at hy J;have r7:= @r7 y;generalize dv f k A.length y=v at r7 J;rw[J] at X U;clear J;refine dm Zf ?_;cases v with
      |false=>
       refine bD ?_;refine cl r7 ?_;refine aL ?_;refine c8 ?_;(iterate 5 refine z fun _ _=>?_);refine SS ?_;refine bk (by simp[apartT]) (aq rfl (fun hp=>?_) fun hp=>(by cases hp));refine ws ?_;refine SS ?_;refine ab (aV (cq (aT (cq (aT (ay (d:=B false) rfl ?_))))));rw[X rfl]
      |true=>
       rw[Bool.true_and] at X U;by_cases eB:y.op=19
       .have sA:bT y=true:=by simp[bT,eB]
        rw[sA,Bool.true_and] at X U;have fh:(y.op==19)=true:=by simp[eB]
        cases j with
        |zero=>
         have uV:decide ((0:Int)<((0:Nat):Int))=false:=rfl;refine bD ?_;refine cl r7 ?_;refine aL ?_;refine aP ?_;(iterate 7 refine z fun _ _=>?_);refine af ?_;refine bk (by simp[apartT]) (aq rfl (fun hp=>(by cases hp)) fun hp=>cg ?_);refine au ?_;refine ab (aJ 1 (aE eH eH) ⟨by omega,U rfl⟩ oG)
        |succ i=>
         have uV:decide ((0:Int)<((i+1:Nat):Int))=true:=decide_eq_true oG;have uW:((i+1:Nat):Int) - 1=(i:Int)/\ -9223372036854775808<=(i:Int)/\(i:Int)<=9223372036854775807:=by omega
         have hz:x.ins[i]? =some x.ins[i]:=List.getElem?_eq_getElem oG;rw[show i+1 - 1=i from rfl,getD_some hz] at X U;generalize x.ins[i]=z at hz X U;refine bD ?_;refine cl r7 ?_;refine aL ?_;refine aL ?_;refine aP ?_;refine bk (by simp[apartT]) (aq rfl (fun hp=>?_) fun hp=>?_)
         .refine ws ?_;refine SS ?_;refine ab (aV (cq (aT (cq (aT (ay (d:=B false) rfl ?_))))));rw[X (by revert hp;simp[bT])]
         .refine cg ?_;refine au ?_;refine ab (aJ (i+1+1) (aE eH eH) ⟨by omega,U (by revert hp;simp[bT])⟩ oG)
       .have sA:bT y=false:=by simp[bT,eB]
        rw[sA,Bool.false_and] at X U;have fh:(y.op==19)=false:=by simp[eB]
        refine bD ?_;refine cl r7 ?_;refine aL ?_;refine c8 ?_;(iterate 4 refine z fun _ _=>?_);refine af ?_;refine bk (by simp[apartT]) (aq rfl (fun hp=>(by cases hp)) fun hp=>cg ?_);refine au ?_;refine ab (aJ (j+1) (aE eH eH) ⟨by omega,U rfl⟩ oG)
     .have aX:¬ j<x.ins.length:=by simpa using h
      have:j=x.ins.length:=by omega
      subst this;exact⟨aE eH eH,um⟩
    rintro s ⟨hg,J⟩;rw[J,Bool.true_and] at C;refine⟨_,hg,aw ?_⟩;clear hg r7 J hA;obtain⟨aqW,xk,xa,xb,xt,xe,xn,LX,xs,xw,xo⟩:=x;dsimp only at*
    refine c8 ?_;refine b9 (gR (cs':=bc _) rfl rfl (up_same _ _ _) rfl) ak (cP V.h V.h (by first|(simp;done)|exact⟨rfl,Nat.le_of_ble_eq_true rfl⟩|(simp;omega)) (by rfl)) ?_;refine ab (aO (gQ (i:=N) (l:=[(1,.pt (aG f)),(4,.pt (bL f (bp L))),(9,.rs 2 0 f.ag.length),(10,I k),(13,.pt (bc ⟨xk,xa,xb,xt,xe,xn,LX,xs,xw,xo⟩))]) (ml:=[(2,.cells ((lN f.ag.length f.blocks k).map B) 4)]) (up_same _ _ _) ⟨rfl,rfl,zM oG,rfl,m9,trivial⟩ ⟨IF oG (ap oG (ap oG rfl)) .map,trivial⟩) (aj ?_));have bd:= @IN f ⟨xk,xa,xb,xt,xe,xn,LX,xs,xw,xo⟩;generalize gf f ⟨xk,xa,xb,xt,xe,xn,LX,xs,xw,xo⟩=v at Gm C bd;refine af ?_;refine cl Gm ?_;refine SS ?_;refine ab (aC (aj ?_));refine af ?_;refine ab (bh rfl (fun hp=>?_) fun hp=>bS (aj ?_))
    .refine aC (aj ?_);refine SS ?_;refine ab (cU (cq (aT (ay (d:=B false) rfl ?_))));rw[kn (by rw[C];revert hp;cases v<;>simp)]
    have hv:v=true:=by simpa using hp
    subst hv;rw[Bool.true_and] at C;refine au ?_;refine ab (aq rfl (fun h7=>?_) fun h7=>cg ?_)
    .have e7:xk=7:=by simpa using h7
     obtain⟨i,hi,e⟩:=(bd rfl).2.2 e7;dsimp only at e;subst e;have n4:=n4 i e7 rfl;have vp:(lN f.ag.length f.blocks k)[i]? =some ((kI f.blocks k).any (·==(i:Int))):=ES hi;have kW:=BB f.ag.length f.blocks k;rw[e7] at C;generalize (kI f.blocks k).any (·==(i:Int))=o at vp C;generalize lN f.ag.length f.blocks k=O at vp kW n4 ⊢;have kd:=fu (f:=B) vp;refine aC (aj ?_);refine aK ?_;refine ab (bh rfl (fun hp=>?_) fun hp=>bS ?_)
     .refine aC (aj ?_);refine SS ?_;refine ab (cU (cq (aT (ay (d:=B false) rfl ?_))));rw[kn (by rw[C,hp];rfl)]
     .refine dz ?_;refine aK ?_;refine ab ?_;refine au ?_;refine ab (aJ (k+1,N+1) (aE eH ⟨?_,trivial⟩) ⟨by dsimp only;omega,by dsimp only;omega,kE M (by rw[C,hp];rfl)⟩ oM);dsimp only;rw[n4,List.map_set];rfl
    .have h7:¬ xk=7:=by simpa using h7
     have zm:=zm h7;refine au ?_;refine ab (aJ (k+1,N+1) (aE eH ⟨?_,trivial⟩) ⟨by dsimp only;omega,by dsimp only;omega,kE M (by rw[C];simp[h7])⟩ oM);dsimp only;rw[zm];rfl
   .have aX:¬ k<f.blocks.length:=by simpa using h
    have:k=f.blocks.length:=by omega
    subst this;exact⟨N,fw (l:=[]) trivial,M⟩
  .rintro s ⟨N,hg,M⟩;refine⟨_,hg,aj ?_⟩;refine SS ?_;refine ab (ay (d:=B true) rfl ?_);rw[M]
theorem AM{a b:Cert}(hl:a.is.length=b.is.length)(hm:a.is.length<=100000):PCall prog 173 [.agg (b7 a),.agg (b7 b)] (.agg (b7 (oY a b))):=by
 refine a9 mixed UA (by rw[aiN];rfl) (.cons (.agg (tq a)) (.cons (.agg (tq b)) .nil)) (.agg (tq _)) ?_;rw[aiO,aiP];obtain⟨aa,C⟩:=a;obtain⟨ba,J⟩:=b;dsimp only at hl hm;refine aw ?_;refine au ?_;refine ab (aO (aE (l:=[(2,.rp 0 0),(3,.rp 1 0),(4,.rp 2 0)]) (ml:=[(0,.cells (b7 ⟨aa,C⟩) 158),(1,.cells (b7 ⟨ba,J⟩) 158),(2,.cells [B false,.z] 158)]) eH eH) (aC (aj ?_)));refine af ?_;cases aa with
 |true=>
  refine ab (bh rfl (fun _=>?_) fun h=>oH);refine aC (aj ?_);refine af ?_;exact ab (cU (mj (mL rfl rfl r6 lT rfl t158 (Nat.le_of_ble_eq_true rfl)) rfl))
 |false=>
 refine ab (bh rfl (fun h=>oH) fun _=>bS (aC (aj ?_)));refine af ?_;cases ba with
 |true=>
  refine ab (bh rfl (fun _=>?_) fun h=>oH);refine aC (aj ?_);refine af ?_;exact ab (cU (mj (mL rfl rfl r6 lT rfl t158 (Nat.le_of_ble_eq_true rfl)) rfl))
 |false=>
 refine ab (bh rfl (fun h=>oH) fun _=>bS (aw ?_));have hb:oY ⟨false,C⟩ ⟨false,J⟩=⟨false,List.zipWith (fun x y=>x&&y) C J⟩:=rfl;rw[hb];clear hb;have jv:({ any:=false,is:=C }:Cert).is.length<=100000:=hm;have cE:((C.length:Nat):Int).toNat=C.length:=Int.toNat_natCast _;have U:(List.zipWith (fun x y=>x&&y) C J).length=C.length:=by simp;omega
 have X:∀ (k:Nat) x y,C[k]? =some x->J[k]? =some y->(List.zipWith (fun x y=>x&&y) C J)[k]? =some (x&&y):=fun k x y h1 h2=>by rw[List.getElem?_zipWith,h1,h2]
 generalize List.zipWith (fun x y=>x&&y) C J=zQ at U X;refine c8 ?_;refine ab (aO (aE (l:=[(2,.rp 0 0),(3,.rp 1 0),(4,.rp 2 0),(5,.rp 4 0)]) (ml:=[(0,.cells (b7 ⟨false,C⟩) 158),(1,.cells (b7 ⟨false,J⟩) 158),(2,.cells [B false,.z] 158),(3,.cells ((List.replicate C.length false).map B) 4),(4,.cells [B false,.rs 3 0 C.length] 158)]) eH ⟨rfl,rfl,rfl,?_,?_,trivial⟩) (aC (aw ?_)))
 .exact congrArg (fun c=>some (Row.cells c 4)) ((congrArg (fun k=>replD k [B false]) cE).trans (uB _ false))
 .exact congrArg (fun k=>some (Row.cells [B false,.rs 3 0 k] 158)) cE
 refine SS ?_
 refine ab (bO (fun s=>Ghost prog s ⟨az [(4,.rp 2 0),(5,.rp 4 0)],aY [(2,.cells [B false,.z] 158),(3,.cells (zQ.map B) 4),(4,.cells [B false,.rs 3 0 C.length] 158)],5⟩) (b8 (α:=Nat) (fun k=>⟨az [(2,.rp 0 0),(3,.rp 1 0),(4,.rp 2 0),(5,.rp 4 0),(6,I k)],aY [(0,.cells (b7 ⟨false,C⟩) 158),(1,.cells (b7 ⟨false,J⟩) 158),(2,.cells [B false,.z] 158),(3,.cells ((zQ.take k++List.replicate (C.length - k) false).map B) 4),(4,.cells [B false,.rs 3 0 C.length] 158)],5⟩)
  (fun k=>k<=C.length) (fun k=>C.length - k) 0 (aE eH eH) oG ?_) ?_)
 .intro k hk;refine aK ?_;refine ab ⟨_,rfl,fun h=>?_,fun h=>?_⟩
  .have ao:k<C.length:=by simpa using h
   have hx:C[k]? =some C[k]:=List.getElem?_eq_getElem ao;have hy:J[k]? =some J[k]:=List.getElem?_eq_getElem oG;have M:=X k _ _ hx hy;generalize C[k]=x at hx M;generalize J[k]=y at hy M;have ni:=take_set M U;have fM:(zQ.take k++List.replicate (C.length - k) false).length=C.length:=by simp;omega
   refine nL aah ?_;cases x with
   |false=>
    refine aL ?_;(iterate 5 refine z fun _ _=>?_);refine au ?_;refine bk (by simp[apartT]) ?_;refine au ?_;refine ab (aJ (k+1) (aE eH ⟨rfl,rfl,rfl,?_,rfl,trivial⟩) oG oG);rw[<- ni,List.map_set];rfl
   |true=>
    refine aL ?_;refine bF ?_;refine bk (by simp[apartT]) ?_;refine au ?_;refine ab (aJ (k+1) (aE eH ⟨rfl,rfl,rfl,?_,rfl,trivial⟩) oG oG);rw[<- ni,List.map_set];rfl
  .have aX:¬ k<C.length:=by simpa using h
   have:k=C.length:=by omega
   subst this;refine aE eH ⟨rfl,?_,rfl,trivial⟩;rw[Nat.sub_self,List.replicate_zero,List.append_nil,List.take_of_length_le oG];rfl
 .intro s hg;refine⟨_,hg,aw ?_⟩;refine af ?_
  have e:sub (fz0 3 (zQ.map B) (prog.cellsOf 4)) (.rs 3 0 C.length)=.sl (zQ.map B) C.length:=by
   rw[c4,yr,List.drop_zero,List.take_of_length_le oP]
  refine ab (aO (bw [(3,zQ.map B,4),(2,[B false,.sl (zQ.map B) C.length],158)] ⟨rfl,?_,trivial⟩ (l:=[(4,.pt [B false,.sl (zQ.map B) C.length])]) eH) (aV (mj (O9 rfl r6 lT rfl t158 (Nat.le_of_ble_eq_true rfl)) ?_)))
  .exact congrArg (fun d=>some (Row.cells [B false,d] 158)) e
  .rw[<- U];rfl
theorem vm{f:aF}{b:Nat}{x:Argus.bP}{c:Cert}(hx:f.blocks[b]? =some x)(hl:c.is.length=f.ag.length+f.aR.length)(hm:c.is.length<=2000)(hi:∀ y∈x.ins,yN f.ag.length (f.ag.length+f.aR.length) y)(uk:x.ins.length<=100000):
 PCall prog 127 [.agg (aG f),I b,.agg (b7 c)] (.agg (b7 (eh f.ag.length x.ins c))):=by
 have jt:∀ {d:Cert} {r:Int},d.is.length=f.ag.length+f.aR.length->Dc (f.ag.length+f.aR.length) r->PCall prog 124 [.agg (b7 d),I r] (.agg (b7 (iP d r))):=fun {d r} h1 h2=>jt oG (by rw[h1];exact h2);refine a9 mixed UB (by rw[aiQ];rfl) (.cons (.agg (gn f)) (.cons (.s _) (.cons (.agg (tq c)) .nil))) (.agg (tq _)) ?_;rw[aiR,aiS];refine aw ?_;refine au ?_;refine ab (aO (aE (l:=[(1,I b),(3,.rp 0 0),(5,.rp 1 0),(6,.rp 2 0)]) (ml:=[(0,.cells (aG f) 26),(1,.cells (b7 c) 158),(2,.cells [B false,.z] 158)]) eH eH) (aj ?_));refine c8 ?_;refine ab (aC (aw ?_));refine SS ?_
 refine ab (bO (fun s=>Ghost prog s ⟨az [(5,.rp 1 0),(6,.rp 2 0)],aY [(1,.cells (b7 (eh f.ag.length x.ins c)) 158),(2,.cells [B false,.z] 158)],3⟩) (b8 (α:=Nat) (fun k=>⟨az [(3,.rp 0 0),(5,.rp 1 0),(6,.rp 2 0),(7,gp x.ins),(8,I k)],aY [(0,.cells (aG f) 26),(1,.cells (b7 (eh f.ag.length (x.ins.take k) c)) 158),(2,.cells [B false,.z] 158)],3⟩)
  (fun k=>k<=x.ins.length) (fun k=>x.ins.length - k) 0 (aE eH eH) oG ?_) ?_)
 .intro k hk;have C:∀ y,x.ins[k]? =some y->eh f.ag.length (x.ins.take (k+1)) c=vj f.ag.length (eh f.ag.length (x.ins.take k) c) y:=fun y hy=>iG hy;have fB:k=x.ins.length->eh f.ag.length (x.ins.take k) c=eh f.ag.length x.ins c:=fun e=>by rw[e,List.take_length]
  have X:=(Bz f.ag.length (x.ins.take k) c).trans hl;generalize eh f.ag.length (x.ins.take k) c=d at C fB X;refine aP ?_;refine ab ⟨_,rfl,fun h=>?_,fun h=>?_⟩
  .have ao:k<x.ins.length:=by simpa using h
   have hy:x.ins[k]? =some x.ins[k]:=List.getElem?_eq_getElem ao;have C:=C _ hy;have M:=hi _ (List.getElem_mem ao);generalize x.ins[k]=y at hy C M;have qB:=qB (x:=y)
   have hp:Dc (f.ag.length+f.aR.length) (cZ y):=by
    rcases M.w with e|⟨i,h1,h2⟩
    .exact .inl e
    .exact .inr ⟨i,by omega,h2⟩
   have U:=jt X hp;have xx:=(EF d (cZ y)).trans X
   have kv:y.op=18->PCall prog 124 [.agg (b7 (iP d (cZ y))),I ((f.ag.length:Int)+y.n)] (.agg (b7 (iP (iP d (cZ y)) ((f.ag.length:Int)+y.n)))):=fun e=>jt xx (by
    obtain⟨i,h1,h2⟩:=M.s e
    exact .inr ⟨f.ag.length+i,h1,by rw[h2];omega⟩)
   unfold vj at C;generalize iP d (cZ y)=d1 at U xx kv C;generalize cZ y=w at qB U;clear jt;have jt:=U;refine dm aai ?_;refine aK ?_;refine cl qB ?_;refine cl jt ?_;refine SS ?_;refine bk (by simp[apartT]) (aj ?_);refine bD ?_;refine ab (aq rfl (fun J=>?_) fun J=>?_)
   .have J:y.op=18:=by simpa using J
    rw[if_pos J] at C;have jt:=kv J;obtain⟨i,h1,h2⟩:=M.s J;have lY:0<=y.n/\y.n<=2000:=by omega
    refine nL aaj ?_;refine bF ?_;refine af ?_;refine cl jt ?_;refine SS ?_;refine bk (by simp[apartT]) ?_;refine au ?_;refine ab (aJ (k+1) (aE eH ⟨rfl,?_,rfl,trivial⟩) oG oG);rw[C];rfl
   .have J:¬ y.op=18:=by simpa using J
    rw[if_neg J] at C;refine cg ?_;refine au ?_;refine ab (aJ (k+1) (aE eH ⟨rfl,?_,rfl,trivial⟩) oG oG);rw[C];rfl
  .have aX:¬ k<x.ins.length:=by simpa using h
   rw[<- fB oG];exact aE eH eH
 .intro s hg;refine⟨_,hg,aj ?_⟩;generalize eh f.ag.length x.ins c=d;refine af ?_;exact ab (aV (mj (mL rfl rfl r6 lT rfl t158 (Nat.le_of_ble_eq_true rfl)) rfl))
theorem wQ{f:aF}{b:Nat}{x:Argus.bP}{c:Cert}{to:Int}(hx:f.blocks[b]? =some x)(hw:x.fin.aI.length<=100)(hm:c.is.length<=2000)(pS:Dc c.is.length (dJ x.fin)):
 PCall prog 126 [.agg (aG f),I b,I to,.agg (b7 c)] (.agg (b7 (mz x.fin to c))):=by
 have jt:=jt (c:=c) oG pS;have qA:=qA (x:=x.fin) oG;have Gk:=Gk (x:=x.fin);have J:=Bw x.fin;refine a9 mixed UC (by rw[aiT];rfl) (.cons (.agg (gn f)) (.cons (.s _) (.cons (.s _) (.cons (.agg (tq c)) .nil)))) (.agg (tq _)) ?_;rw[aiU,aiV];refine ws ?_;refine au ?_;refine ab (aw ?_);refine c8 ?_;refine b9 (gR (cs':=bc _) rfl rfl rfl rfl) ak (cP V.h V.h (by first|(simp;done)|exact⟨rfl,Nat.le_of_ble_eq_true rfl⟩|(simp;omega)) (by rfl)) ?_;refine ab (aO (aE (l:=[(2,I to),(7,.rp 1 0),(8,.rp 2 0),(9,.rp 3 0)]) (ml:=[(1,.cells (b7 c) 158),(2,.cells [B false,.z] 158),(3,.cells (bc x.fin) 69)]) eH eH) (aj ?_));have U:mz x.fin to c=if x.fin.to≠to\/(de x.fin).tail.any (·==to)=true\/x.fin.kind=3\/x.fin.kind=4 then c else iP c (dJ x.fin):=rfl
 rw[U];clear U;generalize de x.fin=l at qA J;refine SS ?_;refine cl qA ?_;refine SS ?_;refine er ?_;refine SS ?_;refine ab (aC (aw ?_));refine SS ?_
 refine ab (bO (fun s=>Ghost prog s ⟨az [(2,I to),(7,.rp 1 0),(8,.rp 2 0),(9,.rp 3 0),(11,B (l.tail.any (·==to)))],aY [(1,.cells (b7 c) 158),(2,.cells [B false,.z] 158),(3,.cells (bc x.fin) 69)],4⟩) (b8 (α:=Nat) (fun k=>⟨az [(2,I to),(7,.rp 1 0),(8,.rp 2 0),(9,.rp 3 0),(10,ax l),(11,B ((l.tail.take k).any (·==to))),(12,I ((k+1:Nat):Int))],aY [(1,.cells (b7 c) 158),(2,.cells [B false,.z] 158),(3,.cells (bc x.fin) 69)],4⟩)
  (fun k=>k<=l.tail.length) (fun k=>l.tail.length - k) 0 (aE eH eH) oG ?_) ?_)
 .intro k hk;have X:l.tail.length=l.length - 1:=List.length_tail ..;have C:∀ y,l.tail[k]? =some y->(l.tail.take (k+1)).any (·==to)=((l.tail.take k).any (·==to)||y==to):=fun y hy=>by rw[List.take_add_one,hy,List.any_append];simp
  have M:k=l.tail.length->(l.tail.take k).any (·==to)=l.tail.any (·==to):=fun e=>by rw[e,List.take_length]
  generalize (l.tail.take k).any (·==to)=ob at C M;refine aP ?_;refine ab ⟨_,rfl,fun h=>?_,fun h=>?_⟩
  .have ao:k+1<l.length:=by
    have:=of_decide_eq_true h;omega
   have hy:l[k+1]? =some l[k+1]:=List.getElem?_eq_getElem ao;have C:=C l[k+1] (by rw[List.getElem?_tail];exact hy);generalize l[k+1]=y at hy C;refine dz ?_;cases ob with
   |false=>
    refine bF ?_;refine af ?_;refine ab ?_;refine au ?_;refine ab (aJ (k+1) (aE ⟨rfl,rfl,rfl,rfl,rfl,?_,rfl,trivial⟩ eH) oG oG);rw[C];rfl
   |true=>
    refine af ?_;(iterate 6 refine z fun _ _=>?_);refine af ?_;refine ab ?_;refine au ?_;refine ab (aJ (k+1) (aE ⟨rfl,rfl,rfl,rfl,rfl,?_,rfl,trivial⟩ eH) oG oG);rw[C];rfl
  .have aX:¬ k+1<l.length:=fun hh=>by
    have:=of_decide_eq_false h;omega
   rw[<- M oG];exact aE eH eH
 .intro s hg;refine⟨_,hg,aC (aj ?_)⟩;generalize l.tail.any (·==to)=ob;refine aL ?_;refine bF ?_;refine ab (bh rfl (fun h=>?_) fun h=>bS (dm Zi ?_))
  .refine aC (aj ?_);refine af ?_;refine ab (cU (mj (mL rfl rfl r6 lT rfl t158 (Nat.le_of_ble_eq_true rfl)) ?_));rw[if_pos]
   .rfl
   .revert h;simp;grind
  .rw[if_neg (by revert h;simp;grind)];generalize iP c (dJ x.fin)=d at jt;generalize dJ x.fin=w at jt Gk;refine af ?_;refine cl Gk ?_;refine cl jt ?_;refine SS ?_;exact bk (by simp[apartT]) (aV (mj (mL rfl rfl r6 lT rfl t158 (Nat.le_of_ble_eq_true rfl)) rfl))
set_option maxHeartbeats 2000000 in
theorem AN{f:aF}(M:yv f)(hw:∀ b∈f.blocks,b.fin.aI.length<=9):PCall prog 121 [.agg (aG f)] (Cu f (gI f.blocks f.args.toNat)):=by
 have hR:=M.ok.ag;have hS:=M.sl;have A8:=M.ok.gO;have lh:=M.ok.pos;obtain⟨a,ha,sj⟩:=M.ar;have CG:=Nz (R:=f.ag.length) (n:=f.ag.length+f.aR.length) (N:=f.blocks.length) (args:=a) hR oG oG lh sj;rw[ha,Int.toNat_natCast];refine a9 mixed UD (by rw[aiW];rfl) (.cons (.agg (gn f)) .nil) (abz f _) ?_;rw[aiX,aiY];refine aw ?_;refine af ?_;refine ab (aO (bw [(0,aG f,26)] eH (l:=[(1,.pt (aG f))]) eH) (aw ?_));refine bF ?_;refine ab (aO (av (l:=[(1,.pt (aG f)),(3,I ((f.ag.length+f.aR.length:Nat):Int))]) eH) (aw ?_));have hnn:f.ag.length+f.aR.length<=1260:=by omega
 have LY:f.ag.length<=f.ag.length+f.aR.length:=by omega
 unfold Cu;generalize hn:f.ag.length+f.aR.length=n at CG hnn LY ⊢;have cE:((f.blocks.length:Nat):Int).toNat=f.blocks.length:=Int.toNat_natCast _;refine au ?_;refine fX (zH rfl rfl V.h V.h) ak ⟨by omega,rfl,by omega,by rw[Wa];omega,V.h⟩ ?_;refine SS ?_;refine ab (aO (aE (l:=[(1,.pt (aG f)),(3,I n),(4,.rs 1 0 f.blocks.length)]) (ml:=[(1,.cells (cO (iz n f.blocks.length (.rs 2 0 n) 0)) 158)]) ⟨rfl,rfl,congrArg (fun k=>D.rs 1 0 k) cE,trivial⟩ ⟨?_,trivial⟩) (aC (aw ?_)))
 .exact congrArg (fun c=>some (Row.cells c 158)) ((congrArg (fun k=>replD k [B false,D.z]) cE).trans (Ow _))
 refine SS ?_;have AX:((n:Nat):Int).toNat=n:=Int.toNat_natCast _
 refine ab (bO (fun s=>∃ N,Ghost prog s ⟨az [(1,.pt (aG f)),(3,I n),(4,.rs 1 0 f.blocks.length)],aY [(1,.cells (cO ((true,.rs 2 0 n)::nY n f.blocks.length)) 158),(2,.cells ((List.replicate n false).map B) 4)],N⟩/\3<=N) (b8 (α:=Nat) (JU f n f.blocks.length)
  (fun k=>k<=f.blocks.length) (fun k=>f.blocks.length - k) 0 (aE eH eH) oG ?_) ?_)
 .intro k hk;have U:=(zS (iz n f.blocks.length (.rs 2 0 n) k)).trans (congrArg (·*2) (HK (n:=n) (d:=.rs 2 0 n) hk));cases k with
  |zero=>
   show AOps _ _ _ _ _ _ _ _ _;unfold JU;refine aP ?_;refine ab ⟨_,rfl,fun h=>?_,fun h=>?_⟩
   .refine dz ?_;have pT:=Hw (L:=iz n f.blocks.length (.rs 2 0 n) 0) (t:=0) (true,.rs 2 0 n) (by rw[HK hk];exact lh);rw[acF lh] at pT;refine bD ?_;refine b9 (gR (vs:=[B true,.rs 2 0 n]) rfl rfl rfl pT) (by repeat' (first|exact trivial|exact rfl|refine And.intro ?_ ?_)) (cP t158 lT ⟨rfl,by rw[U];omega⟩ rfl) ?_;refine ab ?_;refine au ?_;refine ab (aJ 1 (aE eH ⟨rfl,?_,trivial⟩) oG oG)
    .exact congrArg (fun c=>some (Row.cells c 4)) ((congrArg (fun k=>replD k [B false]) AX).trans (uB _ false))
   .exact absurd (of_decide_eq_false h) oG
  |succ k=>
   show AOps _ _ _ _ _ _ _ _ _;unfold JU;refine aP ?_;refine ab ⟨_,rfl,fun h=>?_,fun h=>?_⟩
   .have ao:k+1<f.blocks.length:=by have:=of_decide_eq_true h;omega
    refine dz ?_;have pT:=Hw (L:=iz n f.blocks.length (.rs 2 0 n) (k+1)) (t:=k+1) (true,.rs (k+3) 0 n) (by rw[HK hk];exact ao);refine bD ?_;refine b9 (gR (vs:=[B true,.rs (k+3) 0 n]) rfl rfl (ap oG rfl) pT) (by repeat' (first|exact trivial|exact rfl|refine And.intro ?_ ?_)) (cP t158 lT ⟨rfl,by rw[U];omega⟩ rfl) ?_;refine ab ?_;refine au ?_;refine ab (aJ (k+2) (gQ (i:=k+3) (e:=4) (cs:=(List.replicate n false).map B) (ap oG ?_) ⟨rfl,rfl,zM oG,rfl,trivial⟩ ⟨?_,IF oG (ap oG (ap oG rfl)) .map,trivial⟩) oG oG)
    .exact(up_same _ _ _).trans (congrArg (fun c=>some (Row.cells c 4)) ((congrArg (fun k=>replD k [B false]) AX).trans (uB _ false)))
    .rw[c4];refine(if_neg (show ¬ 1=k+3 by omega)).trans ?_;exact(congrArg (Option.map _) (up_same _ _ _)).trans (congrArg (fun c=>some (Row.cells c 158)) (acH oG ao))
   .have aX:¬ k+1<f.blocks.length:=by have:=of_decide_eq_false h;omega
    have hkN:k+1=f.blocks.length:=by omega
    refine⟨k+3,aE eH ⟨?_,rfl,trivial⟩,by omega⟩;rw[<- acI lh, <- hkN];rfl
 rintro s ⟨N3,hg,XC⟩;have ss:=Ny (n:=n) lh;have zs:=YE CG.2.1 CG.2.2 lh;have LZ:∀ cs sz,(nY n f.blocks.length).map (fun p=>(p.1,sub (fz0 2 cs sz) p.2))=nY n f.blocks.length:=fun cs sz=>amF;have U:=zS (nY n f.blocks.length);generalize nY n f.blocks.length=T at hg ss zs LZ U;refine⟨_,hg,aw ?_⟩;refine aP ?_;refine ab (aO (aE (l:=[(1,.pt (aG f)),(3,I n),(4,.rs 1 0 f.blocks.length)]) (ml:=[(1,.cells (cO ((false,.rs 2 0 n)::T)) 158),(2,.cells ((List.replicate 0 true++List.replicate (n - 0) false).map B) 4)]) eH eH) (aC (aw ?_)));refine SS ?_
 refine ab (bO (fun s=>Ghost prog s ⟨az [(1,.pt (aG f)),(3,I n),(4,.rs 1 0 f.blocks.length)],aY [(1,.cells (cO ((false,.rs 2 0 n)::T)) 158),(2,.cells ((List.replicate a true++List.replicate (n - a) false).map B) 4)],N3⟩) (b8 (α:=Nat) (fun r=>⟨az [(1,.pt (aG f)),(3,I n),(4,.rs 1 0 f.blocks.length),(6,I r)],aY [(1,.cells (cO ((false,.rs 2 0 n)::T)) 158),(2,.cells ((List.replicate r true++List.replicate (n - r) false).map B) 4)],N3⟩)
  (fun r=>r<=a) (fun r=>a - r) 0 (aE eH eH) oG ?_) ?_)
 .intro r hr;refine aP ?_;refine ab ⟨_,rfl,fun h=>?_,fun h=>?_⟩
  .have ao:r<a:=by have:=of_decide_eq_true h;omega
   have ni:=E3 (x:=true) (y:=false) (n:=n) (k:=r) oG;have fM:(List.replicate r true++List.replicate (n - r) false).length=n:=by simp;omega
   refine dz ?_;refine c8 ?_;refine ab ?_;refine au ?_;refine ab (aJ (r+1) (aE eH ⟨rfl,?_,trivial⟩) oG oG);rw[<- ni,List.map_set];rfl
  .have aX:¬ r<a:=by have:=of_decide_eq_false h;omega
   have:r=a:=by omega
   subst this;exact aE eH eH
 clear hg;rintro s hg;refine⟨_,hg.trans (gQ (i:=2) (e:=4) (cs:=(List.replicate a true++List.replicate (n - a) false).map B) (l:=[(1,.pt (aG f)),(3,I n),(4,.rs 1 0 f.blocks.length)]) (ml:=[(1,.cells (cO (eg f.ag.length n f.blocks.length (jF f.blocks.length a))) 158)]) rfl eH ⟨?_,trivial⟩),aC (aw ?_)⟩
 .rw[c4,zs];refine congrArg (fun c=>some (Row.cells c 158)) ((Ff _ (fun _=>rfl) _).trans (congrArg cO ?_));rw[List.map_cons,LZ,yr,List.drop_zero,List.take_of_length_le oP];have:(List.replicate a true++List.replicate (n - a) false).length=n:=by simp;omega
  show(false,D.sl _ n)::T=(false,D.sl _ (List.length _))::T;rw[this]
 clear hg ss zs LZ U T;refine SS ?_;have hG0:=CG.1;clear CG;have xg:gI f.blocks a=l9 f.blocks (pK (jF f.blocks.length a)+1) (jF f.blocks.length a):=rfl;generalize gI f.blocks a=RR at xg ⊢
 refine ab (bO (fun s=>∃ N,Ghost prog s ⟨az [(4,.rs 1 0 f.blocks.length)],aY [(1,.cells (cO (eg f.ag.length n f.blocks.length RR)) 158)],N⟩) (uA (α:=CS×Nat)
  (fun s=>⟨az [(1,.pt (aG f)),(3,I n),(4,.rs 1 0 f.blocks.length),(7,B s.1.ch)],aY [(1,.cells (cO (eg f.ag.length n f.blocks.length s.1)) 158)],s.2⟩)
  (fun s=>o4 f.ag.length n f.blocks.length s.1/\2<=s.2/\(s.1.ch=true->∃ k,pK s.1<k/\l9 f.blocks k s.1=RR)/\(s.1.ch=false->s.1=RR)) (fun s=>2*pK s.1+if s.1.ch=true then 1 else 0) (jF f.blocks.length a,N3)
  (aE eH eH) ⟨hG0,by dsimp only;omega,fun _=>⟨_,Nat.lt_succ_self _,xg.symm⟩,fun h=>by cases h⟩ ?_) ?_)
 .rintro⟨C,N0⟩ ⟨hG,Wb,xq,wJ⟩;dsimp only at hG Wb xq wJ ⊢;refine SS ?_;refine ab ⟨_,rfl,fun h0=>?_,fun h=>?_⟩
  .obtain⟨iA,afK,CC⟩:=xq h0;obtain⟨iA,rfl⟩:∃ j,iA=j+1:=⟨iA - 1,by omega⟩
   have CD:=Br M.ok.blk hG.ok;refine ws ?_;refine SS ?_;refine ab (aw ?_);refine SS ?_
   refine ab (b8 (α:=Nat×Nat)
    (fun k=>⟨az [(1,.pt (aG f)),(3,I n),(4,.rs 1 0 f.blocks.length),(7,B ((List.range k.1).foldl (df f.blocks) ⟨C.ws,C.re,false⟩).ch),(8,I k.1)],aY [(1,.cells (cO (eg f.ag.length n f.blocks.length ((List.range k.1).foldl (df f.blocks) ⟨C.ws,C.re,false⟩))) 158)],k.2⟩)
    (fun k=>k.1<=f.blocks.length/\2<=k.2/\o4 f.ag.length n f.blocks.length ((List.range k.1).foldl (df f.blocks) ⟨C.ws,C.re,false⟩)) (fun k=>f.blocks.length - k.1) (0,N0) (aE eH eH) ⟨Nat.zero_le _,Wb,Pc hG false⟩ ?_)
   rintro⟨k,N⟩ ⟨hk,hN,zt⟩;dsimp only at hk hN zt ⊢;have bC:(List.range (k+1)).foldl (df f.blocks) ⟨C.ws,C.re,false⟩=df f.blocks ((List.range k).foldl (df f.blocks) ⟨C.ws,C.re,false⟩) k:=by rw[List.range_succ,List.foldl_append];rfl
   have fB:k=f.blocks.length->(List.range k).foldl (df f.blocks) ⟨C.ws,C.re,false⟩=jE f.blocks C:=fun e=>by rw[e,jE]
   generalize (List.range k).foldl (df f.blocks) ⟨C.ws,C.re,false⟩=u at zt bC fB;refine aP ?_;refine ab ⟨_,rfl,fun h=>?_,fun h=>?_⟩
   .have ao:k<f.blocks.length:=by simpa using h
    have hx:f.blocks[k]? =some f.blocks[k]:=List.getElem?_eq_getElem ao;have X:f.blocks[k]∈f.blocks:=List.getElem_mem _;generalize f.blocks[k]=x at hx X;have J:df f.blocks u k=if u.re.getD k false=true then(nextR x.fin).foldl (cw x.fin (iH x (u.ws.getD k [])).1) u else u:=by rw[df,hx]
    have Bk:=zA (R:=f.ag.length) (n:=n) (s:=u) ao;obtain⟨rr,kd⟩:=adJ Bk;have pP:=Pa Bk;have U:=(zS (eg f.ag.length n f.blocks.length u)).trans (congrArg (·*2) (vO f.ag.length n f.blocks.length u));have D9:bY f.ag.length n u k=if u.re.getD k false=true then⟨false,bW f.ag.length n (u.ws.getD k [])⟩ else⟨true,List.replicate n false⟩:=rfl
    have GZ:=zt.yes k ao;have Wc:=zt.ok.Wd ao;refine aC (aj ?_);cases ow:u.re.getD k false with
    |false=>
     rw[ow] at D9 J;rw[D9] at kd;have J:df f.blocks u k=u:=J;have kd:(cO (eg f.ag.length n f.blocks.length u)).drop (k*2+0)=B true::bq (List.replicate n false)::rr:=kd;refine aK ?_;refine ab (bh rfl (fun h=>kF (qj ?_)) fun h=>oH);refine au ?_;refine ab (aJ (k+1,N) (aE ⟨rfl,rfl,rfl,?_,rfl,trivial⟩ ⟨?_,trivial⟩) ⟨by dsimp only;omega,hN,?_⟩ oM)
     .dsimp only;rw[bC,J];rfl
     .dsimp only;rw[bC,J];rfl
     .dsimp only;rw[bC,J];exact zt
    |true=>
    rw[ow] at D9 J;rw[D9] at kd pP;have J:df f.blocks u k=(nextR x.fin).foldl (cw x.fin (iH x (u.ws.getD k [])).1) u:=J;have GZ:=GZ ow;generalize u.ws.getD k []=w at D9 J kd pP GZ Wc;have kd:(cO (eg f.ag.length n f.blocks.length u)).drop (k*2+0)=B false::bq (bW f.ag.length n w)::rr:=kd;refine aK ?_;refine ab (bh rfl (fun h=>oH) fun h=>bS (qS Zl ?_));have LM:(bW f.ag.length n w).length=n:=BI ..;obtain⟨q1,q2,q3⟩:=BJ (R:=f.ag.length) (n:=n) hR oG LY (l:=x.ins) (ok:=true) (fun y hy=>hn▸(M.ins x X y hy).1) Wc GZ;have vm:PCall prog 127 [.agg (aG f),I k,.agg (b7 ⟨false,bW f.ag.length n w⟩)] (.agg (b7 (eh f.ag.length x.ins ⟨false,bW f.ag.length n w⟩))):=vm hx (by rw[hn];exact LM) (by show(bW f.ag.length n w).length<=_;omega) (fun y hy=>(M.ins x X y hy).1) (by have:=(M.ok.blk x X).len;omega);rw[q1] at vm;have DF:(iH x w).1=(x.ins.foldl m8 (w,true)).1:=rfl;rw[DF] at J;clear DF;generalize (x.ins.foldl m8 (w,true)).1=w' at q1 q2 q3 vm J;refine aK ?_;refine aH (dU rfl rfl r6 lT pP) (by repeat' (first|exact trivial|exact rfl|refine And.intro ?_ ?_)) (dV t158 lT (by rw[U];omega)) ?_;refine cl vm ?_;refine af ?_;have amG:(bW f.ag.length n w').length=n:=BI ..;refine bk (by simp[apartT]) (aO (gQ (i:=N) (l:=[(1,.pt (aG f)),(3,I n),(4,.rs 1 0 f.blocks.length),(7,B u.ch),(8,I k),(9,.pt (b7 ⟨false,bW f.ag.length n w'⟩))]) (ml:=[(1,.cells (cO (eg f.ag.length n f.blocks.length u)) 158)]) (up_same _ _ _) ⟨rfl,rfl,zM oG,rfl,rfl,m9,trivial⟩ ⟨vS oG (ap oG (ap oG rfl)) Ie,trivial⟩) (aj ?_));have jT:=jT hx (by have:=hw x X;omega);rw[(M.ed x X).2] at jT;have cS:=(M.ok.blk x X).to;have ic:=vP x.fin;have XB:=hw x X;have pS:=M.wr x X;have AZ:=(M.ed x X).1;generalize nextR x.fin=l at jT cS ic J;refine af ?_;refine cl jT ?_;refine SS ?_;refine ab (aw ?_);refine SS ?_
    refine ab (b8 (α:=Nat×Nat)
     (fun j=>⟨az [(1,.pt (aG f)),(3,I n),(4,.rs 1 0 f.blocks.length),(7,B ((l.take j.1).foldl (cw x.fin w') u).ch),(8,I k),(9,.pt (b7 ⟨false,bW f.ag.length n w'⟩)),(10,ax l),(11,I j.1)],aY [(1,.cells (cO (eg f.ag.length n f.blocks.length ((l.take j.1).foldl (cw x.fin w') u))) 158)],j.2⟩)
     (fun j=>j.1<=l.length/\2<=j.2/\o4 f.ag.length n f.blocks.length ((l.take j.1).foldl (cw x.fin w') u)) (fun j=>l.length - j.1) (0,N+1) (aE eH eH) ⟨Nat.zero_le _,by dsimp only;omega,zt⟩ ?_)
    clear pP U;rintro⟨j,N'⟩ ⟨hj,GK,G0⟩;dsimp only at hj GK G0 ⊢;have dA:∀ t,l[j]? =some t->(l.take (j+1)).foldl (cw x.fin w') u=cw x.fin w' ((l.take j).foldl (cw x.fin w') u) t:=fun t ht=>iG ht;have jL:j=l.length->(l.take j).foldl (cw x.fin w') u=df f.blocks u k:=fun e=>by rw[J,List.take_of_length_le oG]
    generalize (l.take j).foldl (cw x.fin w') u=v at G0 dA jL;refine aP ?_;refine ab ⟨_,rfl,fun h=>?_,fun h=>?_⟩
    .have ct:j<l.length:=by simpa using h
     have ht:l[j]? =some l[j]:=List.getElem?_eq_getElem ct;have nB:=cS _ (List.getElem_mem ct);generalize l[j]=t at ht nB;obtain⟨i,rfl⟩:=Int.eq_ofNat_of_zero_le nB.1;have bd:i<f.blocks.length:=by omega
     have Bk:=zA (R:=f.ag.length) (n:=n) (s:=v) bd;have pP:=Pa Bk;have U:=(zS (eg f.ag.length n f.blocks.length v)).trans (congrArg (·*2) (vO f.ag.length n f.blocks.length v));have pT:=fun q=>Hw (L:=eg f.ag.length n f.blocks.length v) (t:=i) q (by rw[vO];exact bd);obtain⟨L1,fO⟩:=Pd (R:=f.ag.length) (n:=n) hR oG LY G0 AZ pS bd q2 q3;have dA:=dA _ ht
     have wQ:PCall prog 126 [.agg (aG f),I k,I i,.agg (b7 ⟨false,bW f.ag.length n w'⟩)] (.agg (b7 (mz x.fin i ⟨false,bW f.ag.length n w'⟩))):=wQ hx oG (by show(bW f.ag.length n w').length<=_;omega) (by
      rcases pS with e|⟨r,h1,h2⟩
      .exact .inl e
      .exact .inr ⟨r,by show r<(bW f.ag.length n w').length;omega,h2⟩)
     have kW:(mz x.fin i ⟨false,bW f.ag.length n w'⟩).is.length=n:=(Nw ..).trans amG;have cH:(bY f.ag.length n v i).is.length=n:=Hx;have AM:=AM (a:=bY f.ag.length n v i) (b:=mz x.fin i ⟨false,bW f.ag.length n w'⟩) (by rw[cH,kW]) oG;unfold AO at fO
     have A5:(oY (bY f.ag.length n v i) (mz x.fin i ⟨false,bW f.ag.length n w'⟩)).is.length=n:=by
      unfold oY;split
      .exact kW
      .split
       .exact cH
       .show(List.zipWith _ _ _).length=n;rw[List.length_zipWith];omega
     generalize oY (bY f.ag.length n v i) (mz x.fin i ⟨false,bW f.ag.length n w'⟩)=now at AM fO A5;generalize mz x.fin i ⟨false,bW f.ag.length n w'⟩=ov at wQ AM kW;generalize aqX:bY f.ag.length n v i=lq at AM fO cH pP;have pP:((cO (eg f.ag.length n f.blocks.length v)).drop (i*2)).take 2=b7 lq:=pP;refine aw ?_;refine bD ?_;refine aH (dU rfl rfl r6 lT pP) (by repeat' (first|exact trivial|exact rfl|refine And.intro ?_ ?_)) (dV t158 lT (by rw[U];omega)) ?_;refine af ?_;refine ab (aO (gQ (i:=N') (l:=[(1,.pt (aG f)),(3,I n),(4,.rs 1 0 f.blocks.length),(7,B v.ch),(8,I k),(9,.pt (b7 ⟨false,bW f.ag.length n w'⟩)),(10,ax l),(11,I j),(12,.pt (b7 lq))]) (ml:=[(1,.cells (cO (eg f.ag.length n f.blocks.length v)) 158)]) (up_same _ _ _) ⟨rfl,rfl,zM oG,rfl,rfl,rfl,rfl,rfl,m9,trivial⟩ ⟨vS oG (ap oG (ap oG rfl)) Ie,trivial⟩) (qS Zm ?_));refine bF ?_;refine cl wQ ?_;refine cl AM ?_;refine af ?_;refine bk (by simp[apartT]) (aO (gQ (i:=N'+1) (l:=[(1,.pt (aG f)),(3,I n),(4,.rs 1 0 f.blocks.length),(7,B v.ch),(8,I k),(9,.pt (b7 ⟨false,bW f.ag.length n w'⟩)),(10,ax l),(11,I j),(12,.pt (b7 lq)),(13,.pt (b7 now))]) (ml:=[(1,.cells (cO (eg f.ag.length n f.blocks.length v)) 158)]) (up_same _ _ _) ⟨rfl,rfl,zM oG,rfl,rfl,rfl,rfl,rfl,rfl,m9,trivial⟩ ⟨vS oG (ap oG (ap oG rfl)) Ie,trivial⟩) (aj ?_));refine aP ?_;refine aH (QP rfl rfl) ak V.h ?_;refine SS ?_;refine ab (aC (aw ?_));refine SS ?_
     refine ab (bO (fun s=>Ghost prog s ⟨az [(1,.pt (aG f)),(3,I n),(4,.rs 1 0 f.blocks.length),(7,B v.ch),(8,I k),(9,.pt (b7 ⟨false,bW f.ag.length n w'⟩)),(10,ax l),(11,I j),(13,.pt (b7 now)),(14,B (oZ lq now n))],aY [(1,.cells (cO (eg f.ag.length n f.blocks.length v)) 158)],N'+2⟩) (b8 (α:=Nat) (fun q=>⟨az [(1,.pt (aG f)),(3,I n),(4,.rs 1 0 f.blocks.length),(7,B v.ch),(8,I k),(9,.pt (b7 ⟨false,bW f.ag.length n w'⟩)),(10,ax l),(11,I j),(12,.pt (b7 lq)),(13,.pt (b7 now)),(14,B (oZ lq now q)),(15,I q)],aY [(1,.cells (cO (eg f.ag.length n f.blocks.length v)) 158)],N'+2⟩)
      (fun q=>q<=n) (fun q=>n - q) 0 (aE ⟨rfl,rfl,rfl,rfl,rfl,rfl,rfl,rfl,rfl,rfl,?_,rfl,trivial⟩ eH) oG ?_) ?_)
     .show B (lq.any==now.any)=B (oZ lq now 0);unfold oZ;rw[List.range_zero,List.all_nil,Bool.and_true]
     .intro q hq;have xE:=Zk lq now q;have XE:q=n->oZ lq now q=oZ lq now n:=fun e=>by rw[e]
      generalize oZ lq now q=sq at xE XE;refine au ?_;refine ab ⟨_,rfl,fun h=>?_,fun h=>?_⟩
      .have Bj:q<n:=by simpa using h
       have xB:lq.is[q]? =some lq.is[q]:=List.getElem?_eq_getElem oG;have XF:now.is[q]? =some now.is[q]:=List.getElem?_eq_getElem oG;rw[getD_some xB,getD_some XF] at xE;generalize lq.is[q]=b1 at xB xE;generalize now.is[q]=b2 at XF xE;refine nL Zn ?_;cases sq with
       |false=>
        refine af ?_;(iterate 11 refine z fun _ _=>?_);refine af ?_;refine bk (by simp[apartT]) ?_;refine au ?_;refine ab (aJ (q+1) (aE ⟨rfl,rfl,rfl,rfl,rfl,rfl,rfl,rfl,rfl,rfl,?_,rfl,trivial⟩ eH) oG oG);rw[xE];rfl
       |true=>
        refine aL ?_;refine bD ?_;refine bk (by simp[apartT]) ?_;refine au ?_;refine ab (aJ (q+1) (aE ⟨rfl,rfl,rfl,rfl,rfl,rfl,rfl,rfl,rfl,rfl,?_,rfl,trivial⟩ eH) oG oG);rw[xE];rfl
      .have aX:¬ q<n:=by simpa using h
       rw[<- XE oG];exact aE eH eH
     rintro s1 jy;have cN:=aak cH A5;generalize oZ lq now n=sq at jy cN;refine⟨_,jy,aj ?_⟩;clear jy;refine af ?_;refine ab (aq rfl (fun hp=>?_) fun hp=>cg ?_)
     .have hns:¬ (lq.any=now.any/\lq.is=now.is):=fun h=>by rw[cN.2 h] at hp;cases hp
      have pT:=pT (De now);rcases fO with⟨fO,_⟩|⟨_,n9,L2⟩
      .exact absurd ⟨congrArg Cert.any fO.symm,congrArg Cert.is fO.symm⟩ hns
      rw[Zj L2] at pT;refine dm Zo ?_;refine c8 ?_;refine b9 (gR (vs:=b7 now) rfl rfl rfl pT) (by repeat' (first|exact trivial|exact rfl|refine And.intro ?_ ?_)) (cP t158 lT ⟨rfl,by rw[U];omega⟩ rfl) ?_;refine bk (by simp[apartT]) (dz ?_);refine SS ?_;refine ab ?_;refine au ?_;refine ab (aJ (j+1,N'+2) (aE ⟨rfl,rfl,rfl,?_,rfl,rfl,rfl,rfl,trivial⟩ ⟨?_,trivial⟩) ⟨by dsimp only;omega,by dsimp only;omega,?_⟩ oM)
      .dsimp only;rw[dA,n9];rfl
      .dsimp only;rw[dA];rfl
      .dsimp only;rw[dA];exact L1
     .have hsq:sq=true:=by simpa using hp
      have XG:=cN.1 hsq;rcases fO with⟨_,fO⟩|⟨aB,_,_⟩
      .rw[fO] at dA L1;refine au ?_;refine ab (aJ (j+1,N'+2) (aE ⟨rfl,rfl,rfl,?_,rfl,rfl,rfl,rfl,trivial⟩ ⟨?_,trivial⟩) ⟨by dsimp only;omega,by dsimp only;omega,?_⟩ oM)
       .dsimp only;rw[dA];rfl
       .dsimp only;rw[dA];rfl
       .dsimp only;rw[dA];exact L1
      .exfalso;rcases aB with h|h
       .exact h XG.1.symm
       .exact h XG.2.symm
    .have aX:¬ j<l.length:=by simpa using h
     have vl:=jL oG;subst vl;show AOps _ _ _ _ _ _ _ _ _;refine au ?_;refine ab (aJ (k+1,N') (aE ⟨rfl,rfl,rfl,?_,rfl,trivial⟩ ⟨?_,trivial⟩) ⟨by dsimp only;omega,GK,?_⟩ oM)
     .dsimp only;rw[bC];rfl
     .dsimp only;rw[bC];rfl
     .dsimp only;rw[bC];exact G0
   .have aX:¬ k<f.blocks.length:=by simpa using h
    have hl:=fB oG;subst hl;refine aJ (jE f.blocks C,N) (aE eH eH) ⟨zt,hN,fun hc=>?_,fun hc=>?_⟩ ?_
    .refine⟨iA,?_,?_⟩
     .have:=CD.2;unfold nA at this;show pK (jE f.blocks C)<iA;rw[if_pos hc] at this;omega
     .dsimp only at hc ⊢;rw[<- CC,l9,if_pos hc]
    .dsimp only at hc ⊢;rw[<- CC,l9,if_neg (by simp[hc])]
    .have:=CD.2;unfold nA at this;dsimp only;rw[if_pos h0];split at this<;>rename_i hc
     .rw[if_pos hc];omega
     .rw[if_neg hc];omega
  .have y8:=wJ h;subst y8;exact⟨N0,aE eH eH⟩
 .rintro s ⟨N4,hg⟩;refine⟨_,hg,aw ?_⟩;refine af ?_;refine ab (aO (bw [(1,cO (eg f.ag.length n f.blocks.length RR),158)] eH (l:=[(2,.sl (cO (eg f.ag.length n f.blocks.length RR)) f.blocks.length)]) ⟨?_,trivial⟩) (ay rfl rfl));show sub (fz0 1 _ (prog.cellsOf 158)) (D.rs 1 0 f.blocks.length)=_;rw[iY (by rw[lT,zS,vO])]
end Go.Proofs.Tryz.K
namespace Go.Argus
open Go.Proofs.Tryz.K (nextR)
@[simp] theorem MS (p : Bool × D) : (nX p).length = 2 := rfl
theorem MC{f:aF}(h:ik f=true):∀ b∈f.blocks,jg f b.fin=true:=fun b hb=>by
 unfold ik at h;simp only[Bool.and_eq_true] at h;obtain⟨_,_,_,h4,_⟩:=h;obtain⟨k,hk⟩:=List.getElem?_of_mem hb;have:=List.all_eq_true.1 h4 k (by simpa using(List.getElem?_eq_some_iff.1 hk).1);unfold jb at this;simp only[getD_some hk,Bool.and_eq_true] at this;exact this.1
theorem EN{f:aF}{k:Nat}{x:bP}(h:f.blocks[k]? =some x):aD f k=nextR x.fin:=by
 unfold aD a7 cm;rw[List.getD_eq_getElem?_getD,List.getElem?_map,h];rfl
theorem acJ{l:List Bool}{b:Nat}(hb:b<l.length)(h:l.getD b false=false):(l.set b true).count false<l.count false:=by
 have:=sK (sL h hb);omega
end Go.Argus
namespace Go.Proofs.Tryz.K
set_option maxRecDepth 10000
set_option maxHeartbeats 2000000 in
theorem ld{f:aF}(hs:uO f)(hw:∀ b∈f.blocks,b.fin.aI.length<=9):PCall prog 55 [.agg (aG f)] (I (cR f)):=by
 rw[<- aal];have AK:=AK hs hw;have GH:I6 f=if uC f=true then(if(List.range f.blocks.length).all (o5 f (gI f.blocks f.args.toNat))=true then 0 else 81) else 80:=rfl
 refine a9 mixed We (by rw[amH];rfl) (.cons (.agg (gn f)) .nil) (Tr.s _) ?_;rw[amI,amJ,GH];clear GH;refine aw ?_;refine af ?_;refine ab (aO (bw [(0,aG f,26)] eH (l:=[(1,.pt (aG f))]) eH) (aj ?_));cases hf:uC f with
 |false=>
  rw[hf] at AK;refine SS ?_;refine cl AK ?_;refine SS ?_;refine ab (aC (aj ?_));refine af ?_;refine ab (bh rfl (fun _=>?_) fun h=>oH);refine aC (aj ?_);refine SS ?_;exact ab (cU (ay rfl rfl))
 |true=>
 rw[hf] at AK;rw[if_pos rfl];rw[MX] at hf;have he:=MC hf;have U:=Aj hf;have AN:=AN U hw;have hR:=U.ok.ag;have hS:=U.sl;have A8:=U.ok.gO;have nF:=nF (f:=f) rfl oG hw (fun b hb t ht=>by rw[(U.ed b hb).2] at ht;exact(U.ok.blk b hb).to t ht)
 have XH:∀ k,k<f.blocks.length->(iL f.blocks)[k]? =some (bA f.blocks f.blocks.length k):=fun k hk=>by
  rw[<- HL he];simp[iL,hk]
 have zq:(iL f.blocks).length=f.blocks.length:=by simp[iL]
 generalize iL f.blocks=L at nF XH zq
 have XI:Cu f (gI f.blocks f.args.toNat)=.sl ((eg f.ag.length (f.ag.length+f.aR.length) f.blocks.length (gI f.blocks f.args.toNat)).flatMap nX) (eg f.ag.length (f.ag.length+f.aR.length) f.blocks.length (gI f.blocks f.args.toNat)).length:=by
  unfold Cu;rw[vO];rfl
 rw[XI] at AN;clear XI;generalize gI f.blocks f.args.toNat=RR at AN ⊢;have L3:∀ k,k<f.blocks.length->(eg f.ag.length (f.ag.length+f.aR.length) f.blocks.length RR)[k]? =some (De (bY f.ag.length (f.ag.length+f.aR.length) RR k)):=fun k hk=>zA hk;have hCl:=vO f.ag.length (f.ag.length+f.aR.length) f.blocks.length RR;generalize eg f.ag.length (f.ag.length+f.aR.length) f.blocks.length RR=CP at AN L3 hCl;refine SS ?_;refine cl AK ?_;refine SS ?_;refine ab (aC (aj ?_));refine af ?_;refine ab (bh rfl (fun h=>oH) fun _=>bS (aj ?_));refine SS ?_;refine cl AN ?_;refine SS ?_;refine er ?_;refine SS ?_;refine cl nF ?_;refine SS ?_;refine ab (aC (aw ?_));refine SS ?_
 refine ab (bO (fun s=>(∃ N,Ghost prog s ⟨az [],fun _=>none,N⟩)/\(List.range f.blocks.length).all (o5 f RR)=true) (b8 (α:=Nat×Nat) (fun q=>⟨az [(1,.pt (aG f)),(4,.sl (CP.flatMap nX) CP.length),(5,bp L),(6,I q.1)],fun _=>none,q.2⟩)
  (fun q=>q.1<=f.blocks.length/\(List.range q.1).all (o5 f RR)=true) (fun q=>f.blocks.length - q.1) (0,1) (fw eH) ⟨Nat.zero_le _,rfl⟩ ?_) ?_)
 .rintro⟨k,N⟩ ⟨hk,br⟩;dsimp only at hk br ⊢;refine aK ?_;refine ab ⟨_,rfl,fun h=>?_,fun h=>?_⟩
  .have ao:k<f.blocks.length:=by simpa using h
   have hx:f.blocks[k]? =some f.blocks[k]:=List.getElem?_eq_getElem ao;have bQ:f.blocks[k]∈f.blocks:=List.getElem_mem _;have Bk:=L3 k ao;have kn:o5 f RR k=false->(if(List.range f.blocks.length).all (o5 f RR)=true then(0:Int) else 81)=81:=fun hq=>by rw[nH ao hq];rfl
   have xG:o5 f RR k=((bY f.ag.length (f.ag.length+f.aR.length) RR k).any||((List.range f.blocks[k].ins.length).all (yO f RR k f.blocks[k].ins (bY f.ag.length (f.ag.length+f.aR.length) RR k))&&qP (eh f.ag.length f.blocks[k].ins (bY f.ag.length (f.ag.length+f.aR.length) RR k)) (cn f.blocks[k].fin))):=by
    unfold o5;simp only[getD_some hx]
   have cH:(bY f.ag.length (f.ag.length+f.aR.length) RR k).is.length=f.ag.length+f.aR.length:=Hx;generalize f.blocks[k]=x at hx bQ xG;generalize bY f.ag.length (f.ag.length+f.aR.length) RR k=c at Bk xG cH;obtain⟨ca,C⟩:=c;refine aC (aj ?_);cases ca with
   |true=>
    refine aK ?_;refine ab (bh rfl (fun h=>kF (qj ?_)) fun h=>oH);refine au ?_;exact ab (aJ (k+1,N) (fw eH) ⟨by dsimp only;omega,kE br xG⟩ oM)
   |false=>
   refine aK ?_;refine ab (bh rfl (fun h=>oH) fun h=>bS (aw ?_));rw[show({ any:=false,is:=C }:Cert).any=false from rfl,Bool.false_or] at xG;refine bD ?_;refine ab (aO (aE (l:=[(1,.pt (aG f)),(4,.sl (CP.flatMap nX) CP.length),(5,bp L),(6,I k),(7,.rp N 0)]) (ml:=[(N,.cells (b7 ⟨false,C⟩) 158)]) eH ⟨up_same _ _ _,trivial⟩) (aj ?_));refine c8 ?_;have cI:=(U.ok.blk x bQ).len;have amK:=U.ins x bQ;have yE:=U.GO k x hx;have hAg:=XH k ao;have rV:=Es (fun b hb t ht=>((U.ok.blk b hb).to t ht).1) f.blocks.length k;have aiZ:=U.ok.blk;have J:∀ y q,o6 f RR k y q=o6 f RR k y q:=fun _ _=>rfl;refine ab (aC (aw ?_));refine SS ?_
   refine ab (bO (fun s=>∃ N',Ghost prog s ⟨az [(1,.pt (aG f)),(4,.sl (CP.flatMap nX) CP.length),(5,bp L),(6,I k),(7,.rp N 0)],aY [(N,.cells (b7 (eh f.ag.length x.ins ⟨false,C⟩)) 158)],N'⟩/\N<N'/\(List.range x.ins.length).all (yO f RR k x.ins ⟨false,C⟩)=true) (b8 (α:=Nat×Nat) (fun j=>⟨az [(1,.pt (aG f)),(4,.sl (CP.flatMap nX) CP.length),(5,bp L),(6,I k),(7,.rp N 0),(8,gp x.ins),(9,I j.1)],aY [(N,.cells (b7 (eh f.ag.length (x.ins.take j.1) ⟨false,C⟩)) 158)],j.2⟩)
    (fun j=>j.1<=x.ins.length/\N<j.2/\(List.range j.1).all (yO f RR k x.ins ⟨false,C⟩)=true) (fun j=>x.ins.length - j.1) (0,N+1) (aE eH ⟨up_same _ _ _,trivial⟩) ⟨Nat.zero_le _,Nat.lt_succ_self _,rfl⟩ ?_) ?_)
   .rintro⟨j,M⟩ ⟨hj,hM,um⟩;dsimp only at hj hM um ⊢;have aU:∀ y,x.ins[j]? =some y->eh f.ag.length (x.ins.take (j+1)) ⟨false,C⟩=vj f.ag.length (eh f.ag.length (x.ins.take j) ⟨false,C⟩) y:=fun y hy=>iG hy;have fB:j=x.ins.length->eh f.ag.length (x.ins.take j) ⟨false,C⟩=eh f.ag.length x.ins ⟨false,C⟩:=fun e=>by rw[e,List.take_length]
    have xF:=(Bz f.ag.length (x.ins.take j) ⟨false,C⟩).trans cH;have cY:yO f RR k x.ins ⟨false,C⟩ j=(opsV f.ag.length (eh f.ag.length (x.ins.take j) ⟨false,C⟩) (x.ins.getD j dt)&&AP f RR k (x.ins.getD j dt)):=rfl;generalize eh f.ag.length (x.ins.take j) ⟨false,C⟩=d at aU fB xF cY;refine aP ?_;refine ab ⟨_,rfl,fun h=>?_,fun h=>?_⟩
    .have ct:j<x.ins.length:=by simpa using h
     have hy:x.ins[j]? =some x.ins[j]:=List.getElem?_eq_getElem ct;have aU:=aU _ hy;rw[getD_some hy] at cY;have vA:=amK _ (List.getElem_mem ct);have sA:=yE j _ hy;have rO:yO f RR k x.ins ⟨false,C⟩ j=false->(if(List.range f.blocks.length).all (o5 f RR)=true then(0:Int) else 81)=81:=fun hq=>kn (by rw[xG,nH ct hq];rfl);generalize x.ins[j]=y at hy aU cY vA sA;refine aw ?_;refine bD ?_;refine ab (aO (gQ (i:=M) (l:=[(1,.pt (aG f)),(4,.sl (CP.flatMap nX) CP.length),(5,bp L),(6,I k),(7,.rp N 0),(8,gp x.ins),(9,I j),(10,.pt (bl y))]) (ml:=[(N,.cells (b7 d) 158)]) (up_same _ _ _) ⟨rfl,rfl,rfl,rfl,uz oG,rfl,rfl,m9,trivial⟩ ⟨vS oG (ap oG (ap oG (up_same _ _ _))) rfl,trivial⟩) (dE (fun s=>Ghost prog s ⟨az [(1,.pt (aG f)),(4,.sl (CP.flatMap nX) CP.length),(5,bp L),(6,I k),(7,.rp N 0),(8,gp x.ins),(9,I j),(10,.pt (bl y))],aY [(N,.cells (b7 d) 158)],M+1⟩/\opsV f.ag.length d y=true) ?_ ?_))
     .have bB:=(aiZ x bQ).ins y (List.mem_of_getElem? hy);clear aU sA;obtain⟨X,yt,ya,yb,yn,yl⟩:=y;have ot:opsV f.ag.length d ⟨X,yt,ya,yb,yn,yl⟩=((X !=17||d.is.getD ((f.ag.length:Int)+yn).toNat false)&&qP d (cr ⟨X,yt,ya,yb,yn,yl⟩)):=rfl;have wP:=wP (x:=⟨X,yt,ya,yb,yn,yl⟩) (fun ho=>by have:=bB.ar ho;dsimp only at this ⊢;omega)
      have r5:=r5 (c:=d) (rs:=cr ⟨X,yt,ya,yb,yn,yl⟩) (fun r hr=>by
       obtain⟨i,h1,h2⟩:=vA.2.r r hr
       exact⟨i,by omega,h2⟩)
      generalize qP d (cr ⟨X,yt,ya,yb,yn,yl⟩)=v at r5 ot;generalize cr ⟨X,yt,ya,yb,yn,yl⟩=rs at r5 wP;have Wf:opsV f.ag.length d ⟨X,yt,ya,yb,yn,yl⟩=false->I 81=I (if(List.range f.blocks.length).all (o5 f RR)=true then 0 else 81):=fun hq=>by rw[rO (by rw[cY,hq];rfl)]
      refine dm aam ?_;by_cases gE:X=17
      .obtain⟨i,hi,e⟩:=vA.2.s gE;dsimp only at e;subst e;have XJ:d.is[f.ag.length+i]? =some d.is[f.ag.length+i]:=List.getElem?_eq_getElem oG;have fh:(X==17)=true:=by simp[gE]
       rw[show((f.ag.length:Int)+(i:Int)).toNat=f.ag.length+i by omega,getD_some XJ,show(X !=17)=false by simp[gE],Bool.false_or] at ot;generalize d.is[f.ag.length+i]=b at XJ ot;have hqn:({ op:=X,to:=yt,a:=ya,b:=yb,n:=(i:Int),args:=yl }:bt).n=(i:Int):=rfl;refine aL ?_;refine af ?_;refine bG rfl rfl (SQ rfl rfl oG) (fun hc=>⟨ak,rfl⟩) ?_;refine aK ?_;refine bG rfl rfl (dU rfl (up_same _ _ _) V.h V.h rfl) (fun hc=>⟨ak,(dV V.h V.h (by first|(simp;done)|omega|exact Nat.le_of_ble_eq_true rfl))⟩) ?_;refine SS ?_;refine gc wP ?_;refine gc r5 ?_;refine af ?_;refine bk (by simp[apartT]) (aq rfl (fun hp=>aj ?_) fun hp=>aZ ⟨aE eH ⟨up_same _ _ _,trivial⟩,by rw[ot];revert hp;cases b<;>cases v<;>simp⟩);refine SS ?_;exact ab (aV (aT (cq (aT (cq (aT (ay rfl (Wf (by rw[ot];revert hp;cases b<;>cases v<;>simp)))))))))
      .have fh:(X==17)=false:=by simp[gE]
       rw[show(X !=17)=true by simp[gE],Bool.true_or,Bool.true_and] at ot;refine aP ?_;(iterate 11 refine z fun _ _=>?_);refine af ?_;refine bG rfl rfl (dU rfl (up_same _ _ _) V.h V.h rfl) (fun hc=>⟨ak,(dV V.h V.h (by first|(simp;done)|omega|exact Nat.le_of_ble_eq_true rfl))⟩) ?_;refine SS ?_;refine gc wP ?_;refine gc r5 ?_;refine af ?_;refine bk (by simp[apartT]) (aq rfl (fun hp=>aj ?_) fun hp=>aZ ⟨aE eH ⟨up_same _ _ _,trivial⟩,by rw[ot];revert hp;cases v<;>simp⟩);refine SS ?_;exact ab (aV (aT (cq (aT (cq (aT (ay rfl (Wf (by rw[ot];revert hp;cases v<;>simp)))))))))
     rintro s ⟨hg,Wg⟩;rw[Wg,Bool.true_and] at cY;clear Wg;have qB:=qB (x:=y)
     have hp:Dc d.is.length (cZ y):=by
      rcases vA.1.w with e|⟨i,h1,h2⟩
      .exact .inl e
      .exact .inr ⟨i,by omega,h2⟩
     have kw:=jt (c:=d) oG hp;have xx:=(EF d (cZ y)).trans xF
     have kv:y.op=18->PCall prog 124 [.agg (b7 (iP d (cZ y))),I ((f.ag.length:Int)+y.n)] (.agg (b7 (iP (iP d (cZ y)) ((f.ag.length:Int)+y.n)))):=fun e=>jt oG (by
      obtain⟨i,h1,h2⟩:=vA.1.s e
      exact .inr ⟨f.ag.length+i,by omega,by rw[h2];omega⟩)
     have fq:y.op=18->0<=y.n/\y.n<=2000:=fun e=>by
      obtain⟨i,h1,h2⟩:=vA.1.s e;omega
     have rR:=aU;unfold vj at rR;generalize iP d (cZ y)=d1 at kw xx kv rR;generalize cZ y=w at qB kw;have jt:=kw;refine⟨_,hg,qS aan ?_⟩;clear hg;refine af ?_;refine cl qB ?_;refine cl jt ?_;refine SS ?_;refine bk (by simp[apartT]) (aO (aE (l:=[(1,.pt (aG f)),(4,.sl (CP.flatMap nX) CP.length),(5,bp L),(6,I k),(7,.rp N 0),(8,gp x.ins),(9,I j),(10,.pt (bl y))]) (ml:=[(N,.cells (b7 d1) 158)]) eH ⟨up_same _ _ _,trivial⟩) (dE (fun s=>Ghost prog s ⟨az [(1,.pt (aG f)),(4,.sl (CP.flatMap nX) CP.length),(5,bp L),(6,I k),(7,.rp N 0),(8,gp x.ins),(9,I j),(10,.pt (bl y))],aY [(N,.cells (b7 (eh f.ag.length (x.ins.take (j+1)) ⟨false,C⟩)) 158)],M+1⟩) (aj ?_) ?_))
     .refine au ?_;refine ab (aq rfl (fun dI=>kK ?_) fun dI=>aZ ?_)
      .have dI:y.op=18:=by simpa using dI
       rw[if_pos dI] at rR;have jt:=kv dI;have lY:=fq dI;refine c8 ?_;refine cl jt ?_;refine SS ?_;refine ab (aE eH ⟨?_,trivial⟩);rw[rR];exact up_same _ _ _
      .have dI:¬ y.op=18:=by simpa using dI
       rw[if_neg dI] at rR;refine aE eH ⟨?_,trivial⟩;rw[rR];exact up_same _ _ _
     intro s hg;refine⟨_,hg,aw ?_⟩;clear hg rR kw kv xx jt qB hp fq aU;refine SS ?_;generalize XK:eh f.ag.length (x.ins.take (j+1)) ⟨false,C⟩=dj
     refine ab (b8 (α:=Nat×Nat) (fun q=>⟨az [(1,.pt (aG f)),(4,.sl (CP.flatMap nX) CP.length),(5,bp L),(6,I k),(7,.rp N 0),(8,gp x.ins),(9,I j),(10,.pt (bl y)),(11,I q.1)],aY [(N,.cells (b7 dj) 158)],q.2⟩)
      (fun q=>q.1<=y.args.length/\N<q.2/\(q.1=0\/y.op=19)/\(List.range q.1).all (o6 f RR k y)=true) (fun q=>y.args.length - q.1) (0,M+1) (aE eH ⟨up_same _ _ _,trivial⟩) ⟨Nat.zero_le _,by dsimp only;omega,.inl rfl,rfl⟩ ?_)
     rintro⟨q,M2⟩ ⟨hq,G3,amL,D'⟩;dsimp only at hq G3 amL D' ⊢;by_cases eB:y.op=19
     .have fh:(y.op==19)=true:=by simp[eB]
      have XL:bT y=true:=by simp[bT,eB]
      have sA:=(sA XL).1;have G4:AP f RR k y=(List.range y.args.length).all (o6 f RR k y):=by unfold AP;rw[XL];rfl
      have DI:∀ p∈bA f.blocks f.blocks.length k,∃ pn:Nat,p=pn/\pn<f.blocks.length:=fun p hp=>by
       obtain⟨b,h1,h2,_⟩:=Bt.1 hp;exact⟨b,h1,h2⟩
      have J:∀ q,o6 f RR k y q=((bY f.ag.length (f.ag.length+f.aR.length) RR ((bA f.blocks f.blocks.length k).getD q 0).toNat).any||(mz (f.blocks.getD ((bA f.blocks f.blocks.length k).getD q 0).toNat jn).fin k (eh f.ag.length (f.blocks.getD ((bA f.blocks f.blocks.length k).getD q 0).toNat jn).ins (bY f.ag.length (f.ag.length+f.aR.length) RR ((bA f.blocks f.blocks.length k).getD q 0).toNat))).is.getD (y.args.getD q 0).toNat false):=fun q=>rfl;have amM:=vA.2.p eB;have za:=Ep hw f.blocks.length k;generalize bA f.blocks f.blocks.length k=A at sA DI J hAg za;by_cases Bj:q<y.args.length
      .have tI:decide ((q:Int)<(y.args.length:Int))=true:=decide_eq_true oG;refine bF ?_;refine Wh ?_;refine SS ?_;refine ab ⟨_,rfl,fun h=>?_,fun h=>oH⟩;have J:=J q;have XM:A[q]? =some A[q]:=List.getElem?_eq_getElem oG;obtain⟨pn,e1,DJ⟩:=DI _ (List.getElem_mem (h:=by omega):A[q]∈A);rw[e1] at XM;clear e1;rw[getD_some XM,Int.toNat_natCast] at J;have zs:=L3 pn DJ;have KH:(bY f.ag.length (f.ag.length+f.aR.length) RR pn).is.length=f.ag.length+f.aR.length:=Hx;generalize bY f.ag.length (f.ag.length+f.aR.length) RR pn=cp at zs J KH;obtain⟨pa,pi⟩:=cp;refine ws ?_;refine bF ?_;refine ab (aC (aj ?_));cases pa with
       |true=>
        refine aK ?_;refine ab (bh rfl (fun h=>kF (qj ?_)) fun h=>oH);refine au ?_;exact ab (aJ (q+1,M2) (aE eH ⟨up_same _ _ _,trivial⟩) ⟨by dsimp only;omega,G3,.inr eB,kE D' J⟩ oM)
       |false=>
       refine aK ?_;refine ab (bh rfl (fun h=>oH) fun h=>bS (qS aao ?_));have ud:f.blocks[pn]? =some f.blocks[pn]:=List.getElem?_eq_getElem DJ;have pk:f.blocks[pn]∈f.blocks:=List.getElem_mem _;rw[getD_some ud] at J;generalize f.blocks[pn]=xp at ud pk J;have vm:=vm (c:=⟨false,pi⟩) ud KH oG (fun y hy=>(U.ins xp pk y hy).1) (by have:=(U.ok.blk xp pk).len;omega);have iC:=(Bz f.ag.length xp.ins ⟨false,pi⟩).trans KH;generalize eh f.ag.length xp.ins ⟨false,pi⟩=pc at vm J iC
       have wQ:=wQ (c:=pc) (to:=(k:Int)) ud (by have:=hw xp pk;omega) oG (by
        rcases U.wr xp pk with e|⟨r,h1,h2⟩
        .exact .inl e
        .exact .inr ⟨r,by omega,h2⟩)
       have y3:=(Nw xp.fin k pc).trans iC;generalize mz xp.fin k pc=zQ at wQ J y3;have GU:y.args[q]? =some y.args[q]:=List.getElem?_eq_getElem Bj;obtain⟨ri,Ln,e2⟩:=amM _ (List.getElem_mem Bj);rw[e2] at GU;clear e2;have L4:zQ.is[ri]? =some zQ.is[ri]:=List.getElem?_eq_getElem oG;rw[getD_some GU,Int.toNat_natCast,getD_some L4] at J;generalize zQ.is[ri]=bz at L4 J;have J:o6 f RR k y q=bz:=J;refine aL ?_;refine cl vm ?_;refine cl wQ ?_;refine af ?_;refine bk (by simp[apartT]) (aO (gQ (i:=M2) (l:=[(1,.pt (aG f)),(4,.sl (CP.flatMap nX) CP.length),(5,bp L),(6,I k),(7,.rp N 0),(8,gp x.ins),(9,I j),(10,.pt (bl y)),(11,I q),(13,.pt (b7 zQ))]) (ml:=[(N,.cells (b7 dj) 158)]) (up_same _ _ _) ⟨rfl,rfl,rfl,rfl,uz oG,rfl,rfl,rfl,rfl,m9,trivial⟩ ⟨vS oG (ap oG (ap oG (up_same _ _ _))) rfl,trivial⟩) (dm aap ?_));refine bF ?_;refine af ?_;refine bk (by simp[apartT]) (aq rfl (fun hp=>aj ?_) fun hp=>cg ?_)
       .have L5:bz=false:=by simpa using hp
        refine SS ?_;refine ab (aV (cq (cq (aT (cq (aT (ay (d:=I 81) rfl ?_)))))));rw[rO (by rw[cY,G4,nH Bj (by rw[J,L5])])]
       .have L5:bz=true:=by simpa using hp
        refine au ?_;exact ab (aJ (q+1,M2+1) (aE eH ⟨up_same _ _ _,trivial⟩) ⟨by dsimp only;omega,by dsimp only;omega,.inr eB,kE D' (by rw[J,L5])⟩ oM)
      .have tI:decide ((q:Int)<(y.args.length:Int))=false:=decide_eq_false oG;have:q=y.args.length:=by omega
       subst this;rw[<- G4] at D';refine bF ?_;refine Wh ?_;refine SS ?_;refine ab ⟨_,rfl,fun h=>oH,fun h=>?_⟩;show AOps _ _ _ _ _ _ _ _ _;refine au ?_;refine ab (aJ (j+1,M2) (aE eH ⟨?_,trivial⟩) ⟨by dsimp only;omega,G3,kE um (by rw[cY,D'])⟩ oM);dsimp only;rw[XK];exact up_same _ _ _
     .have fh:(y.op==19)=false:=by simp[eB]
      have G4:AP f RR k y=true:=by unfold AP bT;simp[eB]
      refine aP ?_;(iterate 5 refine z fun _ _=>?_);refine SS ?_;refine ab ⟨_,rfl,fun h=>oH,fun h=>?_⟩;show AOps _ _ _ _ _ _ _ _ _;refine au ?_;refine ab (aJ (j+1,M2) (aE eH ⟨?_,trivial⟩) ⟨by dsimp only;omega,G3,kE um (by rw[cY,G4])⟩ oM);dsimp only;rw[XK];exact up_same _ _ _
    .have aX:¬ j<x.ins.length:=by simpa using h
     have:j=x.ins.length:=by omega
     subst this;rw[<- fB rfl];exact⟨M,aE eH ⟨up_same _ _ _,trivial⟩,hM,um⟩
   .rintro s ⟨M,hg,hM,iU⟩;rw[iU,Bool.true_and] at xG;have xF:=(Bz f.ag.length x.ins ⟨false,C⟩).trans cH;refine⟨_,hg,dm aaq ?_⟩;generalize eh f.ag.length x.ins ⟨false,C⟩=d at xG xF;have Gl:=Gl (x:=x.fin) (fun h5 ho=>by have:=(U.ok.alQ x bQ h5).ar ho;omega) (fun h1=>by have:=(U.ok.ends x bQ).fin.a2 (by rcases h1 with e|e<;>simp[aN,e]);omega)
    have r5:=r5 (c:=d) (rs:=cn x.fin) (fun r hr=>by
     obtain⟨i,h1,h2⟩:=U.rd x bQ r hr
     exact⟨i,by omega,h2⟩)
    rw[<- xG] at r5;generalize cn x.fin=rs at Gl r5;refine c8 ?_;refine cl Gl ?_;refine cl r5 ?_;refine SS ?_;refine bk (by simp[apartT]) (aq rfl (fun hp=>?_) fun hp=>cg ?_)
    .refine ws ?_;refine SS ?_;refine ab (aV (cq (aT (ay (d:=I 81) rfl ?_))));rw[kn (by simpa using hp)]
    .refine au ?_;exact ab (aJ (k+1,M) (fw eH) ⟨by dsimp only;omega,kE br (by simpa using hp)⟩ oM)
  .have aX:¬ k<f.blocks.length:=by simpa using h
   have:k=f.blocks.length:=by omega
   subst this;exact⟨⟨N,fw (l:=[]) trivial⟩,br⟩
 .rintro s ⟨⟨N,hg⟩,br⟩;refine⟨_,hg,aj ?_⟩;refine SS ?_;refine ab (ay (d:=I 0) rfl ?_);rw[br];rfl
end Go.Proofs.Tryz.K
end
namespace Go.Argus
open Go Go.Abs
section
variable{beh:Nat->List Int}{w:Int}{S:Nat->Prop}(hS:∀ x,S x->∀ c∈beh x,c≠w->S c.toNat)
include hS
theorem QH:∀ (k:Nat) (s:List Bool×List Int) (b:Nat),S b->(∀ i,s.1.getD i false=true->S i)->∀ i,(du beh w k s b).1.getD i false=true->S i
 |0,s,b,_,h,i,hi=>h i hi
 |k+1,s,b,hb,h,i,hi=>by
  rw[sN] at hi
  have h1:∀ i,(s.1.set b true).getD i false=true->S i:=fun i hi=>by
   rw[List.getD_eq_getElem?_getD,List.getElem?_set] at hi;by_cases e:b=i
   .subst e;exact hb
   .rw[if_neg e, <- List.getD_eq_getElem?_getD] at hi;exact h i hi
  have key:∀ l:List Int,(∀ c∈l,c∈beh b)->∀ t:List Bool×List Int,(∀ i,t.1.getD i false=true->S i)->∀ i,(cV beh w k t l).1.getD i false=true->S i:=fun l=>by
   induction l with
   |nil=>exact fun _ t ht i hi=>ht i hi
   |cons c l ih=>
    intro hl t ht i hi;unfold cV at hi;rw[List.foldl_cons] at hi;refine ih (fun c hc=>hl c (by simp[hc])) _ ?_ i hi;split
    .rename_i hc;exact QH k t c.toNat (hS b hb c (hl c oS) hc.2) ht
    .exact ht
  exact key (beh b) (fun _ h=>h) _ h1 i hi
theorem NO{n:Nat}(h0:S 0):∀ i,(a8 beh n w).getD i false=true->S i:=fun i hi=>by
 have C:∀ i,(List.replicate n false).getD i false=false:=fun i=>by
  rw[List.getD_eq_getElem?_getD,List.getElem?_replicate];split<;>rfl
 unfold a8 at hi;split at hi
 .rw[C] at hi;cases hi
 .exact QH hS n _ 0 h0 (fun i hi=>by rw[C] at hi;cases hi) i hi
end
theorem MY{beh:Nat->List Int}{n:Nat}{w:Int}(hb:∀ b,∀ c∈beh b,0<=c/\c.toNat<n)(hn:0<n)(C:w≠0):(a8 beh n w).getD 0 false=true/\∀ x,(a8 beh n w).getD x false=true->∀ c∈beh x,c≠w->(a8 beh n w).getD c.toNat false=true:=by
 obtain⟨_,h2,h3⟩:=Di hb hn w;unfold a8;rw[if_neg C];exact⟨h2,h3⟩
theorem abB{beh:Nat->List Int}{n:Nat}{w:Int}(hb:∀ b,∀ c∈beh b,0<=c/\c.toNat<n)(hn:0<n){o:List Bool}(hl:o.length=n)(h0:o.getD 0 false=true)
 (hc:∀ x,o.getD x false=true->∀ c∈beh x,c≠w->o.getD c.toNat false=true) (C:∀ i,o.getD i false=true->(a8 beh n w).getD i false=true):o=a8 beh n w:=by
 have hr:=mO hb hn w;apply List.ext_getElem?;intro i;by_cases hi:i<n
 .have h1:o[i]? =some o[i]:=List.getElem?_eq_getElem oG;have h2:(a8 beh n w)[i]? =some (a8 beh n w)[i]:=List.getElem?_eq_getElem oG;have e1:o.getD i false=o[i]:=by simp[List.getD_eq_getElem?_getD,h1]
  have e2:(a8 beh n w).getD i false=(a8 beh n w)[i]:=by simp[List.getD_eq_getElem?_getD,h2]
  rw[h1,h2];congr 1;rw[Bool.eq_iff_iff, <- e1, <- e2];exact⟨C i,NO (S:=fun i=>o.getD i false=true) hc h0 i⟩
 .rw[List.getElem?_eq_none oG,List.getElem?_eq_none oG]
def dB(beh:Nat->List Int)(n a b:Nat):Bool:=(a8 beh n (-1)).getD a false&&((a8 beh n (-1)).getD b false&& !(a8 beh n a).getD b false)
theorem abY{beh:Nat->List Int}{n:Nat}(hb:∀ b,∀ c∈beh b,0<=c/\c.toNat<n)(hn:0<n){a x:Nat}:(a8 beh n a).getD x false=true↔Av (fU beh) a x:=by
 by_cases h0:a=0
 .subst h0;constructor
  .intro h;unfold a8 at h;rw[if_pos (show((0:Nat):Int)=0 from rfl),List.getD_eq_getElem?_getD,List.getElem?_replicate] at h;split at h<;>cases h
  .intro h;exfalso
   induction h with
   |zero h=>exact h rfl
   |step _ _ _ ih=>exact ih
 .constructor
  .refine NO (S:=fun i=>Av (fU beh) a i) (fun x hx c hc C=>?_) (.zero (fun e=>h0 e.symm)) x;have:=hb x c hc;have e:((c.toNat:Nat):Int)=c:=Int.toNat_of_nonneg this.1;refine .step hx ?_ fun e'=>C (by rw[<- e,e']);show((c.toNat:Nat):Int)∈beh x;rw[e];exact hc
  .intro h;obtain⟨h1,h2⟩:=MY (w:=(a:Int)) hb hn oG
   induction h with
   |zero _=>exact h1
   |step _ e C ih=>
    have:=h2 _ ih _ e oG
    rwa[Int.toNat_natCast] at this
section
variable{beh ahd:Nat->List Int}{n:Nat}(h:nk beh ahd n)
include h
theorem rP{a b:Nat}:dB beh n a b=true↔bj beh n a/\bj beh n b/\gB beh a b:=by
 unfold dB;rw[Bool.and_eq_true,Bool.and_eq_true,Bool.not_eq_true'];show bj beh n a/\bj beh n b/\_↔_;refine and_congr_right fun _=>and_congr_right fun _=>?_;unfold gB;rw[<- abY h.to h.pos,Bool.not_eq_true]
theorem SH{a b:Nat}:dB beh n a b=yR beh ahd n a b:=by
 rw[Bool.eq_iff_iff,rP h,acR h]
end
def oI(beh:Nat->List Int)(n a:Nat)(l:List Int)(c:Int):List Int:=if c=(a:Int)\/dB beh n a c.toNat=false then eA l c else l
def Jd(beh:Nat->List Int)(n a:Nat)(l:List Int)(b:Nat):List Int:=if dB beh n a b=true then(beh b).foldl (oI beh n a) l else l
def lB(beh:Nat->List Int)(n a k:Nat):List Int:=(List.range k).foldl (Jd beh n a) []
def wa(beh:Nat->List Int)(n:Nat):List (List Int):=(List.range n).map fun a=>lB beh n a n
theorem My(beh:Nat->List Int)(n a k:Nat):lB beh n a (k+1)=Jd beh n a (lB beh n a k) k:=by
 unfold lB;rw[List.range_succ,List.foldl_append];rfl
theorem HO{beh:Nat->List Int}{n a:Nat}:∀ (l z:List Int),z.Pairwise (·<·)->(l.foldl (oI beh n a) z).Pairwise (·<·)/\∀ x,x∈l.foldl (oI beh n a) z↔x∈z\/(x∈l/\(x=(a:Int)\/dB beh n a x.toNat=false))
 |[],z,hz=>⟨hz,fun x=>by simp⟩
 |c::l,z,hz=>by
  rw[List.foldl_cons];unfold oI;split
  .rename_i hc;obtain⟨h1,h2⟩:=HO (beh:=beh) (n:=n) (a:=a) l (eA z c) (zJ hz);refine⟨h1,fun x=>(h2 x).trans ?_⟩;rw[ux,List.mem_cons];constructor
   .rintro((h|rfl)|h)
    .exact .inl h
    .exact .inr ⟨.inl rfl,hc⟩
    .exact .inr ⟨.inr h.1,h.2⟩
   .rintro(h|⟨rfl|h,g⟩)
    .exact .inl (.inl h)
    .exact .inl (.inr rfl)
    .exact .inr ⟨h,g⟩
  .rename_i hc;obtain⟨h1,h2⟩:=HO (beh:=beh) (n:=n) (a:=a) l z hz;refine⟨h1,fun x=>(h2 x).trans ?_⟩;rw[List.mem_cons];constructor
   .rintro(h|h)
    .exact .inl h
    .exact .inr ⟨.inr h.1,h.2⟩
   .rintro(h|⟨rfl|h,g⟩)
    .exact .inl h
    .exact absurd g hc
    .exact .inr ⟨h,g⟩
theorem NP{beh:Nat->List Int}{n a:Nat}:∀ k,(lB beh n a k).Pairwise (·<·)/\∀ x,x∈lB beh n a k↔∃ b,b<k/\dB beh n a b=true/\x∈beh b/\(x=(a:Int)\/dB beh n a x.toNat=false)
 |0=>⟨.nil,fun x=>⟨fun h=>by simp[lB] at h,fun⟨b,hb,_⟩=>absurd hb (Nat.not_lt_zero _)⟩⟩
 |k+1=>by
  obtain⟨h1,h2⟩:=NP (beh:=beh) (n:=n) (a:=a) k;rw[My];unfold Jd;split
  .rename_i hd;obtain⟨C,J⟩:=HO (beh:=beh) (n:=n) (a:=a) (beh k) _ h1;refine⟨C,fun x=>(J x).trans ?_⟩;rw[h2];constructor
   .rintro(⟨b,hb,r⟩|h)
    .exact⟨b,by omega,r⟩
    .exact⟨k,by omega,hd,h⟩
   .rintro⟨b,hb,r⟩;by_cases e:b=k
    .subst e;exact .inr r.2
    .exact .inl ⟨b,by omega,r⟩
  .rename_i hd;refine⟨h1,fun x=>(h2 x).trans ?_⟩;constructor
   .rintro⟨b,hb,r⟩;exact⟨b,by omega,r⟩
   .rintro⟨b,hb,r⟩;by_cases e:b=k
    .subst e;exact absurd r.1 hd
    .exact⟨b,by omega,r⟩
section
variable{beh ahd:Nat->List Int}{n:Nat}(h:nk beh ahd n)
include h
theorem front_eq(U:∀ b,(ahd b).length<=n):wa beh n=qm (a8 beh n (-1)) (bM beh ahd n) ahd n:=by
 refine List.ext_getElem? fun i=>?_;rcases Nat.lt_or_ge i n with g|g
 .have e1:(wa beh n)[i]? =some (lB beh n i n):=by
   unfold wa;rw[List.getElem?_map,List.getElem?_range g];rfl
  have e2:(qm (a8 beh n (-1)) (bM beh ahd n) ahd n)[i]? =some (eD (uj (a8 beh n (-1)) (bM beh ahd n) ahd n i)):=by
   unfold qm;rw[List.getElem?_map,List.getElem?_range g];rfl
  rw[e1,e2];congr 1;obtain⟨f1,f2⟩:=NP (beh:=beh) (n:=n) (a:=i) n;obtain⟨c1,_,c3,_⟩:=Ct h U i n (Nat.le_refl _);refine Fh f1 (MF c1) fun x=>?_;have hm:=fun b:Nat=>aaC h U (i:=i) (b:=b) g
  have e3:(qm (a8 beh n (-1)) (bM beh ahd n) ahd n).getD i []=eD (uj (a8 beh n (-1)) (bM beh ahd n) ahd n i):=by
   rw[List.getD_eq_getElem?_getD,e2];rfl
  rw[e3] at hm;rw[f2];have hd:∀ {b:Nat},bj beh n b->gB beh i b->dB beh n i b=true:=fun {b} J C=>(rP h).2 ⟨((zZ h).low J ((v9 h J).2 C)).1,J,C⟩;constructor
  .rintro⟨b,hb,C,hx,hc⟩;have sr:=h.to b x hx;obtain⟨y,rfl⟩:=Int.eq_ofNat_of_zero_le sr.1;rw[Int.toNat_natCast] at hc;have d:=(rP h).1 C;have M:bj beh n y:=(sJ h).next b y hx d.2.1
   refine(hm y).2 ⟨M,b,hx,d.2.1,d.2.2,?_⟩;rcases hc with hc|hc
   .exact .inl oG
   .refine .inr fun dy=>?_;rw[hd M dy] at hc;cases hc
  .intro hx
   have X:0<=x:=by
    unfold eD at hx;rw[BQ (Nat.le_refl _),List.take_length] at hx;exact(c3 x hx).1
   obtain⟨y,rfl⟩:=Int.eq_ofNat_of_zero_le X;obtain⟨M,b,e,J,C,hc⟩:=(hm y).1 hx;refine⟨b,oK h J,hd J C,e,?_⟩;rw[Int.toNat_natCast];rcases hc with hc|hc
   .exact .inl oG
   .refine .inr ?_;cases e':dB beh n i y with
    |false=>rfl
    |true=>exact absurd ((rP h).1 e').2.2 hc
 .rw[List.getElem?_eq_none (by simpa[wa] using g),List.getElem?_eq_none (by simpa[qm] using g)]
end
def ns(beh:Nat->List Int)(n hd:Nat)(s:List Int×Bool)(a:Int):List Int×Bool:=if dB beh n hd a.toNat=true then(eA s.1 a,true) else s
def yP(beh ahd:Nat->List Int)(n hd:Nat):List Int×Bool:=(ahd hd).foldl (ns beh n hd) ([(hd:Int)],false)
def CH(beh ahd:Nat->List Int)(n hd:Nat):List Int:=rM n (qp (a8 beh n (-1)) (bM beh ahd n) ahd n hd).1
def Df(beh ahd:Nat->List Int)(n:Nat)(o:List (Int×List Int))(hd:Nat):List (Int×List Int):=if(yP beh ahd n hd).2=true then o++[((hd:Int),CH beh ahd n hd)] else o
def nr(beh ahd:Nat->List Int)(n k:Nat):List (Int×List Int):=(List.range k).foldl (Df beh ahd n) []
theorem NB(beh ahd:Nat->List Int)(n k:Nat):nr beh ahd n (k+1)=Df beh ahd n (nr beh ahd n k) k:=by
 unfold nr;rw[List.range_succ,List.foldl_append];rfl
theorem Fi{beh:Nat->List Int}{n hd:Nat}:∀ (l:List Int) (s:List Int×Bool),s.1.Pairwise (·<·)->(l.foldl (ns beh n hd) s).1.Pairwise (·<·)/\
 (∀ x,x∈(l.foldl (ns beh n hd) s).1↔x∈s.1\/(x∈l/\dB beh n hd x.toNat=true))/\((l.foldl (ns beh n hd) s).2=true↔s.2=true\/∃ x∈l,dB beh n hd x.toNat=true)
 |[],s,hs=>⟨hs,fun x=>by simp,by simp⟩
 |c::l,s,hs=>by
  rw[List.foldl_cons];unfold ns;split
  .rename_i hc;obtain⟨h1,h2,h3⟩:=Fi (beh:=beh) (n:=n) (hd:=hd) l (eA s.1 c,true) (zJ hs);refine⟨h1,fun x=>(h2 x).trans ?_,h3.trans ?_⟩
   .dsimp only;rw[ux,List.mem_cons];constructor
    .rintro((h|rfl)|h)
     .exact .inl h
     .exact .inr ⟨.inl rfl,hc⟩
     .exact .inr ⟨.inr h.1,h.2⟩
    .rintro(h|⟨rfl|h,g⟩)
     .exact .inl (.inl h)
     .exact .inl (.inr rfl)
     .exact .inr ⟨h,g⟩
   .exact⟨fun _=>.inr ⟨c,by simp,hc⟩,fun _=>.inl rfl⟩
  .rename_i hc;obtain⟨h1,h2,h3⟩:=Fi (beh:=beh) (n:=n) (hd:=hd) l s hs;refine⟨h1,fun x=>(h2 x).trans ?_,h3.trans ?_⟩
   .rw[List.mem_cons];constructor
    .rintro(h|h)
     .exact .inl h
     .exact .inr ⟨.inr h.1,h.2⟩
    .rintro(h|⟨rfl|h,g⟩)
     .exact .inl h
     .exact absurd g hc
     .exact .inr ⟨h,g⟩
   .constructor
    .rintro(h|⟨x,hx,g⟩)
     .exact .inl h
     .exact .inr ⟨x,by simp[hx],g⟩
    .rintro(h|⟨x,hx,g⟩)
     .exact .inl h
     .rcases List.mem_cons.1 hx with rfl|hx
      .exact absurd g hc
      .exact .inr ⟨x,hx,g⟩
theorem aaG(n:Nat)(s:List Int):(rM n s).Pairwise (·<·):=by
 unfold rM;rw[List.pairwise_map];exact((List.pairwise_lt_range).filter _).imp fun h=>by omega
section
variable{beh ahd:Nat->List Int}{n:Nat}(h:nk beh ahd n)
include h
structure o7(beh ahd:Nat->List Int)(n hd:Nat)(s:List Int):Prop where
 Mj:s.Pairwise (·<·)
 sub:∀ x∈s,∃ m:Nat,x=m/\Ha beh n hd m
 ig:(hd:Int)∈s
 la:∀ a∈ahd hd,dB beh n hd a.toNat=true->a∈s
theorem SI{hd:Nat}{a:Int}(ha:a∈ahd hd)(hc:dB beh n hd a.toNat=true):∃ m:Nat,a=m/\fU beh m hd/\bj beh n m/\gB beh hd m/\bj beh n hd:=by
 obtain⟨m,rfl⟩:=Int.eq_ofNat_of_zero_le ((h.nE hd a).1 ha).1;rw[Int.toNat_natCast] at hc;obtain⟨J,C,d⟩:=(rP h).1 hc;exact⟨m,rfl,(ij h C).1 ha,C,d,J⟩
theorem aau(hd:Nat):o7 beh ahd n hd (yP beh ahd n hd).1:=by
 obtain⟨h1,h2,_⟩:=Fi (beh:=beh) (n:=n) (hd:=hd) (ahd hd) ([(hd:Int)],false) oS;refine⟨h1,fun x hx=>?_,(h2 _).2 (.inl oS),fun a ha hc=>(h2 a).2 (.inr ⟨ha,hc⟩)⟩;rcases(h2 x).1 hx with hx|⟨hx,hc⟩
 .exact⟨hd,by simpa using hx,.inl rfl⟩
 .obtain⟨m,e,e1,e2,e3,_⟩:=SI h hx hc;refine⟨m,e,?_⟩;by_cases g:m=hd
  .exact .inl g
  .exact .inr (.Aq e1 e2 e3 g)
theorem HM(hd:Nat):(yP beh ahd n hd).2=true↔∃ a,fU beh a hd/\bj beh n a/\gB beh hd a/\bj beh n hd:=by
 obtain⟨_,_,h3⟩:=Fi (beh:=beh) (n:=n) (hd:=hd) (ahd hd) ([(hd:Int)],false) oS;refine h3.trans ⟨fun hx=>?_,fun⟨a,e,C,J,M⟩=>.inr ⟨a,(ij h C).2 e,?_⟩⟩
 .rcases hx with hx|⟨x,hx,hc⟩
  .cases hx
  .obtain⟨m,_,e1,e2,e3,e4⟩:=SI h hx hc;exact⟨m,e1,e2,e3,e4⟩
 .rw[Int.toNat_natCast];exact(rP h).2 ⟨M,C,J⟩
theorem o7.put{hd x:Nat}{a:Int}{s:List Int}(C:o7 beh ahd n hd s)(hx:(x:Int)∈s)(M:x≠hd)(ha:a∈ahd x)(hc:dB beh n a.toNat a.toNat=true)(hn:a∉s):o7 beh ahd n hd (eA s a):=by
 refine⟨zJ C.Mj,fun y hy=>?_,ux.2 (.inl C.ig),fun b hb hc=>ux.2 (.inl (C.la b hb hc))⟩;rcases ux.1 hy with hy|rfl
 .exact C.sub y hy
 .obtain⟨m,rfl⟩:=Int.eq_ofNat_of_zero_le ((h.nE x y).1 ha).1;rw[Int.toNat_natCast] at hc;have J:=((rP h).1 hc).1;obtain⟨z,X,U⟩:=C.sub _ hx;have:z=x:=by omega
  subst this;refine⟨m,rfl,.inr (.step (U.resolve_left M) ((ij h J).1 ha) J fun e=>hn ?_)⟩;rw[e];exact C.ig
theorem o7.len{hd:Nat}{s:List Int}(C:o7 beh ahd n hd s)(J:hd<n):s.length<=n:=by
 have:=E2 (l:=s) (a:=0) (k:=n) C.Mj fun x hx=>by
  obtain⟨m,rfl,hm⟩:=C.sub x hx;rcases hm with rfl|hm
  .omega
  .have:=oK h hm.sI;omega
 omega
theorem o7.fin{hd:Nat}{s:List Int}(J:o7 beh ahd n hd s)(U:bj beh n hd)(hc:∀ x:Nat,(x:Int)∈s->x≠hd->∀ a∈ahd x,dB beh n a.toNat a.toNat=true->a∈s):s=CH beh ahd n hd:=by
 obtain⟨_,X,_⟩:=OF h U;refine Fh J.Mj (aaG _ _) fun x=>?_;constructor
 .intro hx;obtain⟨m,rfl,hm⟩:=J.sub x hx;exact ER.2 ⟨oK h (hm.sI U),(X m).2 hm⟩
 .intro hx
  obtain⟨m,e⟩:∃ m:Nat,x=m:=by
   unfold CH rM at hx;obtain⟨m,_,e⟩:=List.mem_map.1 hx;exact⟨m,e.symm⟩
  subst e;have hl:=(X m).1 (ER.1 hx).2;rcases hl with rfl|hl
  .exact J.ig
  .have dd:∀ {a:Nat},bj beh n a->dB beh n a a=true:=fun C=>(rP h).2 ⟨C,C,aaD _⟩
   induction hl with
   |Aq M C da _=>exact J.la _ ((ij h C).2 M) ((rP h).2 ⟨U,by rw[Int.toNat_natCast];exact C,by rw[Int.toNat_natCast];exact da⟩)
   |@step y a hy M C _ ih=>exact hc y (ih (ER.2 ⟨oK h hy.sI,(X y).2 (.inr hy)⟩)) hy.ne _ ((ij h C).2 M) (by rw[Int.toNat_natCast];exact dd C)
theorem adP:nr beh ahd n n=Ft (a8 beh n (-1)) (bM beh ahd n) ahd n:=by
 have key:∀ k,nr beh ahd n k=(allI (a8 beh n (-1)) k).foldl (ji (a8 beh n (-1)) (bM beh ahd n) ahd n) []:=fun k=>by
  induction k with
  |zero=>rfl
  |succ k ih=>
   rw[NB,By,ih];unfold Df;by_cases hr:(a8 beh n (-1)).getD k false=true
   .rw[if_pos hr,List.foldl_append];show _=ji _ _ _ _ _ (k:Int);unfold ji;obtain⟨_,_,J⟩:=OF h (hd:=k) hr
    have e:(yP beh ahd n k).2=true↔(qp (a8 beh n (-1)) (bM beh ahd n) ahd n k).2=true:=by
     rw[HM h,J];exact⟨fun⟨a,a1,a2,a3,_⟩=>⟨a,a1,a2,a3⟩,fun⟨a,a1,a2,a3⟩=>⟨a,a1,a2,a3,hr⟩⟩
    by_cases hc:(yP beh ahd n k).2=true
    .rw[if_pos hc,if_pos (e.1 hc)];rfl
    .rw[if_neg hc,if_neg fun x=>hc (e.2 x)]
   .rw[if_neg hr,if_neg];intro hc;obtain⟨_,_,_,_,C⟩:=(HM h k).1 hc;exact hr C
 exact key n
end
def ur(l:List Int)(x z:Int):Prop:=∃ C J M,l=C++x::(J++z::M)
theorem ur.ext{l:List Int}{x z:Int}(h:ur l x z)(a b:List Int):ur (a++l++b) x z:=by
 obtain⟨C,J,M,rfl⟩:=h;exact⟨a++C,J,M++b,by simp⟩
theorem ur.of{a b:List Int}{x z:Int}(hx:x∈a)(C:z∈b):ur (a++b) x z:=by
 obtain⟨a1,a2,rfl⟩:=List.append_of_mem hx;obtain⟨b1,b2,rfl⟩:=List.append_of_mem C;exact⟨a1,a2++b1,b2,by simp⟩
inductive TP(beh:Nat->List Int)(l:List Int):Int->Int->Prop
 |refl {x:Int}:x∈l->TP beh l x x
 |step {a z x:Int}:TP beh l a z->0<=z->x∈beh z.toNat->ur l x z->TP beh l a x
theorem TP.ext{beh:Nat->List Int}{l:List Int}{a x:Int}(h:TP beh l a x)(p q:List Int):TP beh (p++l++q) a x:=by
 induction h with
 |refl h=>exact .refl (by simp[h])
 |step _ h1 h2 h3 ih=>exact .step ih h1 h2 (h3.ext p q)
theorem TP.head{beh:Nat->List Int}{l:List Int}{a x:Int}(h:TP beh l a x):a∈l:=by
 induction h with
 |refl h=>exact h
 |step _ _ _ _ ih=>exact ih
theorem TP.trans{beh:Nat->List Int}{l:List Int}{a z x:Int}(h1:TP beh l a z)(h2:TP beh l z x):TP beh l a x:=by
 induction h2 with
 |refl _=>exact h1
 |step _ e1 e2 e3 ih=>exact .step ih e1 e2 e3
def X4(beh:Nat->List Int)(w:Int)(M:List Bool)(o l:List Int):Prop:=∀ C x J,l=C++x::J->∀ c∈beh x.toNat,c≠w->c∈o++C\/(M.getD c.toNat false=true/\c∉o)\/TP beh l c x
section
variable{beh:Nat->List Int}{w:Int}{n:Nat}(hb:∀ b,∀ c∈beh b,0<=c/\c.toNat<n)
include hb
theorem QI:∀ (k:Nat) (s:List Bool×List Int) (b:Nat),s.1.length=n->b<n->s.1.count false<=k->s.1.getD b false=false->(∀ x∈s.2,0<=x/\s.1.getD x.toNat false=true)->
 ∃ l,(du beh w k s b).2=s.2++l/\(∀ x∈l,TP beh l (b:Int) x)/\X4 beh w s.1 s.2 l
 |0,s,b,hn,gP,hk,hs,_=>by
  have:=sK (sL hs oG);omega
 |k+1,s,b,hn,gP,hk,hs,ho=>by
  have h0:∀ i,(s.1.set b true).getD i false=(decide (i=b)||s.1.getD i false):=fun i=>getD_set_true oG
  have hF:∀ l:List Int,(∀ c∈l,c∈beh b)->let r:=cV beh w k (s.1.set b true,s.2) l
   r8 beh w (s.1.set b true,s.2) r/\(∀ c∈l,c≠w->r.1.getD c.toNat false=true)/\
   ∃ m,r.2=s.2++m/\(∀ x∈m,0<=x/\∃ c∈l,TP beh m c x)/\X4 beh w (s.1.set b true) s.2 m:=by
   intro l
   induction l using s7 with
   |h0=>exact fun _=>⟨.refl _,fun c h=>by simp at h,[],by simp[cV],fun x h=>by simp at h,fun l1 x l2 e=>by simp at e⟩
   |h1 l c ih=>
    intro hl;obtain⟨M,g2,m,C,g4,g5⟩:=ih fun c h=>hl c (by simp[h]);simp only;rw[Bx];generalize cV beh w k (s.1.set b true,s.2) l=t at M g2 C;have hc:=hb b c (hl c oS);have cH:t.1.length=n:=by rw[M.len];simp[hn]
    have hot:∀ x∈t.2,0<=x/\t.1.getD x.toNat false=true:=fun x hx=>by
     rw[C,List.mem_append] at hx;rcases hx with hx|hx
     .refine⟨(ho x hx).1,M.mono _ ?_⟩;simp only;rw[h0,(ho x hx).2,Bool.or_true]
     .obtain⟨X,e',_,hm⟩:=M.out;simp only at e' hm;rw[C] at e';have e':=List.append_cancel_left e';subst e';exact⟨((hm x).1 hx).1,((hm x).1 hx).2.1⟩
    have hmn:∀ x∈m,(s.1.set b true).getD x.toNat false=false:=fun x hx=>by
     obtain⟨X,e',_,hm⟩:=M.out;simp only at e' hm;rw[C] at e';have e':=List.append_cancel_left e';subst e';exact((hm x).1 hx).2.2
    have X5:∀ x,0<=x->t.1.getD x.toNat false=true->x∉s.2++m->(s.1.set b true).getD x.toNat false=true:=fun x h0 h1 h2=>by
     obtain⟨X,e',_,hm⟩:=M.out;simp only at e' hm;rw[C] at e';have e':=List.append_cancel_left e';subst e';cases e:(s.1.set b true).getD x.toNat false with
     |true=>rfl
     |false=>exact absurd (List.mem_append.2 (.inr ((hm x).2 ⟨h0,h1,e⟩))) h2
    split
    .rename_i kz;have fL:t.1.getD c.toNat false=false:=kz.1
     have wM:t.1.count false<=k:=by
      have a1:=M.cnt;have a2:=sK (sL hs oG);simp only at a1;omega
     obtain⟨q1,q2,q3⟩:=Ip (w:=w) hb k t c.toNat cH hc.2 wM fL;obtain⟨X,r1,r2,r3⟩:=QI k t c.toNat cH hc.2 wM fL hot;have ec:((c.toNat:Nat):Int)=c:=Int.toNat_of_nonneg hc.1;rw[ec] at r2;refine⟨M.trans q1,fun J h' U=>?_,m++X,by rw[r1,C,List.append_assoc],fun x hx=>?_,?_⟩
     .rw[List.mem_append] at h';rcases h' with h'|h'
      .exact q1.mono _ (g2 J h' U)
      .simp at h';subst h';exact q2
     .rcases List.mem_append.1 hx with hx|hx
      .obtain⟨p0,d,hd,hp⟩:=g4 x hx;exact⟨p0,d,by simp[hd],by simpa using hp.ext [] X⟩
      .obtain⟨ll,e',_,hm⟩:=q1.out;rw[r1] at e';have e':=List.append_cancel_left e';subst e';exact⟨((hm x).1 hx).1,c,by simp,by simpa using(r2 x hx).ext m []⟩
     .intro l1 x l2 e d hd U;rcases List.append_eq_append_iff.1 e with⟨a',e1,e2⟩|⟨J,e1,e2⟩
      ·
        rcases r3 a' x l2 e2 d hd U with h|h|h
        .refine .inl ?_;rw[C] at h;rw[e1];simpa using h
        .by_cases ig:d∈s.2++m
         .rw[e1];rcases List.mem_append.1 ig with ig|ig
          .exact .inl (by simp[ig])
          .exact .inl (by simp[ig])
         .exact .inr (.inl ⟨X5 d (hb _ d hd).1 h.1 ig,fun hx=>ig (by simp[hx])⟩)
        .exact .inr (.inr (by simpa using h.ext m []))
      .rcases J with _|⟨y,J⟩
       .simp only[List.nil_append] at e2;rcases r3 [] x l2 e2.symm d hd U with h|h|h
        .refine .inl ?_;rw[C] at h;simp at e1;subst e1;simpa using h
        .by_cases ig:d∈s.2++m
         .simp at e1;rw[<- e1];exact .inl ig
         .exact .inr (.inl ⟨X5 d (hb _ d hd).1 h.1 ig,fun hx=>ig (by simp[hx])⟩)
        .exact .inr (.inr (by simpa using h.ext m []))
       .simp only[List.cons_append,List.cons.injEq] at e2;obtain⟨rfl,e2⟩:=e2;rcases g5 l1 x J e1 d hd U with h|h|h
        .exact .inl h
        .exact .inr (.inl h)
        .exact .inr (.inr (by simpa using h.ext [] X))
    .rename_i kz;refine⟨M,fun J h' U=>?_,m,C,fun x hx=>?_,g5⟩
     .rw[List.mem_append] at h';rcases h' with h'|h'
      .exact g2 J h' U
      .simp at h';subst h';cases ht:t.1.getD J.toNat false with
       |true=>rfl
       |false=>exact absurd ⟨ht,U⟩ kz
     .obtain⟨p0,d,hd,hp⟩:=g4 x hx;exact⟨p0,d,by simp[hd],hp⟩
  rw[sN];obtain⟨M,g2,m,C,g4,g5⟩:=hF (beh b) fun _ h=>h;generalize cV beh w k (s.1.set b true,s.2) (beh b)=t at M g2 C
  have hU:∀ x∈m++[(b:Int)],TP beh (m++[(b:Int)]) (b:Int) x:=fun x hx=>by
   rcases List.mem_append.1 hx with hx|hx
   .obtain⟨_,c,hc,hp⟩:=g4 x hx;have hcm:c∈m:=hp.head;refine TP.trans (.step (.refl oS) oG (by rw[Int.toNat_natCast];exact hc) (ur.of hcm oS)) ?_;simpa using hp.ext [] [(b:Int)]
   .rw[List.mem_singleton.1 hx];exact .refl oS
  refine⟨m++[(b:Int)],by simp only;rw[C,List.append_assoc],hU,fun l1 x l2 e d hd U=>?_⟩
  have WA:∀ d,d∉s.2->(s.1.set b true).getD d.toNat false=true->0<=d->(s.1.getD d.toNat false=true/\d∉s.2)\/d=b:=fun d hn h hz=>by
   rw[h0,Bool.or_eq_true,decide_eq_true_eq] at h;rcases h with h|h
   .exact .inr oG
   .exact .inl ⟨h,hn⟩
  have Mk:=(hb _ d hd).1
  have qo:(∃ m2,m=l1++x::m2)\/(l1=m/\x=(b:Int)):=by
   rcases List.append_eq_append_iff.1 e with⟨a',e1,e2⟩|⟨J,e1,e2⟩
   .rcases a' with _|⟨y,a'⟩
    .simp at e2 e1;exact .inr ⟨e1,e2.1.symm⟩
    .simp at e2
   .rcases J with _|⟨y,J⟩
    .simp at e1 e2;exact .inr ⟨e1.symm,e2.1⟩
    .simp only[List.cons_append,List.cons.injEq] at e2;exact .inl ⟨J,by rw[e1,e2.1]⟩
  rcases qo with⟨m2,em⟩|⟨rfl,rfl⟩
  .rcases g5 l1 x m2 em d hd U with h|h|h
   .exact .inl h
   .rcases WA d h.2 h.1 Mk with h'|rfl
    .exact .inr (.inl h')
    .exact .inr (.inr (hU x (by rw[em];simp)))
   .exact .inr (.inr (by simpa using h.ext [] [(b:Int)]))
  .rw[Int.toNat_natCast] at hd;by_cases ig:d∈s.2++l1
   .exact .inl ig
   .have ju:=g2 d hd U
    have hso:(s.1.set b true).getD d.toNat false=true:=by
     obtain⟨X,e',_,hm⟩:=M.out;simp only at e' hm;rw[C] at e';have e':=List.append_cancel_left e';subst e';cases e:(s.1.set b true).getD d.toNat false with
     |true=>rfl
     |false=>exact absurd (List.mem_append.2 (.inr ((hm d).2 ⟨Mk,ju,e⟩))) ig
    rcases WA d (fun hx=>ig (by simp[hx])) hso Mk with h'|rfl
    .exact .inr (.inl h')
    .exact .inr (.inr (.refl oS))
end
section
variable{beh ahd:Nat->List Int}{n:Nat}(h:nk beh ahd n)
include h
theorem SJ{x z:Nat}(hx:ur (bI beh n).reverse (x:Int) z):bj beh n x/\bj beh n z/\cv beh n z<cv beh n x:=by
 obtain⟨l1,J,C,e⟩:=hx
 have e2:bI beh n=C.reverse++(z:Int)::(J.reverse++(x:Int)::l1.reverse):=by
  rw[<- List.reverse_reverse (bI beh n),e];simp
 have i1:(bI beh n)[C.length]? =some (z:Int):=by rw[e2];simp
 have i2:(bI beh n)[C.length+1+J.length]? =some (x:Int):=by
  rw[e2,List.getElem?_append_right oP];rw[List.length_reverse,show C.length+1+J.length - C.length=J.length+1 by omega,List.getElem?_cons_succ,List.getElem?_append_right oS];simp
 obtain⟨z',L4,M,hz3⟩:=yi h i1;obtain⟨x',xB,U,X⟩:=yi h i2;have:z'=z:=by omega
 subst this;have:x'=x:=by omega
 subst this;exact⟨U,M,by omega⟩
inductive Fw(beh:Nat->List Int)(n:Nat):Nat->Nat->Prop
 |refl (x:Nat):bj beh n x->Fw beh n x x
 |step {a z x:Nat}:Fw beh n a z->fU beh z x->bj beh n x->cv beh n z<cv beh n x->Fw beh n a x
theorem akq{x:Nat}{y:Int}(hx:TP beh (bI beh n).reverse (x:Int) y):∃ m:Nat,y=m/\Fw beh n x m:=by
 generalize e:(x:Int)=a at hx
 induction hx with
 |refl hm=>
  subst e;rw[List.mem_reverse] at hm;exact⟨x,rfl,.refl x ((uF h).1 hm)⟩
 |@step z y hp hz hy DH ih=>
  obtain⟨m,rfl,hm⟩:=ih;rw[Int.toNat_natCast] at hy;obtain⟨q,rfl⟩:=Int.eq_ofNat_of_zero_le (h.to m y hy).1;obtain⟨b1,b2,b3⟩:=SJ h DH;exact⟨q,rfl,.step hm hy b1 b3⟩
theorem Zw{y x:Nat}(ry:bj beh n y)(e:fU beh y x)(hp:cv beh n x<=cv beh n y):Fw beh n x y:=by
 have M:∀ i,(List.replicate n false).getD i false=false:=fun i=>by
  rw[List.getD_eq_getElem?_getD,List.getElem?_replicate];split<;>rfl
 obtain⟨l,e1,_,e3⟩:=QI (w:= -1) h.to n (List.replicate n false,[]) 0 oS h.pos oS (M 0) (fun x hx=>by simp at hx)
 have C:(bI beh n).reverse=l:=by
  unfold bI;rw[List.reverse_reverse,e1];rfl
 have hy:(y:Int)∈l:=by rw[<- C,List.mem_reverse];exact(uF h).2 ry
 obtain⟨U,X,J⟩:=List.append_of_mem hy;have he:(x:Int)∈beh (y:Int).toNat:=by rw[Int.toNat_natCast];exact e
 rcases e3 U y X J x he oG with hx|hx|hx
 .exfalso;have hx:(x:Int)∈U:=by simpa using hx
  have:ur (bI beh n).reverse (x:Int) y:=by
   rw[C,J];exact ur.of hx oS
  have:=(SJ h this).2.2;omega
 .have:=hx.1;rw[M] at this;cases this
 .rw[<- C] at hx;obtain⟨m,em,hm⟩:=akq h hx;have:m=y:=by omega
  subst this;exact hm
end
def UT(beh:Nat->List Int)(n:Nat)(C:Nat->Prop):Prop:=∀ b,C b->bj beh n b/\∃ a,fU beh a b/\C a/\dB beh n b a=false
def Ad(beh:Nat->List Int)(n:Nat)(l:List Bool):Prop:=l.length=n/\(∀ b,l.getD b false=true->bj beh n b)/\∀ C,UT beh n C->∀ b,C b->l.getD b false=true
section
variable{beh ahd:Nat->List Int}{n:Nat}(h:nk beh ahd n)
include h
theorem Zq:Ad beh n (a8 beh n (-1)):=⟨mO h.to h.pos (-1),fun _ hb=>hb,fun _ C b hb=>(C b hb).1⟩
theorem aaw{l:List Bool}{b:Nat}(hl:Ad beh n l)(hb:b<n)(hf:∀ a∈ahd b,l.getD a.toNat false=false\/dB beh n b a.toNat=true):Ad beh n (l.set b false):=by
 obtain⟨h1,h2,h3⟩:=hl
 have hg:∀ i,(l.set b false).getD i false=if i=b then false else l.getD i false:=fun i=>by
  rw[List.getD_eq_getElem?_getD,List.getElem?_set,List.getD_eq_getElem?_getD];by_cases e:b=i
  .subst e;rw[if_pos rfl,if_pos rfl,if_pos oG];rfl
  .rw[if_neg e,if_neg fun x=>e x.symm]
 refine⟨by rw[List.length_set,h1],fun i hi=>?_,fun C J i hi=>?_⟩
 .rw[hg] at hi;split at hi
  .cases hi
  .exact h2 i hi
 .rw[hg];split
  .rename_i e;subst e;obtain⟨rb,a,e,M,U⟩:=J i hi;have la:=h3 C J a M;have X:=(J a M).1;rcases hf a ((ij h X).2 e) with g|g
   .rw[Int.toNat_natCast,la] at g;cases g
   .rw[Int.toNat_natCast,U] at g;cases g
  .exact h3 C J i hi
omit h in
theorem Fw.trans{a b c:Nat}(h1:Fw beh n a b)(h2:Fw beh n b c):Fw beh n a c:=by
 induction h2 with
 |refl=>exact h1
 |step _ e1 e2 e3 ih=>exact .step ih e1 e2 e3
omit h in
theorem Fw.sI{a b:Nat}(h1:Fw beh n a b):bj beh n b:=by
 cases h1 with
 |refl h=>exact h
 |step _ _ h _=>exact h
end
theorem ab0{f:aF}(bB:lD f):yK f=true↔∀ C,UT (aD f) f.blocks.length C->∀ b,¬ C b:=by
 have h:=tO bB;rw[acS bB];constructor
 .intro hr C J
  have key:∀ k b,cv (aD f) f.blocks.length b<k->¬ C b:=fun k=>by
   induction k with
   |zero=>exact fun b hb=>absurd hb (Nat.not_lt_zero _)
   |succ k ih=>
    intro b hb X;obtain⟨rb,a,e,ca,da⟩:=J b X;have ra:=(J a ca).1;rcases Nat.lt_or_ge (cv (aD f) f.blocks.length a) (cv (aD f) f.blocks.length b) with g|g
    .exact ih a oG ca
    .obtain⟨i,hi,_,pi⟩:=tf h rb;obtain⟨j,hj,_,pj⟩:=tf h ra;have:=hr i j b a oG hi hj ((ij h ra).2 e);rw[<- SH h,da] at this;cases this
  exact fun b X=>key _ b (Nat.lt_succ_self _) X
 .intro J i k x y uh hx hy hm;have rx:bj (aD f) f.blocks.length x:=(uF h).1 (List.mem_of_getElem? hx);have ry:bj (aD f) f.blocks.length y:=(uF h).1 (List.mem_of_getElem? hy);have e:=(ij h ry).1 hm;obtain⟨M,ex,_,px⟩:=yi h hx;obtain⟨U,ey,_,py⟩:=yi h hy;have:M=x:=by omega
  subst this;have:U=y:=by omega
  subst this;have ui:=Zw h ry e oG;cases hd:yR (aD f) (bu f) f.blocks.length M U with
  |true=>rfl
  |false=>
   exfalso;refine J (fun z=>Fw (aD f) f.blocks.length M z/\Fw (aD f) f.blocks.length z U) (fun z ⟨z1,z2⟩=>⟨z1.sI,?_⟩) M ⟨.refl _ rx,ui⟩;cases z1 with
   |refl _=>exact⟨U,e,⟨ui,.refl _ ry⟩,by rw[SH h];exact hd⟩
   |@step t _ t1 t2 t3 t4=>
    refine⟨t,t2,⟨t1,Fw.trans (.step (.refl _ t1.sI) t2 t3 t4) z2⟩,?_⟩;cases e':dB (aD f) f.blocks.length z t with
    |false=>rfl
    |true=>
     have d:=(rP h).1 e';rcases((zZ h).low t1.sI ((v9 h t1.sI).2 d.2.2)).2 with g|g
     .rw[g] at t4;omega
     .omega
theorem abI{f:aF}(M:lD f){l:List Bool}(hl:Ad (aD f) f.blocks.length l)(hf:∀ b,l.getD b false=true->∃ a∈bu f b,l.getD a.toNat false=true/\dB (aD f) f.blocks.length b a.toNat=false):
 yK f=true↔∀ b,l.getD b false=false:=by
 have h:=tO M;obtain⟨h1,h2,h3⟩:=hl;rw[ab0 M];constructor
 .intro J b;cases e:l.getD b false with
  |false=>rfl
  |true=>
   refine absurd e (J (fun b=>l.getD b false=true) (fun b hb=>⟨h2 b hb,?_⟩) b);obtain⟨a,ha,la,U⟩:=hf b hb;obtain⟨m,rfl⟩:=Int.eq_ofNat_of_zero_le ((h.nE b a).1 ha).1;rw[Int.toNat_natCast] at la U;exact⟨m,(ij h (h2 m la)).1 ha,la,U⟩
 .intro hn C J b X;have:=h3 C J b X;rw[hn] at this;cases this
end Go.Argus
section
open Go Go.Abs Go.Proofs Go.Argus
namespace Go.Proofs.Tryz.K
set_option maxRecDepth 10000
set_option maxHeartbeats 1000000 in
theorem Wi{f:aF}(hF:yv f)(hw:∀ b∈f.blocks,b.fin.aI.length<=9){w:Int}:OCall prog 75 [.agg (aG f),I w] ((a8 (aD f) f.blocks.length w).map B) f.blocks.length 4:=by
 have hb:=beh_in hF.ok
 change ∀ b,∀ t∈aD f b,_ at hb
 have A8:=hF.ok.gO;have lh:=hF.ok.pos;have aW:∀ a∈[D.agg (aG f),I w],Tr a:=.cons (.agg (gn f)) (.cons (.s _) .nil);refine uu mixed Wj (by rw[amN];rfl) aW (.map fun _=>.s _) ?_;rw[amO,amP];refine aw ?_;refine af ?_;refine ab (aO (bw [(0,aG f,26)] eH (l:=[(1,I w),(2,.pt (aG f))]) eH) (aw ?_));have cE:((f.blocks.length:Nat):Int).toNat=f.blocks.length:=Int.toNat_natCast _;refine aK ?_;refine ab (aO (aE (l:=[(1,I w),(2,.pt (aG f)),(5,.rs 1 0 f.blocks.length)]) (ml:=[(1,.cells ((List.replicate f.blocks.length false).map B) 4)]) ⟨rfl,rfl,congrArg (fun k=>D.rs 1 0 k) cE,trivial⟩ ⟨?_,trivial⟩) (aC (aj ?_)))
 .exact congrArg (fun c=>some (Row.cells c 4)) ((congrArg (fun k=>replD k [B false]) cE).trans (uB _ false))
 by_cases G5:w=0
 .have fh:(w==0)=true:=by simp[G5]
  have hr:a8 (aD f) f.blocks.length w=List.replicate f.blocks.length false:=by unfold a8;rw[if_pos G5]
  rw[hr];refine af ?_;refine ab (bh rfl (fun _=>?_) fun h=>oH);refine aC (aj ?_);refine af ?_;exact ab (cU (ay rfl ⟨1,rfl,rfl⟩))
 have fh:(w==0)=false:=by simp[G5]
 refine af ?_;refine ab (bh rfl (fun h=>oH) fun _=>bS (aw ?_));clear fh;obtain⟨yT,XN⟩:=MY hb lh G5;have fM:=mO hb lh w;have pH:=fun(o:List Bool)=> @abB (aD f) f.blocks.length w hb lh o;generalize a8 (aD f) f.blocks.length w=RR at yT XN fM pH ⊢;have hlz:((List.replicate f.blocks.length false).map B).length=f.blocks.length:=by simp
 refine au ?_;refine ab (aO (aE (l:=[(1,I w),(2,.pt (aG f)),(5,.rs 1 0 f.blocks.length)]) (ml:=[(1,.cells (((List.replicate f.blocks.length false).set 0 true).map B) 4)]) eH ⟨by rw[List.map_set];rfl,trivial⟩) (aw ?_));refine SS ?_
 refine ab (bO (fun s=>Ghost prog s ⟨az [(5,.rs 1 0 f.blocks.length)],aY [(1,.cells (RR.map B) 4)],2⟩) (uA (α:=List Bool×Bool) (fun s=>⟨az [(1,I w),(2,.pt (aG f)),(5,.rs 1 0 f.blocks.length),(6,B s.2)],aY [(1,.cells (s.1.map B) 4)],2⟩)
  (fun s=>s.1.length=f.blocks.length/\s.1.getD 0 false=true/\(∀ i,s.1.getD i false=true->RR.getD i false=true)/\(s.2=false->∀ x,s.1.getD x false=true->∀ c∈aD f x,c≠w->s.1.getD c.toNat false=true)) (fun s=>2*s.1.count false+if s.2=true then 1 else 0) ((List.replicate f.blocks.length false).set 0 true,true)
  (aE eH eH) ⟨by simp,?_,fun i hi=>?_,fun h=>by cases h⟩ ?_) ?_)
 .rw[xM oP,if_pos rfl]
 .dsimp only at hi;rw[xM oP] at hi;by_cases e:i=0
  .rw[e];exact yT
  .rw[if_neg e,List.getD_eq_getElem?_getD,List.getElem?_replicate] at hi;split at hi<;>cases hi
 .rintro⟨X,t0⟩ ⟨k9,Ea,sc,vE⟩;dsimp only at k9 Ea sc vE ⊢;refine SS ?_;refine ab ⟨_,rfl,fun ht=>?_,fun ht=>?_⟩
  .refine ws ?_;refine SS ?_;refine ab (aw ?_);refine SS ?_
   refine ab (b8 (α:=Nat×List Bool×Bool) (fun s=>⟨az [(1,I w),(2,.pt (aG f)),(5,.rs 1 0 f.blocks.length),(6,B s.2.2),(7,I s.1)],aY [(1,.cells (s.2.1.map B) 4)],2⟩)
    (fun s=>s.1<=f.blocks.length/\s.2.1.length=f.blocks.length/\s.2.1.getD 0 false=true/\(∀ i,s.2.1.getD i false=true->RR.getD i false=true)/\(s.2.2=false->s.2.1=X/\∀ x,x<s.1->X.getD x false=true->∀ c∈aD f x,c≠w->X.getD c.toNat false=true)/\(s.2.2=true->s.2.1.count false<X.count false)) (fun s=>f.blocks.length - s.1) (0,X,false)
    (aE eH eH) ⟨Nat.zero_le _,k9,Ea,sc,fun _=>⟨rfl,fun x hx=>by dsimp only at hx;omega⟩,fun h=>by cases h⟩ ?_)
   rintro⟨k,o,t⟩ ⟨hk,hl,h0,C,hf,U⟩;dsimp only at hk hl h0 C hf U ⊢;have r9:(o.map B).length=f.blocks.length:=by simp[hl]
   refine aK ?_;refine ab ⟨_,rfl,fun h=>?_,fun h=>?_⟩
   .have ao:k<f.blocks.length:=by simpa using h
    have hx:f.blocks[k]? =some f.blocks[k]:=List.getElem?_eq_getElem ao;have bQ:f.blocks[k]∈f.blocks:=List.getElem_mem _;have jT:=jT hx (by have:=hw _ bQ;omega);rw[(hF.ed _ bQ).2, <- EN hx] at jT;have iD:=hb k;have Wl:=XN k
    have bB:o[k]? =some (o.getD k false):=by
     rw[List.getElem?_eq_getElem (show k<o.length by omega),getD_some (List.getElem?_eq_getElem (show k<o.length by omega))]
    have sf:∀ b,o.getD k false=b->o.getD k false=b:=fun _ h=>h
    have ic:(aD f k).length<=100000:=by
     rw[EN hx];have:=vP f.blocks[k].fin;have:=hw _ bQ;omega
    have kd:=fu (f:=B) bB;refine aC (aj ?_);generalize amQ:aD f k=l at jT iD Wl ic;cases M:o.getD k false with
    |false=>
     rw[M] at kd;refine aK ?_;refine ab (bh rfl (fun h=>kF (qj ?_)) fun h=>oH);refine au ?_;refine ab (aJ (k+1,o,t) (aE eH eH) ⟨by dsimp only;omega,hl,h0,C,fun h=>⟨(hf h).1,fun x hx J=>?_⟩,U⟩ oM);dsimp only at hx;by_cases e:x=k
     .subst e;rw[<- (hf h).1,M] at J;cases J
     .exact(hf h).2 x oG J
    |true=>
    rw[M] at kd;refine aK ?_;refine ab (bh rfl (fun h=>oH) fun h=>bS (aj ?_));refine af ?_;refine cl jT ?_;refine SS ?_;refine ab (aw ?_);refine SS ?_
    refine ab (b8 (α:=Nat×List Bool×Bool) (fun s=>⟨az [(1,I w),(2,.pt (aG f)),(5,.rs 1 0 f.blocks.length),(6,B s.2.2),(7,I k),(8,ax l),(9,I s.1)],aY [(1,.cells (s.2.1.map B) 4)],2⟩)
     (fun s=>s.1<=l.length/\s.2.1.length=f.blocks.length/\s.2.1.getD 0 false=true/\s.2.1.getD k false=true/\(∀ i,s.2.1.getD i false=true->RR.getD i false=true)/\(s.2.2=false->s.2.1=X/\(∀ x,x<k->X.getD x false=true->∀ c∈aD f x,c≠w->X.getD c.toNat false=true)/\∀ c∈l.take s.1,c≠w->X.getD c.toNat false=true)/\(s.2.2=true->s.2.1.count false<X.count false)) (fun s=>l.length - s.1) (0,o,t)
     (aE eH eH) ⟨Nat.zero_le _,hl,h0,M,C,fun h=>⟨(hf h).1,(hf h).2,fun c hc=>by simp at hc⟩,U⟩ ?_)
    clear hl h0 C hf U r9 bB sf kd M;rintro⟨j,o,t⟩ ⟨hj,hl,h0,M,C,hf,U⟩;dsimp only at hj hl h0 M C hf U ⊢;have r9:(o.map B).length=f.blocks.length:=by simp[hl]
    refine aP ?_;refine ab ⟨_,rfl,fun h=>?_,fun h=>?_⟩
    .have ct:j<l.length:=by simpa using h
     have hy:l[j]? =some l[j]:=List.getElem?_eq_getElem ct;have fN:=iD _ (List.getElem_mem ct);have xD:=Wl (C k M) _ (List.getElem_mem ct);have qK:l.take (j+1)=l.take j++[l[j]]:=by rw[List.take_add_one,hy];rfl
     generalize l[j]=c at hy fN xD qK;obtain⟨i,rfl⟩:=Int.eq_ofNat_of_zero_le fN.1;rw[Int.toNat_natCast] at fN xD
     have vp:o[i]? =some (o.getD i false):=by
      rw[List.getElem?_eq_getElem (show i<o.length by omega),getD_some (List.getElem?_eq_getElem (show i<o.length by omega))]
     have kd:=fu (f:=B) vp;refine ws ?_;by_cases G6:(i:Int)=w
     .have gZ:((i:Int) !=w)=false:=by simp[G6]
      refine c8 ?_;(iterate 8 refine z fun _ _=>?_);refine SS ?_;refine ab (aq rfl (fun h=>oH) fun h=>cg ?_);refine au ?_;refine ab (aJ (j+1,o,t) (aE eH eH) ⟨by dsimp only;omega,hl,h0,M,C,fun h=>⟨(hf h).1,(hf h).2.1,fun c hc aB=>?_⟩,U⟩ oM);dsimp only at hc;rw[qK] at hc;rcases List.mem_append.1 hc with hc|hc
      .exact(hf h).2.2 c hc aB
      .rw[List.mem_singleton.1 hc] at aB;exact absurd G6 aB
     .have gZ:((i:Int) !=w)=true:=by simp[G6]
      cases oi:o.getD i false with
      |true=>
       rw[oi] at kd;refine aL ?_;refine c8 ?_;refine ab (aq rfl (fun h=>oH) fun h=>cg ?_);refine au ?_;refine ab (aJ (j+1,o,t) (aE eH eH) ⟨by dsimp only;omega,hl,h0,M,C,fun h=>⟨(hf h).1,(hf h).2.1,fun c hc aB=>?_⟩,U⟩ oM);dsimp only at hc;rw[qK] at hc;rcases List.mem_append.1 hc with hc|hc
       .exact(hf h).2.2 c hc aB
       .rw[List.mem_singleton.1 hc,Int.toNat_natCast, <- (hf h).1];exact oi
      |false=>
       rw[oi] at kd;have fL:=acJ (show i<o.length by omega) oi;have ni:∀ q,(o.set i true).getD q false=if q=i then true else o.getD q false:=fun q=>xM oG
       refine aL ?_;refine c8 ?_;refine ab (aq rfl (fun h=>aj ?_) fun h=>oH);refine c8 ?_;refine ab (dz ?_);refine SS ?_;refine ab ?_;refine au ?_;refine ab (aJ (j+1,o.set i true,true) (aE eH ⟨by rw[List.map_set];rfl,trivial⟩) ⟨by dsimp only;omega,by dsimp only;rw[List.length_set];exact hl,?_,?_,fun q hq=>?_,fun h=>oH,fun _=>?_⟩ oM)
       .dsimp only;rw[ni];split
        .rfl
        .exact h0
       .dsimp only;rw[ni];split
        .rfl
        .exact M
       .dsimp only at hq;rw[ni] at hq;split at hq
        .rename_i e;rw[e];exact xD G6
        .exact C q hq
       .dsimp only;cases t with
        |false=>rw[(hf rfl).1] at fL ⊢;exact fL
        |true=>exact Nat.lt_trans fL (U rfl)
    .have aX:¬ j<l.length:=by simpa using h
     rw[List.take_of_length_le oG] at hf;show AOps _ _ _ _ _ _ _ _ _;refine au ?_;refine ab (aJ (k+1,o,t) (aE eH eH) ⟨by dsimp only;omega,hl,h0,C,fun h=>⟨(hf h).1,fun x hx J=>?_⟩,U⟩ oM);dsimp only at hx;by_cases e:x=k
     .rw[e,amQ];exact(hf h).2.2
     .exact(hf h).2.1 x oG J
   .have aX:¬ k<f.blocks.length:=by simpa using h
    refine aJ (o,t) (aE eH eH) ⟨hl,h0,C,fun h x J=>?_⟩ ?_
    .dsimp only at h J ⊢;have hh:=hf h;rw[hh.1] at J ⊢;by_cases qQ:x<k
     .exact hh.2 x qQ J
     .exfalso;rw[List.getD_eq_getElem?_getD,List.getElem?_eq_none oG] at J;cases J
    .dsimp only;rw[if_pos ht];cases t with
     |false=>rw[(hf rfl).1];simp
     |true=>have:=U rfl;simp;omega
  .have ho:=pH X k9 Ea (vE ht) sc;rw[<- ho];exact aE eH eH
 .intro s hg;refine⟨_,hg,aj ?_⟩;refine af ?_;exact ab (ay rfl ⟨1,rfl,rfl⟩)
theorem qR{f:aF}(C:yv f)(J:∀ b∈f.blocks,b.fin.aI.length<=9){w:Int}:PCall prog 75 [.agg (aG f),I w] (bq (a8 (aD f) f.blocks.length w)):=by
 have hb:=beh_in C.ok
 change ∀ b,∀ t∈aD f b,_ at hb
 have hl:=mO (w:=w) hb C.ok.pos
 have h:=(Wi C J (w:=w)).aej (fun d hd=>by obtain⟨x,_,rfl⟩:=List.mem_map.1 hd;rfl) (.sl fun d hd=>by
  obtain⟨x,_,rfl⟩:=List.mem_map.1 (List.mem_of_mem_take hd)
  exact .s _)
 rw[c4,List.take_of_length_le (by simp[hl])] at h;unfold bq;rw[hl];exact h
theorem L6{a b:List Int}:PCall prog 64 [ax a,ax b] (B (decide (a=b))):=by
 have J:∀ x∈[ax a,ax b],Tr x:=.cons (cB _) (.cons (cB _) .nil);refine mM KI.he J fun M=>?_;have hlen:=(M (ax a) oS).sl.1;unfold maxLen at hlen;refine a9 mixed KI (by rw[amR];rfl) J (Tr.s _) ?_;rw[amS,amT];refine ws ?_;refine SS ?_;refine ab (aC (aj ?_));refine aK ?_;refine ab (bh rfl (fun h=>?_) fun h=>bS (aC (aw ?_)))
 .refine aC (aj ?_);refine SS ?_;refine ab (cU (ay (d:=B false) rfl ?_));have C:a≠b:=fun e=>by subst e;simp at h
  rw[decide_eq_false C]
 have ic:a.length=b.length:=by
  have:¬ ((a.length:Int)≠(b.length:Int)):=by simpa using h
  omega
 clear h;refine SS ?_
 refine ab (bO (fun s=>Ghost prog s ⟨az [],fun _=>none,0⟩/\a=b) (b8 (α:=Nat) (fun k=>⟨az [(0,ax a),(1,ax b),(5,I k)],fun _=>none,0⟩)
  (fun k=>k<=a.length/\∀ j,j<k->a[j]? =b[j]?) (fun k=>a.length - k) 0 (av eH) ⟨by omega,fun j hj=>by omega⟩ ?_) ?_)
 .rintro k ⟨hk,hinv⟩;refine aP ?_;refine ab ⟨_,rfl,fun h=>?_,fun h=>?_⟩
  .have ao:k<a.length:=by simpa using h
   have hx:a[k]? =some a[k]:=List.getElem?_eq_getElem ao;have hy:b[k]? =some b[k]:=List.getElem?_eq_getElem oG;generalize a[k]=x at hx;generalize b[k]=y at hy;refine dm abC ?_;refine aL ?_;refine bk (by simp[apartT]) (aq rfl (fun hp=>?_) fun hp=>?_)
   .refine ws ?_;refine SS ?_;refine ab (aV (cq (aT (ay (d:=B false) rfl ?_))))
    have C:a≠b:=fun e=>by
     subst e;rw[hx] at hy;cases hy;simp at hp
    rw[decide_eq_false C]
   .refine cg ?_;refine au ?_;refine ab (aJ (k+1) (av eH) ⟨by omega,fun j hj=>?_⟩ oG);by_cases e:j=k
    .subst e;rw[hx,hy];congr 1;simpa using hp
    .exact hinv j oG
  .have X:¬ k<a.length:=by simpa using h
   refine⟨fw (l:=[]) trivial,List.ext_getElem? fun j=>?_⟩;by_cases hj:j<k
   .exact hinv j hj
   .rw[List.getElem?_eq_none oG,List.getElem?_eq_none oG]
 .rintro s ⟨hg,U⟩;refine⟨_,hg,aj ?_⟩;refine SS ?_;refine ab (ay (d:=B true) rfl ?_);rw[decide_eq_true U]
theorem Bl{a b:List Int}:PCall prog 22 [ax a,ax b] (B (decide (a=b))):=by
 have L6:=L6 (a:=a) (b:=b);refine a9 mixed Wm (by rw[amU];rfl) (.cons (cB _) (.cons (cB _) .nil)) (Tr.s _) ?_;rw[amV,amW];refine ws ?_;refine SS ?_;refine er ?_;refine af ?_;refine cl L6 ?_;refine SS ?_;exact ab (ay rfl rfl)
end Go.Proofs.Tryz.K
namespace Go.Argus
theorem vN{f:aF}(h:cR f=0):ik f=true:=by
 unfold cR at h;split at h
 .assumption
 .cases h
theorem zT{l:List Bool}{i:Nat}(h:i<l.length):l[i]? =some (l.getD i false):=by
 rw[List.getElem?_eq_getElem h,getD_some (List.getElem?_eq_getElem h)]
end Go.Argus
end
namespace Go.Proofs.Tryz.K
open Go.Abs
theorem anl:oL=(S1 (G1 oL 0) (S1 (S1 (G1 oL 1) (C1 17 (S1 (G1 oL 2) .ret) K1)) (S1 (G1 oL 3) (S1 (G1 oL 4) (S1 (G1 oL 5) (S1 (G1 oL 6) (S1 (G1 oL 7) (S1 (G1 oL 8) (S1 (G1 oL 9) .ret))))))))):=kr
theorem abF:drawInfo (Z oO 6)=some []:=kr
theorem am2:oO=(S1 (G1 oO 0) (S1 (S1 (G1 oO 1) (C1 10 (S1 (G1 oO 2) .ret) K1)) (S1 (S1 (G1 oO 3) (B1 0 (.loop (S1 (S1 (G1 oO 4) (C1 14 K1 (X1 0))) (S1 (B1 1 (S1 (G2 oO 6) (C1 26 (S1 (G1 oO 7) .ret) K1))) (G1 oO 5)))))) (S1 (G1 oO 8) .ret)))):=kr
theorem Nb:drawInfo (Z gT 18)=some []:=kr
theorem als:gT=(S1 (G1 gT 0) (S1 (G1 gT 1) (S1 (S1 (G1 gT 2) (C1 14 (S1 (G1 gT 3) .ret) K1)) (S1 (G1 gT 4) (S1 (G1 gT 5) (S1 (S1 (G1 gT 6) (B1 0 (.loop (S1 (S1 (G1 gT 7) (C1 26 K1 (X1 0))) (S1 (B1 1 (S1 (G1 gT 9) (B1 2 (.loop (S1 (S1 (G1 gT 10) (C1 33 K1 (X1 2))) (S1 (B1 3 (S1 (S1 (G1 gT 12) (C1 43 (X1 3) K1)) (S1 (G1 gT 13) (S1 (G1 gT 14) (B1 4 (.loop (S1 (S1 (G1 gT 15) (C1 50 K1 (X1 4))) (S1 (B1 5 (S1 (G1 gT 17) (C1 71 (G2 gT 18) K1))) (G1 gT 16))))))))) (G1 gT 11))))))) (G1 gT 8)))))) (S1 (G1 gT 19) .ret))))))):=kr
theorem anb:dR=(S1 (G1 dR 0) (S1 (G1 dR 1) (S1 (S1 (G1 dR 2) (C1 19 (S1 (G1 dR 3) .ret) K1)) (S1 (G1 dR 4) (S1 (G1 dR 5) (S1 (G1 dR 6) (S1 (S1 (G1 dR 7) (B1 0 (.loop (S1 (S1 (G1 dR 8) (C1 29 K1 (X1 0))) (S1 (B1 1 (S1 (G1 dR 10) (S1 (G1 dR 11) (S1 (S1 (G1 dR 12) (B1 2 (.loop (S1 (S1 (G1 dR 13) (C1 40 K1 (X1 2))) (S1 (B1 3 (S1 (G1 dR 15) (C1 55 (S1 (G1 dR 16) (G1 dR 17)) K1))) (G1 dR 14)))))) (S1 (S1 (G1 dR 18) (C1 66 (X1 1) K1)) (S1 (S1 (G1 dR 19) (B1 4 (.loop (S1 (S1 (G1 dR 20) (C1 67 K1 (X1 4))) (B1 5 (S1 (G1 dR 21) (S1 (G1 dR 22) (B1 6 (.loop (S1 (S1 (G1 dR 23) (C1 75 K1 (X1 6))) (S1 (B1 7 (S1 (G1 dR 25) (B1 8 (.loop (S1 (S1 (G1 dR 26) (C1 99 K1 (X1 8))) (S1 (B1 9 (S1 (G1 dR 28) (S1 (G1 dR 29) (C1 124 (S1 (G1 dR 30) (G1 dR 31)) K1)))) (G1 dR 27))))))) (G1 dR 24)))))))))))) (G1 dR 32))))))) (G1 dR 9)))))) (S1 (G1 dR 33) .ret)))))))):=kr
theorem anf:ff=(S1 (G1 ff 0) (S1 (G1 ff 1) (S1 (S1 (G1 ff 2) (C1 16 (S1 (G1 ff 3) .ret) K1)) (S1 (G1 ff 4) (S1 (G1 ff 5) (S1 (S1 (G1 ff 6) (B1 0 (.loop (S1 (S1 (G1 ff 7) (C1 22 K1 (X1 0))) (B1 1 (S1 (G1 ff 8) (S1 (G1 ff 9) (B1 2 (.loop (S1 (S1 (G1 ff 10) (C1 27 K1 (X1 2))) (S1 (B1 3 (S1 (S1 (G1 ff 12) (C1 34 (X1 3) K1)) (S1 (G1 ff 13) (S1 (G1 ff 14) (S1 (S1 (G1 ff 15) (B1 4 (.loop (S1 (S1 (G1 ff 16) (C1 43 K1 (X1 4))) (S1 (B1 5 (G1 ff 18)) (G1 ff 17)))))) (S1 (G1 ff 19) (C1 69 (S1 (G1 ff 20) (G1 ff 21)) K1))))))) (G1 ff 11)))))))))))) (S1 (S1 (G1 ff 22) (B1 6 (.loop (S1 (S1 (G1 ff 23) (C1 76 K1 (X1 6))) (S1 (B1 7 (S1 (G1 ff 25) (C1 82 (S1 (G1 ff 26) .ret) K1))) (G1 ff 24)))))) (S1 (G1 ff 27) .ret)))))))):=kr
theorem abG:drawInfo (Z oQ 6)=some []:=kr
theorem am9:oQ=(S1 (G1 oQ 0) (S1 (S1 (G1 oQ 1) (C1 10 (S1 (G1 oQ 2) .ret) K1)) (S1 (S1 (G1 oQ 3) (B1 0 (.loop (S1 (S1 (G1 oQ 4) (C1 14 K1 (X1 0))) (S1 (B1 1 (S1 (G2 oQ 6) (C1 41 (S1 (G1 oQ 7) .ret) K1))) (G1 oQ 5)))))) (S1 (G1 oQ 8) .ret)))):=kr
theorem am6:tu=(S1 (G1 tu 0) (S1 (S1 (G1 tu 1) (B1 0 (.loop (S1 (S1 (G1 tu 2) (C1 9 K1 (X1 0))) (S1 (B1 1 (S1 (G1 tu 4) (C1 17 (S1 (G1 tu 5) .ret) K1))) (G1 tu 3)))))) (S1 (G1 tu 6) .ret))):=kr
end Go.Proofs.Tryz.K
