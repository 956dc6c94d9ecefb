/- Part 3. -/
import Derived.Test.YtnagfmlifobdiaaGreatDoorCoarsest2
import Derived.Below
import Derived.Carry
import Derived.ChangeOld
import Derived.MakeChecks
import Derived.OpenShut
set_option linter.all false
set_option maxHeartbeats 4000000
set_option maxRecDepth 10000
open List(replicate)
namespace Go.Proofs.Tryz.K
open Go.Abs
def zf(i:Nat):Code->Option (Array Oper)
 | .region j o _=>bif Nat.beq i j then some o else none
 | .seq a b=>match zf i a with
  |some x=>some x
  |none=>zf i b
 | .cond _ a b=>match zf i a with
  |some x=>some x
  |none=>zf i b
 | .block _ b=>zf i b
 | .loop b=>zf i b
 | .scope b=>zf i b
 | .rangeFunc _ _ a b=>match zf i a with
  |some x=>some x
  |none=>zf i b
 |_=>none
def Z(b:Code)(i:Nat):Array Oper:=(zf i b).getD #[]
abbrev G(i:Nat)(o:Array Oper):Code:=.region i o false
abbrev G1(b:Code)(i:Nat):Code:=.region i (Z b i) false
abbrev G2(b:Code)(i:Nat):Code:=.region i (Z b i) true
abbrev S1(a b:Code):Code:=.seq a b
abbrev C1(n:Nat)(a b:Code):Code:=.cond (.tmp n) a b
abbrev B1(n:Nat)(a:Code):Code:=.block n a
abbrev X1(n:Nat):Code:=.exit n
abbrev K1:Code:=.skip
theorem aji:fx=(S1 (G1 fx 0) (S1 (S1 (G1 fx 1) (B1 0 (.loop (S1 (S1 (G1 fx 2) (C1 13 K1 (X1 0))) (S1 (B1 1 (S1 (G1 fx 4) (S1 (S1 (G1 fx 5) (C1 47 (S1 (G1 fx 6) .ret) K1)) (S1 (S1 (G1 fx 7) (B1 2 (.loop (S1 (S1 (G1 fx 8) (C1 52 K1 (X1 2))) (S1 (B1 3 (S1 (G1 fx 10) (C1 61 (S1 (G1 fx 11) .ret) K1))) (G1 fx 9)))))) (S1 (G1 fx 12) (B1 4 (.loop (S1 (S1 (G1 fx 13) (C1 66 K1 (X1 4))) (S1 (B1 5 (S1 (G1 fx 15) (S1 (S1 (G1 fx 16) (C1 106 (S1 (G1 fx 17) .ret) K1)) (S1 (S1 (G1 fx 18) (B1 6 (.loop (S1 (S1 (G1 fx 19) (C1 111 K1 (X1 6))) (S1 (B1 7 (S1 (G1 fx 21) (C1 121 (S1 (G1 fx 22) .ret) K1))) (G1 fx 20)))))) (S1 (G1 fx 23) (B1 8 (.loop (S1 (S1 (G1 fx 24) (C1 127 K1 (X1 8))) (S1 (B1 9 (S1 (G1 fx 26) (C1 138 (S1 (G1 fx 27) .ret) K1))) (G1 fx 25)))))))))) (G1 fx 14)))))))))) (G1 fx 3)))))) (S1 (G1 fx 28) .ret))):=kr
theorem ajb:tP=(S1 (G1 tP 0) (S1 (S1 (G1 tP 1) (B1 0 (.loop (S1 (S1 (G1 tP 2) (C1 7 K1 (X1 0))) (S1 (B1 1 (S1 (G1 tP 4) (C1 15 (S1 (G1 tP 5) .ret) K1))) (G1 tP 3)))))) (S1 (G1 tP 6) .ret))):=kr
theorem ajz:mz=(S1 (G1 mz 0) (S1 (G1 mz 1) (S1 (G1 mz 2) (S1 (G1 mz 3) (S1 (G1 mz 4) (S1 (G1 mz 5) (S1 (G1 mz 6) (S1 (G1 mz 7) (S1 (G1 mz 8) (S1 (G1 mz 9) (S1 (S1 (G1 mz 10) (C1 107 (S1 (G1 mz 11) .ret) K1)) (S1 (G1 mz 12) (S1 (G1 mz 13) .ret))))))))))))):=kr
theorem Ud:xH=(S1 (G1 xH 0) (S1 (G1 xH 1) (S1 (S1 (G1 xH 2) (C1 12 (S1 (G1 xH 3) .ret) K1)) (S1 (G1 xH 4) .ret)))):=kr
theorem Zn:bT (Z ep 29)=some []:=kr
theorem Uf:ep=(S1 (G1 ep 0) (S1 (G1 ep 1) (S1 (S1 (G1 ep 2) (C1 26 (S1 (G1 ep 3) .ret) K1)) (S1 (G1 ep 4) (S1 (G1 ep 5) (S1 (S1 (G1 ep 6) (B1 0 (.loop (S1 (G1 ep 7) (S1 (C1 32 K1 (X1 0)) (S1 (B1 1 (S1 (G1 ep 8) (S1 (S1 (G1 ep 9) (C1 45 (S1 (G1 ep 10) .ret) K1)) (S1 (G1 ep 11) (S1 (G1 ep 12) (B1 2 (.loop (S1 (G1 ep 13) (S1 (C1 52 K1 (X1 2)) (S1 (B1 3 (S1 (G1 ep 14) (S1 (S1 (G1 ep 15) (S1 (G1 ep 16) (C1 85 (S1 (G1 ep 17) .ret) K1))) (G1 ep 18)))) (G1 ep 19))))))))))) (G1 ep 20))))))) (S1 (S1 (G1 ep 21) (C1 95 (S1 (G1 ep 22) .ret) K1)) (S1 (S1 (G1 ep 23) (B1 4 (.loop (S1 (G1 ep 24) (S1 (C1 99 K1 (X1 4)) (S1 (B1 5 (S1 (G1 ep 25) (S1 (G1 ep 26) (B1 6 (.loop (S1 (G1 ep 27) (S1 (C1 106 K1 (X1 6)) (S1 (B1 7 (S1 (G1 ep 28) (S1 (G2 ep 29) (C1 138 (S1 (G1 ep 30) .ret) K1)))) (G1 ep 31))))))))) (G1 ep 32))))))) (S1 (G1 ep 33) .ret))))))))):=kr
theorem aa4:bT (Z pI 6)=some []:=kr
theorem ajn:pI=(S1 (G1 pI 0) (S1 (S1 (G1 pI 1) (C1 10 (S1 (G1 pI 2) .ret) K1)) (S1 (S1 (G1 pI 3) (B1 0 (.loop (S1 (S1 (G1 pI 4) (C1 14 K1 (X1 0))) (S1 (B1 1 (S1 (G2 pI 6) (C1 26 (S1 (G1 pI 7) .ret) K1))) (G1 pI 5)))))) (S1 (G1 pI 8) .ret)))):=kr
theorem aa1:bT (Z jd 9)=some []:=kr
theorem ai8:jd=(S1 (G1 jd 0) (S1 (G1 jd 1) (S1 (S1 (G1 jd 2) (C1 23 (S1 (G1 jd 3) .ret) K1)) (S1 (G1 jd 4) (S1 (G1 jd 5) (S1 (S1 (G1 jd 6) (B1 0 (.loop (S1 (G1 jd 7) (S1 (C1 37 K1 (X1 0)) (S1 (B1 1 (S1 (G1 jd 8) (G2 jd 9))) (G1 jd 10))))))) (S1 (G1 jd 11) (S1 (S1 (G1 jd 12) (B1 2 (.loop (S1 (G1 jd 13) (S1 (C1 54 K1 (X1 2)) (S1 (B1 3 (S1 (G1 jd 14) (S1 (G1 jd 15) (C1 61 (G1 jd 16) K1)))) (G1 jd 17))))))) (S1 (G1 jd 18) .ret))))))))):=kr
theorem ai4:vz=(S1 (G1 vz 0) (S1 (G1 vz 1) (S1 (S1 (G1 vz 2) (C1 17 (S1 (G1 vz 3) .ret) K1)) (S1 (G1 vz 4) (S1 (G1 vz 5) .ret))))):=kr
theorem aa5:bT (Z pJ 6)=some []:=kr
theorem ajp:pJ=(S1 (G1 pJ 0) (S1 (S1 (G1 pJ 1) (C1 10 (S1 (G1 pJ 2) .ret) K1)) (S1 (S1 (G1 pJ 3) (B1 0 (.loop (S1 (S1 (G1 pJ 4) (C1 14 K1 (X1 0))) (S1 (B1 1 (S1 (G2 pJ 6) (C1 25 (S1 (G1 pJ 7) .ret) K1))) (G1 pJ 5)))))) (S1 (G1 pJ 8) .ret)))):=kr
theorem ajh:pK=(S1 (G1 pK 0) (S1 (S1 (G1 pK 1) (B1 0 (.loop (S1 (S1 (G1 pK 2) (C1 10 K1 (X1 0))) (S1 (B1 1 (S1 (G1 pK 4) (B1 2 (.loop (S1 (S1 (G1 pK 5) (C1 19 K1 (X1 2))) (S1 (B1 3 (S1 (G1 pK 7) (C1 30 (S1 (G1 pK 8) .ret) K1))) (G1 pK 6))))))) (G1 pK 3)))))) (S1 (G1 pK 9) .ret))):=kr
theorem aaM:bT (Z je 9)=some []:=kr
theorem ah2:je=(S1 (G1 je 0) (S1 (S1 (G1 je 1) (C1 11 (S1 (G1 je 2) .ret) K1)) (S1 (S1 (G1 je 3) (B1 0 (.loop (S1 (G1 je 4) (S1 (C1 15 K1 (X1 0)) (S1 (B1 1 (S1 (G1 je 5) (S1 (S1 (G1 je 6) (S1 (G1 je 7) (C1 22 (S1 (G1 je 8) .ret) K1))) (S1 (G2 je 9) (C1 37 (S1 (G1 je 10) .ret) K1))))) (G1 je 11))))))) (S1 (S1 (G1 je 12) (B1 2 (.loop (S1 (G1 je 13) (S1 (C1 43 K1 (X1 2)) (S1 (B1 3 (S1 (G1 je 14) (S1 (G1 je 15) (C1 51 (S1 (G1 je 16) .ret) K1)))) (G1 je 17))))))) (S1 (G1 je 18) .ret))))):=kr
theorem aaY:bT (Z o3 7)=some []:=kr
theorem aiP:o3=(S1 (G1 o3 0) (S1 (G1 o3 1) (S1 (S1 (G1 o3 2) (C1 21 (S1 (G1 o3 3) .ret) K1)) (S1 (S1 (G1 o3 4) (B1 0 (.rangeFunc (.tmp 27) #[28,29] (S1 (G1 o3 5) (G1 o3 6)) (B1 1 (S1 (G2 o3 7) (C1 42 (S1 (G1 o3 8) .ret) K1)))))) (S1 (G1 o3 9) .ret))))):=kr
theorem ajm:Gq=(S1 (G1 Gq 0) (S1 (G1 Gq 1) .ret)):=kr
theorem Zg:bT (Z gC 20)=some [(0,3),(1,3),(3,6),(4,6),(5,6),(3,7),(4,7),(5,7),(9,11),(10,11)]:=kr
theorem aio:gC=(S1 (G1 gC 0) (S1 (S1 (G1 gC 1) (S1 (G1 gC 2) (C1 21 (S1 (G1 gC 3) .ret) K1))) (S1 (G1 gC 4) (S1 (S1 (G1 gC 5) (B1 0 (.loop (S1 (G1 gC 6) (S1 (C1 28 K1 (X1 0)) (S1 (B1 1 (S1 (G1 gC 7) (G1 gC 8))) (G1 gC 9))))))) (S1 (G1 gC 10) (S1 (S1 (G1 gC 11) (B1 2 (.loop (S1 (G1 gC 12) (S1 (C1 42 K1 (X1 2)) (S1 (B1 3 (S1 (G1 gC 13) (S1 (G1 gC 14) (S1 (S1 (G1 gC 15) (B1 4 (.loop (S1 (G1 gC 16) (S1 (C1 49 K1 (X1 4)) (S1 (B1 5 (S1 (G1 gC 17) (G1 gC 18))) (G1 gC 19))))))) (G2 gC 20))))) (G1 gC 21))))))) (S1 (G1 gC 22) .ret))))))):=kr
theorem air:jx=(S1 (G1 jx 0) (.scope (S1 (G1 jx 1) (S1 (.label 0) (S1 (B1 0 (.loop (B1 1 (S1 (G1 jx 2) (S1 (S1 (G1 jx 3) (B1 2 (.loop (S1 (G1 jx 4) (S1 (C1 21 K1 (X1 2)) (S1 (B1 3 (S1 (G1 jx 5) (S1 (G1 jx 6) (S1 (S1 (G1 jx 7) (B1 4 (.loop (S1 (G1 jx 8) (S1 (C1 35 K1 (X1 4)) (S1 (B1 5 (S1 (G1 jx 9) (G1 jx 10))) (G1 jx 11))))))) (G1 jx 12))))) (G1 jx 13))))))) (S1 (G1 jx 14) (S1 (G1 jx 15) (S1 (S1 (G1 jx 16) (C1 60 (X1 0) K1)) (G1 jx 17))))))))) (S1 (G1 jx 18) .ret)))))):=kr
theorem ait:pL=(S1 (G1 pL 0) (S1 (G1 pL 1) (S1 (S1 (G1 pL 2) (B1 0 (.loop (S1 (G1 pL 3) (S1 (C1 10 K1 (X1 0)) (S1 (B1 1 (S1 (G1 pL 4) (S1 (S1 (G1 pL 5) (C1 17 (G1 pL 6) K1)) (G1 pL 7)))) (G1 pL 8))))))) (S1 (G1 pL 9) .ret)))):=kr
theorem aic:Gr=(S1 (G1 Gr 0) (S1 (G1 Gr 1) .ret)):=kr
theorem aiA:o4=(S1 (G1 o4 0) (S1 (S1 (G1 o4 1) (C1 14 (S1 (G1 o4 2) .ret) K1)) (S1 (S1 (G1 o4 3) (B1 0 (.loop (S1 (G1 o4 4) (S1 (C1 18 K1 (X1 0)) (S1 (B1 1 (S1 (G1 o4 5) (S1 (G1 o4 6) (S1 (G1 o4 7) (C1 30 (S1 (G1 o4 8) .ret) K1))))) (G1 o4 9))))))) (S1 (G1 o4 10) .ret)))):=kr
theorem aiy:Gs=(S1 (G1 Gs 0) (S1 (G1 Gs 1) .ret)):=kr
theorem aiX:nn=(S1 (G1 nn 0) (S1 (G1 nn 1) (S1 (S1 (G1 nn 2) (C1 16 (S1 (G1 nn 3) .ret) K1)) (S1 (S1 (G1 nn 4) (C1 21 (S1 (G1 nn 5) .ret) K1)) (S1 (S1 (G1 nn 6) (B1 0 (.loop (S1 (G1 nn 7) (S1 (C1 26 K1 (X1 0)) (S1 (B1 1 (S1 (G1 nn 8) (S1 (G1 nn 9) (C1 32 (S1 (G1 nn 10) .ret) K1)))) (G1 nn 11))))))) (S1 (G1 nn 12) .ret)))))):=kr
theorem Zs:bT (Z gm 10)=some [(0,10)]:=kr
theorem Zu:bT (Z gm 14)=some []:=kr
theorem ai1:gm=(S1 (G1 gm 0) (S1 (G1 gm 1) (S1 (G1 gm 2) (S1 (S1 (G1 gm 3) (B1 0 (.loop (S1 (G1 gm 4) (S1 (C1 28 K1 (X1 0)) (S1 (B1 1 (S1 (G1 gm 5) (S1 (G1 gm 6) (S1 (S1 (G1 gm 7) (B1 2 (.loop (S1 (G1 gm 8) (S1 (C1 34 K1 (X1 2)) (S1 (B1 3 (S1 (G1 gm 9) (S1 (G2 gm 10) (G1 gm 11)))) (G1 gm 12))))))) (S1 (S1 (G1 gm 13) (C1 58 (G2 gm 14) K1)) (S1 (G1 gm 15) (S1 (G1 gm 16) (B1 4 (.loop (S1 (G1 gm 17) (S1 (C1 73 K1 (X1 4)) (S1 (B1 5 (S1 (G1 gm 18) (G1 gm 19))) (G1 gm 20))))))))))))) (G1 gm 21))))))) (S1 (G1 gm 22) .ret))))):=kr
theorem aaN:bT (Z gD 3)=some [(2,3),(2,4),(2,6),(5,6),(2,7),(5,7),(5,9),(8,9)]:=kr
theorem Zf:bT (Z gD 16)=some [(3,4),(3,5),(3,6),(3,8),(7,8),(3,9),(7,9),(3,10),(7,10),(3,11),(7,11),(7,13),(12,13),(7,14),(12,14)]:=kr
theorem aij:gD=(S1 (G1 gD 0) (S1 (G1 gD 1) (S1 (G1 gD 2) (S1 (G2 gD 3) (S1 (G1 gD 4) (S1 (S1 (G1 gD 5) (B1 0 (.loop (S1 (G1 gD 6) (S1 (C1 33 K1 (X1 0)) (S1 (B1 1 (S1 (G1 gD 7) (S1 (G1 gD 8) (S1 (G1 gD 9) (S1 (S1 (G1 gD 10) (B1 2 (.loop (S1 (G1 gD 11) (S1 (C1 42 K1 (X1 2)) (S1 (B1 3 (S1 (G1 gD 12) (S1 (G1 gD 13) (G1 gD 14)))) (G1 gD 15))))))) (S1 (G2 gD 16) (S1 (S1 (G1 gD 17) (C1 85 (G1 gD 18) K1)) (G1 gD 19)))))))) (G1 gD 20))))))) (S1 (G1 gD 21) .ret))))))):=kr
theorem ai6:Gt=(S1 (G1 Gt 0) (S1 (G1 Gt 1) .ret)):=kr
theorem ajU:vA=(S1 (G1 vA 0) (S1 (B1 0 (S1 (G1 vA 1) (C1 3 (S1 (G1 vA 2) .ret) (S1 (G1 vA 3) (C1 7 (S1 (G1 vA 4) .ret) K1))))) (S1 (G1 vA 5) .ret))):=kr
theorem Jp:bT (Z dM 8)=some []:=kr
theorem EQ:bT (Z dM 15)=some []:=kr
theorem ah0:dM=(S1 (G1 dM 0) (S1 (S1 (G1 dM 1) (B1 0 (.loop (S1 (G1 dM 2) (S1 (C1 17 K1 (X1 0)) (S1 (B1 1 (S1 (G1 dM 3) (S1 (G1 dM 4) (S1 (G1 dM 5) (S1 (G1 dM 6) (B1 2 (S1 (G1 dM 7) (C1 31 (S1 (G2 dM 8) (C1 63 (S1 (G1 dM 9) .ret) K1)) (S1 (G1 dM 10) (C1 64 (S1 (G1 dM 11) (C1 80 (S1 (G1 dM 12) .ret) K1)) (S1 (G1 dM 13) (C1 81 (S1 (G1 dM 14) (S1 (G2 dM 15) (C1 103 (S1 (G1 dM 16) .ret) K1))) K1)))))))))))) (G1 dM 17))))))) (S1 (G1 dM 18) .ret))):=kr
theorem ah4:o1=(S1 (G1 o1 0) (S1 (G1 o1 1) (S1 (S1 (G1 o1 2) (B1 0 (.loop (S1 (G1 o1 3) (S1 (C1 10 K1 (X1 0)) (S1 (B1 1 (S1 (G1 o1 4) (S1 (G1 o1 5) (C1 22 (G1 o1 6) K1)))) (G1 o1 7))))))) (S1 (G1 o1 8) .ret)))):=kr
theorem aim:CO=(S1 (G1 CO 0) (S1 (G1 CO 1) (S1 (G1 CO 2) .ret))):=kr
theorem aiL:xI=(S1 (G1 xI 0) (S1 (G1 xI 1) (S1 (S1 (G1 xI 2) (C1 36 (G1 xI 3) K1)) (S1 (G1 xI 4) .ret)))):=kr
theorem aiG:Gu=(S1 (G1 Gu 0) (S1 (G1 Gu 1) .ret)):=kr
theorem aa3:bT (Z pM 6)=some []:=kr
theorem ajk:pM=(S1 (G1 pM 0) (S1 (S1 (G1 pM 1) (C1 10 (S1 (G1 pM 2) .ret) K1)) (S1 (S1 (G1 pM 3) (B1 0 (.loop (S1 (S1 (G1 pM 4) (C1 14 K1 (X1 0))) (S1 (B1 1 (S1 (G2 pM 6) (C1 25 (S1 (G1 pM 7) .ret) K1))) (G1 pM 5)))))) (S1 (G1 pM 8) .ret)))):=kr
theorem ajI:Gv=(S1 (G1 Gv 0) (S1 (G1 Gv 1) .ret)):=kr
theorem ahW:xJ=(S1 (G1 xJ 0) (S1 (G1 xJ 1) (S1 (S1 (G1 xJ 2) (C1 11 (S1 (G1 xJ 3) .ret) K1)) (S1 (G1 xJ 4) .ret)))):=kr
theorem ahN:Gw=(S1 (G1 Gw 0) (S1 (G1 Gw 1) .ret)):=kr
theorem aih:np=(S1 (G1 np 0) (S1 (G1 np 1) (S1 (G1 np 2) (S1 (S1 (G1 np 3) (B1 0 (.loop (S1 (G1 np 4) (S1 (C1 14 K1 (X1 0)) (S1 (B1 1 (S1 (G1 np 5) (S1 (G1 np 6) (S1 (S1 (G1 np 7) (C1 24 (S1 (G1 np 8) (G1 np 9)) K1)) (G1 np 10))))) (G1 np 11))))))) (S1 (G1 np 12) .ret))))):=kr
theorem aie:sg=(S1 (G1 sg 0) (S1 (G1 sg 1) (S1 (S1 (G1 sg 2) (B1 0 (.loop (S1 (G1 sg 3) (S1 (C1 9 K1 (X1 0)) (S1 (B1 1 (S1 (G1 sg 4) (G1 sg 5))) (G1 sg 6))))))) (S1 (G1 sg 7) .ret)))):=kr
theorem aiV:Gx=(S1 (G1 Gx 0) (S1 (G1 Gx 1) .ret)):=kr
theorem aiT:Gy=(S1 (G1 Gy 0) (S1 (G1 Gy 1) .ret)):=kr
theorem aiR:Gz=(S1 (G1 Gz 0) (S1 (G1 Gz 1) .ret)):=kr
theorem ahK:sk=(S1 (G1 sk 0) (S1 (S1 (G1 sk 1) (B1 0 (.loop (S1 (G1 sk 2) (S1 (C1 9 K1 (X1 0)) (S1 (B1 1 (S1 (G1 sk 3) (S1 (G1 sk 4) (C1 16 (S1 (G1 sk 5) .ret) K1)))) (G1 sk 6))))))) (S1 (G1 sk 7) .ret))):=kr
theorem aiZ:GA=(S1 (G1 GA 0) (S1 (G1 GA 1) .ret)):=kr
theorem ah6:An=(S1 (G1 An 0) (S1 (S1 (G1 An 1) (C1 4 (S1 (G1 An 2) .ret) K1)) (S1 (G1 An 3) .ret))):=kr
theorem ah8:Ao=(S1 (G1 Ao 0) (S1 (S1 (G1 Ao 1) (C1 4 (S1 (G1 Ao 2) .ret) K1)) (S1 (G1 Ao 3) .ret))):=kr
theorem aj0:xG=(S1 (G1 xG 0) (S1 (S1 (G1 xG 1) (C1 4 (S1 (G1 xG 2) .ret) K1)) (S1 (G1 xG 3) .ret))):=kr
theorem ah':Ap=(S1 (G1 Ap 0) (S1 (S1 (G1 Ap 1) (C1 4 (S1 (G1 Ap 2) .ret) K1)) (S1 (G1 Ap 3) .ret))):=kr
theorem ZN:bT (Z dN 10)=some []:=kr
theorem ZO:bT (Z dN 32)=some []:=kr
theorem ajS:dN=(S1 (G1 dN 0) (S1 (G1 dN 1) (S1 (G1 dN 2) (S1 (S1 (G1 dN 3) (C1 71 (S1 (G1 dN 4) .ret) K1)) (S1 (S1 (G1 dN 5) (C1 101 (S1 (G1 dN 6) .ret) K1)) (S1 (S1 (G1 dN 7) (B1 0 (.loop (S1 (S1 (G1 dN 8) (C1 106 K1 (X1 0))) (S1 (B1 1 (S1 (G2 dN 10) (C1 120 (S1 (G1 dN 11) .ret) K1))) (G1 dN 9)))))) (S1 (G1 dN 12) (S1 (S1 (G1 dN 13) (B1 2 (.loop (S1 (G1 dN 14) (S1 (C1 126 K1 (X1 2)) (S1 (B1 3 (S1 (G1 dN 15) (S1 (S1 (G1 dN 16) (C1 139 (S1 (G1 dN 17) .ret) K1)) (S1 (G1 dN 18) (C1 143 (S1 (S1 (G1 dN 19) (C1 148 (S1 (G1 dN 20) .ret) K1)) (G1 dN 21)) K1))))) (G1 dN 22))))))) (S1 (G1 dN 23) (S1 (S1 (G1 dN 24) (B1 4 (.loop (S1 (G1 dN 25) (S1 (C1 160 K1 (X1 4)) (S1 (B1 5 (S1 (G1 dN 26) (S1 (G1 dN 27) (S1 (G1 dN 28) (B1 6 (.loop (S1 (G1 dN 29) (S1 (C1 168 K1 (X1 6)) (S1 (B1 7 (S1 (G1 dN 30) (S1 (G1 dN 31) (S1 (G2 dN 32) (C1 187 (S1 (G1 dN 33) .ret) K1))))) (G1 dN 34)))))))))) (G1 dN 35))))))) (S1 (G1 dN 36) .ret))))))))))):=kr
theorem abn:bT (Z fS 7)=some []:=kr
theorem ZL:bT (Z fS 17)=some []:=kr
theorem ZM:bT (Z fS 18)=some [(14,15),(14,16),(14,18),(14,19)]:=kr
theorem ajP:fS=(S1 (G1 fS 0) (.scope (S1 (G1 fS 1) (S1 (G1 fS 2) (S1 (.label 0) (S1 (S1 (G1 fS 3) (B1 0 (.loop (S1 (G1 fS 4) (S1 (C1 28 K1 (X1 0)) (S1 (B1 1 (S1 (G1 fS 5) (S1 (S1 (G1 fS 6) (C1 36 (X1 1) K1)) (S1 (S1 (G2 fS 7) (S1 (G1 fS 8) (C1 47 (S1 (G1 fS 9) .ret) K1))) (S1 (G1 fS 10) (B1 2 (.loop (S1 (G1 fS 11) (S1 (C1 52 K1 (X1 2)) (S1 (B1 3 (S1 (G1 fS 12) (S1 (S1 (G1 fS 13) (C1 57 (X1 1) K1)) (S1 (G1 fS 14) (B1 4 (.loop (S1 (G1 fS 15) (S1 (C1 64 K1 (X1 4)) (S1 (B1 5 (S1 (G1 fS 16) (S1 (G2 fS 17) (S1 (G2 fS 18) (C1 104 (S1 (G1 fS 19) .ret) K1))))) (G1 fS 20)))))))))) (G1 fS 21))))))))))) (G1 fS 22))))))) (S1 (G1 fS 23) .ret))))))):=kr
theorem aaJ:bT (Z o5 6)=some []:=kr
theorem ahY:o5=(S1 (G1 o5 0) (S1 (S1 (G1 o5 1) (C1 13 (S1 (G1 o5 2) .ret) K1)) (S1 (S1 (G1 o5 3) (B1 0 (.loop (S1 (G1 o5 4) (S1 (C1 17 K1 (X1 0)) (S1 (B1 1 (S1 (G1 o5 5) (S1 (G2 o5 6) (C1 32 (S1 (G1 o5 7) .ret) K1)))) (G1 o5 8))))))) (S1 (G1 o5 9) .ret)))):=kr
theorem aeR:rR=(S1 (G1 rR 0) (S1 (S1 (G1 rR 1) (B1 0 (.loop (S1 (G1 rR 2) (S1 (C1 15 K1 (X1 0)) (S1 (B1 1 (S1 (G1 rR 3) (S1 (G1 rR 4) (C1 28 (S1 (G1 rR 5) .ret) K1)))) (G1 rR 6))))))) (S1 (G1 rR 7) .ret))):=kr
theorem Y':bT (Z dE 8)=some [(1,6),(2,6),(6,7),(6,8),(6,9),(1,10),(2,10)]:=kr
theorem XZ:bT (Z dE 30)=some [(1,5),(2,5)]:=kr
theorem Te:dE=(S1 (G1 dE 0) (S1 (S1 (G1 dE 1) (S1 (G1 dE 2) (C1 17 (S1 (G1 dE 3) .ret) K1))) (S1 (G1 dE 4) (S1 (G1 dE 5) (S1 (S1 (G1 dE 6) (C1 22 (G1 dE 7) K1)) (S1 (G2 dE 8) (S1 (G1 dE 9) (S1 (G1 dE 10) (S1 (G1 dE 11) (S1 (S1 (G1 dE 12) (B1 0 (.loop (S1 (G1 dE 13) (S1 (C1 56 K1 (X1 0)) (S1 (B1 1 (S1 (G1 dE 14) (S1 (G1 dE 15) (S1 (S1 (G1 dE 16) (B1 2 (.loop (S1 (G1 dE 17) (S1 (C1 66 K1 (X1 2)) (S1 (B1 3 (S1 (G1 dE 18) (G1 dE 19))) (G1 dE 20))))))) (S1 (G1 dE 21) (S1 (G1 dE 22) (S1 (S1 (G1 dE 23) (C1 96 (G1 dE 24) K1)) (S1 (S1 (G1 dE 25) (C1 104 (G1 dE 26) K1)) (S1 (G1 dE 27) (B1 4 (.loop (S1 (G1 dE 28) (S1 (C1 113 K1 (X1 4)) (S1 (B1 5 (S1 (G1 dE 29) (G2 dE 30))) (G1 dE 31))))))))))))))) (G1 dE 32))))))) (S1 (G1 dE 33) .ret))))))))))):=kr
theorem aeY:Fx=(S1 (G1 Fx 0) (S1 (G1 Fx 1) .ret)):=kr
theorem Zp:bT (Z kf 6)=some []:=kr
theorem X3:bT (Z kf 13)=some [(1,13)]:=kr
theorem aff:kf=(S1 (G1 kf 0) (S1 (G1 kf 1) (B1 0 (.loop (S1 (S1 (G1 kf 2) (C1 16 K1 (X1 0))) (S1 (B1 1 (S1 (G1 kf 4) (S1 (S1 (G1 kf 5) (C1 28 .ret K1)) (S1 (S1 (G2 kf 6) (C1 43 (X1 1) K1)) (S1 (G1 kf 7) (B1 2 (.loop (S1 (G1 kf 8) (S1 (C1 53 K1 (X1 2)) (S1 (B1 3 (S1 (G1 kf 9) (S1 (G1 kf 10) (S1 (G1 kf 11) (C1 77 (S1 (G1 kf 12) (G2 kf 13)) K1))))) (G1 kf 14))))))))))) (G1 kf 3))))))):=kr
theorem aeP:rS=(S1 (G1 rS 0) (S1 (S1 (G1 rS 1) (B1 0 (.loop (S1 (G1 rS 2) (S1 (C1 9 K1 (X1 0)) (S1 (B1 1 (S1 (G1 rS 3) (S1 (G1 rS 4) (C1 16 (S1 (G1 rS 5) .ret) K1)))) (G1 rS 6))))))) (S1 (G1 rS 7) .ret))):=kr
theorem aeN:Fy=(S1 (G1 Fy 0) (S1 (G1 Fy 1) .ret)):=kr
theorem aew:z8=(S1 (G1 z8 0) (S1 (G1 z8 1) (S1 (G1 z8 2) (S1 (G1 z8 3) .ret)))):=kr
theorem Y9:bT (Z Cs 1)=some [(4,6),(4,7),(4,8),(4,9)]:=kr
theorem aeL:Cs=(S1 (G1 Cs 0) (S1 (G2 Cs 1) .ret)):=kr
theorem afi:rT=(S1 (G1 rT 0) (S1 (S1 (G1 rT 1) (B1 0 (.loop (S1 (G1 rT 2) (S1 (C1 9 K1 (X1 0)) (S1 (B1 1 (S1 (G1 rT 3) (S1 (G1 rT 4) (C1 16 (S1 (G1 rT 5) .ret) K1)))) (G1 rT 6))))))) (S1 (G1 rT 7) .ret))):=kr
theorem agr:Ct=(S1 (G1 Ct 0) (S1 (G1 Ct 1) (S1 (G1 Ct 2) .ret))):=kr
theorem afV:Fz=(S1 (G1 Fz 0) (S1 (G1 Fz 1) .ret)):=kr
theorem af3:FA=(S1 (G1 FA 0) (S1 (G1 FA 1) .ret)):=kr
theorem aeh:FC=(S1 (G1 FC 0) (S1 (G1 FC 1) .ret)):=kr
theorem afZ:FD=(S1 (G1 FD 0) (S1 (G1 FD 1) .ret)):=kr
theorem afX:FE=(S1 (G1 FE 0) (S1 (G1 FE 1) .ret)):=kr
theorem Ym:bT (Z eR 11)=some [(3,4),(3,5),(3,6)]:=kr
theorem Yn:bT (Z eR 28)=some [(7,8),(7,9),(7,10)]:=kr
theorem agx:eR=(S1 (G1 eR 0) (S1 (G1 eR 1) (S1 (G1 eR 2) (S1 (S1 (G1 eR 3) (B1 0 (S1 (G1 eR 4) (C1 13 (G1 eR 5) (S1 (G1 eR 6) (C1 20 (G1 eR 7) (S1 (G1 eR 8) (C1 42 (S1 (G1 eR 9) (S1 (G1 eR 10) (C1 57 (G2 eR 11) K1))) (S1 (G1 eR 12) (C1 66 (G1 eR 13) (S1 (G1 eR 14) (C1 72 (S1 (G1 eR 15) (S1 (G1 eR 16) (G1 eR 17))) (S1 (G1 eR 18) (C1 107 (S1 (G1 eR 19) (G1 eR 20)) (S1 (G1 eR 21) (C1 153 (S1 (G1 eR 22) (G1 eR 23)) (S1 (G1 eR 24) (C1 187 (S1 (G1 eR 25) (G1 eR 26)) (S1 (G1 eR 27) (C1 224 (G2 eR 28) K1)))))))))))))))))))) (S1 (G1 eR 29) .ret))))):=kr
theorem afP:n3=(S1 (G1 n3 0) (S1 (G1 n3 1) (S1 (S1 (G1 n3 2) (B1 0 (.loop (S1 (G1 n3 3) (S1 (C1 18 K1 (X1 0)) (S1 (B1 1 (S1 (G1 n3 4) (S1 (G1 n3 5) (B1 2 (.loop (S1 (G1 n3 6) (S1 (C1 28 K1 (X1 2)) (S1 (B1 3 (S1 (G1 n3 7) (G1 n3 8))) (G1 n3 9))))))))) (G1 n3 10))))))) (S1 (G1 n3 11) .ret)))):=kr
theorem agv:mv=(S1 (G1 mv 0) (S1 (S1 (G1 mv 1) (B1 0 (S1 (G1 mv 2) (C1 17 (S1 (G1 mv 3) .ret) (S1 (G1 mv 4) (C1 45 (S1 (G1 mv 5) .ret) (S1 (G1 mv 6) (C1 69 (S1 (G1 mv 7) .ret) (S1 (G1 mv 8) (C1 93 (S1 (G1 mv 9) (S1 (G1 mv 10) (S1 (G1 mv 11) .ret))) K1)))))))))) (S1 (G1 mv 12) (S1 (G1 mv 13) .ret)))):=kr
theorem ZI:bT (Z eC 1)=some [(4,5),(4,6),(4,7),(4,8)]:=kr
theorem Yg:bT (Z eC 20)=some []:=kr
theorem Yh:bT (Z eC 24)=some [(2,8),(3,8)]:=kr
theorem Yi:bT (Z eC 25)=some []:=kr
theorem afN:eC=(S1 (G1 eC 0) (S1 (G2 eC 1) (S1 (S1 (G1 eC 2) (B1 0 (.loop (S1 (G1 eC 3) (S1 (C1 29 K1 (X1 0)) (S1 (B1 1 (S1 (G1 eC 4) (G1 eC 5))) (G1 eC 6))))))) (S1 (G1 eC 7) (S1 (S1 (G1 eC 8) (B1 2 (.loop (S1 (G1 eC 9) (S1 (C1 45 K1 (X1 2)) (S1 (B1 3 (S1 (G1 eC 10) (G1 eC 11))) (G1 eC 12))))))) (S1 (S1 (G1 eC 13) (B1 4 (.loop (S1 (S1 (G1 eC 14) (C1 55 K1 (X1 4))) (B1 5 (S1 (G1 eC 15) (S1 (G1 eC 16) (B1 6 (.loop (S1 (G1 eC 17) (S1 (C1 61 K1 (X1 6)) (S1 (B1 7 (S1 (G1 eC 18) (S1 (S1 (G1 eC 19) (C1 69 (X1 7) K1)) (S1 (G2 eC 20) (S1 (G1 eC 21) (B1 8 (.loop (S1 (G1 eC 22) (S1 (C1 85 K1 (X1 8)) (S1 (B1 9 (S1 (G1 eC 23) (S1 (G2 eC 24) (S1 (G2 eC 25) (C1 110 (G1 eC 26) K1))))) (G1 eC 27))))))))))) (G1 eC 28))))))))))))) (S1 (G1 eC 29) .ret))))))):=kr
theorem IG:bT (Z iW 10)=some [(6,9)]:=kr
theorem afF:iW=(S1 (G1 iW 0) (S1 (G1 iW 1) (S1 (S1 (G1 iW 2) (B1 0 (.loop (S1 (G1 iW 3) (S1 (C1 17 K1 (X1 0)) (S1 (B1 1 (S1 (G1 iW 4) (S1 (S1 (G1 iW 5) (B1 2 (.loop (S1 (G1 iW 6) (S1 (C1 24 K1 (X1 2)) (S1 (B1 3 (S1 (G1 iW 7) (G1 iW 8))) (G1 iW 9))))))) (S1 (G2 iW 10) (G1 iW 11))))) (G1 iW 12))))))) (S1 (S1 (G1 iW 13) (B1 4 (.loop (S1 (G1 iW 14) (S1 (C1 56 K1 (X1 4)) (S1 (B1 5 (S1 (G1 iW 15) (G1 iW 16))) (G1 iW 17))))))) (S1 (G1 iW 18) .ret))))):=kr
theorem ZF:bT (Z xr 2)=some [(0,2)]:=kr
theorem afD:xr=(S1 (G1 xr 0) (S1 (S1 (G1 xr 1) (C1 9 (S1 (G2 xr 2) .ret) K1)) (S1 (G1 xr 3) .ret))):=kr
theorem aem:FF=(S1 (G1 FF 0) (S1 (G1 FF 1) .ret)):=kr
theorem Y8:bT (Z FG 0)=some [(1,4),(2,4)]:=kr
theorem aeF:FG=(G2 FG 0):=kr
theorem aeH:J1=(G1 J1 0):=kr
theorem aeC:FH=(S1 (G1 FH 0) (S1 (G1 FH 1) .ret)):=kr
theorem aeJ:FI=(S1 (G1 FI 0) (G1 FI 1)):=kr
theorem agp:Aa=(S1 (G1 Aa 0) (S1 (G1 Aa 1) (S1 (G1 Aa 2) (S1 (G1 Aa 3) .ret)))):=kr
theorem aee:FJ=(S1 (G1 FJ 0) (S1 (G1 FJ 1) .ret)):=kr
theorem afR:FK=(S1 (G1 FK 0) (S1 (G1 FK 1) .ret)):=kr
theorem af1:FL=(S1 (G1 FL 0) (S1 (G1 FL 1) .ret)):=kr
theorem aef:rU=(S1 (G1 rU 0) (S1 (S1 (G1 rU 1) (B1 0 (.loop (S1 (G1 rU 2) (S1 (C1 9 K1 (X1 0)) (S1 (B1 1 (S1 (G1 rU 3) (S1 (G1 rU 4) (C1 16 (S1 (G1 rU 5) .ret) K1)))) (G1 rU 6))))))) (S1 (G1 rU 7) .ret))):=kr
theorem afT:FM=(S1 (G1 FM 0) (S1 (G1 FM 1) .ret)):=kr
theorem af5:FN=(S1 (G1 FN 0) (S1 (G1 FN 1) .ret)):=kr
theorem af6:Ab=(S1 (G1 Ab 0) (S1 (S1 (G1 Ab 1) (C1 12 (S1 (G1 Ab 2) .ret) K1)) (S1 (G1 Ab 3) .ret))):=kr
theorem age:oY=(S1 (G1 oY 0) (S1 (G1 oY 1) (S1 (S1 (G1 oY 2) (C1 20 (G1 oY 3) K1)) (S1 (G1 oY 4) (S1 (S1 (G1 oY 5) (B1 0 (S1 (G1 oY 6) (C1 31 (G1 oY 7) (S1 (G1 oY 8) (C1 43 (G1 oY 9) K1)))))) (S1 (G1 oY 10) .ret)))))):=kr
theorem agn:rV=(S1 (G1 rV 0) (S1 (S1 (G1 rV 1) (B1 0 (.loop (S1 (G1 rV 2) (S1 (C1 11 K1 (X1 0)) (S1 (B1 1 (S1 (G1 rV 3) (S1 (G1 rV 4) (C1 33 (S1 (G1 rV 5) .ret) K1)))) (G1 rV 6))))))) (S1 (G1 rV 7) .ret))):=kr
theorem af':FP=(S1 (G1 FP 0) (S1 (G1 FP 1) .ret)):=kr
theorem agk:FQ=(S1 (G1 FQ 0) (S1 (G1 FQ 1) .ret)):=kr
theorem afB:FR=(S1 (G1 FR 0) (S1 (G1 FR 1) .ret)):=kr
theorem aeT:FT=(S1 (G1 FT 0) (S1 (G1 FT 1) .ret)):=kr
theorem PA:bT (Z Cu 1)=some [(10,11),(10,12),(10,13),(10,15),(10,16)]:=kr
theorem aga:Cu=(S1 (G1 Cu 0) (S1 (G2 Cu 1) .ret)):=kr
theorem ZQ:bT (Z Cv 1)=some [(2,3)]:=kr
theorem agt:Cv=(S1 (G1 Cv 0) (S1 (G2 Cv 1) .ret)):=kr
theorem Y4:bT (Z xt 2)=some []:=kr
theorem aeo:xt=(S1 (G1 xt 0) (S1 (S1 (G1 xt 1) (C1 6 (G2 xt 2) K1)) (S1 (G1 xt 3) .ret))):=kr
theorem Y5:bT (Z rW 4)=some []:=kr
theorem aeq:rW=(S1 (G1 rW 0) (S1 (S1 (G1 rW 1) (B1 0 (.loop (S1 (G1 rW 2) (S1 (C1 7 K1 (X1 0)) (S1 (B1 1 (S1 (G1 rW 3) (G2 rW 4))) (G1 rW 5))))))) (S1 (G1 rW 6) .ret))):=kr
theorem agH:eV=(S1 (G1 eV 0) (S1 (S1 (G1 eV 1) (B1 0 (S1 (S1 (G1 eV 2) (C1 5 K1 (S1 (G1 eV 3) (C1 5 K1 (S1 (G1 eV 4) (C1 5 K1 (S1 (G1 eV 5) (C1 5 K1 (S1 (G1 eV 6) (C1 5 K1 (S1 (G1 eV 7) (C1 5 K1 (S1 (G1 eV 8) (C1 5 K1 (S1 (G1 eV 9) (C1 5 K1 (G1 eV 10))))))))))))))))) (C1 5 (S1 (G1 eV 11) .ret) (S1 (S1 (G1 eV 12) (C1 18 K1 (S1 (G1 eV 13) (C1 18 K1 (S1 (G1 eV 14) (C1 18 K1 (S1 (G1 eV 15) (C1 18 K1 (S1 (G1 eV 16) (C1 18 K1 (S1 (G1 eV 17) (C1 18 K1 (S1 (G1 eV 18) (C1 18 K1 (S1 (G1 eV 19) (C1 18 K1 (S1 (G1 eV 20) (C1 18 K1 (S1 (G1 eV 21) (C1 18 K1 (S1 (G1 eV 22) (C1 18 K1 (S1 (G1 eV 23) (C1 18 K1 (G1 eV 24))))))))))))))))))))))))) (C1 18 (S1 (G1 eV 25) .ret) (S1 (G1 eV 26) (C1 37 (S1 (G1 eV 27) .ret) (S1 (G1 eV 28) (C1 42 (S1 (G1 eV 29) .ret) K1)))))))))) (S1 (G1 eV 30) .ret))):=kr
theorem agB:FU=(S1 (G1 FU 0) (S1 (G1 FU 1) .ret)):=kr
theorem Y7:bT (Z vj 2)=some [(0,3)]:=kr
theorem Y6:bT (Z vj 3)=some [(0,2)]:=kr
theorem aes:vj=(S1 (G1 vj 0) (S1 (S1 (G1 vj 1) (C1 7 (S1 (G2 vj 2) .ret) K1)) (S1 (G2 vj 3) .ret))):=kr
theorem agJ:lK=(S1 (G1 lK 0) (S1 (S1 (G1 lK 1) (B1 0 (S1 (S1 (G1 lK 2) (C1 5 K1 (S1 (G1 lK 3) (C1 5 K1 (G1 lK 4))))) (C1 5 (S1 (G1 lK 5) .ret) (S1 (G1 lK 6) (C1 12 (S1 (G1 lK 7) (C1 16 (S1 (G1 lK 8) .ret) K1)) (S1 (G1 lK 9) (C1 20 (S1 (G1 lK 10) .ret) (S1 (S1 (G1 lK 11) (C1 25 K1 (G1 lK 12))) (C1 25 (S1 (G1 lK 13) .ret) K1)))))))))) (S1 (G1 lK 14) .ret))):=kr
theorem ae4:tG=(S1 (G1 tG 0) (S1 (G1 tG 1) (S1 (S1 (G1 tG 2) (B1 0 (.rangeFunc (.tmp 8) #[9] (G1 tG 3) (B1 1 (S1 (G1 tG 4) (C1 12 (G1 tG 5) K1)))))) (S1 (G1 tG 6) .ret)))):=kr
theorem agF:pB=(S1 (G1 pB 0) (S1 (S1 (G1 pB 1) (B1 0 (S1 (G1 pB 2) (C1 5 (S1 (G1 pB 3) .ret) (S1 (S1 (G1 pB 4) (C1 10 K1 (G1 pB 5))) (C1 10 (S1 (G1 pB 6) .ret) (S1 (G1 pB 7) (C1 15 (S1 (G1 pB 8) .ret) K1)))))))) (S1 (G1 pB 9) .ret))):=kr
theorem aex:rX=(S1 (G1 rX 0) (S1 (G1 rX 1) (S1 (S1 (G1 rX 2) (B1 0 (.loop (S1 (G1 rX 3) (S1 (C1 11 K1 (X1 0)) (S1 (B1 1 (S1 (G1 rX 4) (G1 rX 5))) (G1 rX 6))))))) (S1 (G1 rX 7) .ret)))):=kr
theorem aey:rY=(S1 (G1 rY 0) (S1 (G1 rY 1) (S1 (S1 (G1 rY 2) (B1 0 (.loop (S1 (G1 rY 3) (S1 (C1 11 K1 (X1 0)) (S1 (B1 1 (S1 (G1 rY 4) (G1 rY 5))) (G1 rY 6))))))) (S1 (G1 rY 7) .ret)))):=kr
theorem aeA:FV=(S1 (G1 FV 0) (S1 (G1 FV 1) .ret)):=kr
theorem aei:rZ=(S1 (G1 rZ 0) (S1 (S1 (G1 rZ 1) (B1 0 (.loop (S1 (G1 rZ 2) (S1 (C1 9 K1 (X1 0)) (S1 (B1 1 (S1 (G1 rZ 3) (S1 (G1 rZ 4) (C1 16 (S1 (G1 rZ 5) .ret) K1)))) (G1 rZ 6))))))) (S1 (G1 rZ 7) .ret))):=kr
theorem aec:r3=(S1 (G1 r3 0) (S1 (S1 (G1 r3 1) (B1 0 (.loop (S1 (G1 r3 2) (S1 (C1 9 K1 (X1 0)) (S1 (B1 1 (S1 (G1 r3 3) (S1 (G1 r3 4) (C1 16 (S1 (G1 r3 5) .ret) K1)))) (G1 r3 6))))))) (S1 (G1 r3 7) .ret))):=kr
theorem agc:n4=(S1 (G1 n4 0) (S1 (G1 n4 1) (S1 (S1 (G1 n4 2) (B1 0 (S1 (G1 n4 3) (C1 14 (S1 (G1 n4 4) .ret) (S1 (G1 n4 5) (C1 18 (S1 (G1 n4 6) .ret) (S1 (G1 n4 7) (C1 22 (S1 (G1 n4 8) .ret) (S1 (G1 n4 9) (C1 26 (S1 (G1 n4 10) .ret) K1)))))))))) (S1 (G1 n4 11) .ret)))):=kr
theorem aek:FW=(S1 (G1 FW 0) (S1 (G1 FW 1) .ret)):=kr
theorem agm:FX=(S1 (G1 FX 0) (S1 (G1 FX 1) .ret)):=kr
theorem af8:FY=(S1 (G1 FY 0) (S1 (G1 FY 1) .ret)):=kr
theorem agi:FZ=(S1 (G1 FZ 0) (S1 (G1 FZ 1) .ret)):=kr
theorem ZE:bT (Z jv 6)=some []:=kr
theorem Ye:bT (Z jv 11)=some []:=kr
theorem afx:jv=(S1 (G1 jv 0) (S1 (S1 (G1 jv 1) (C1 8 (S1 (G1 jv 2) .ret) K1)) (S1 (S1 (G1 jv 3) (B1 0 (.loop (S1 (S1 (G1 jv 4) (C1 13 K1 (X1 0))) (S1 (B1 1 (S1 (G2 jv 6) (C1 25 (S1 (G1 jv 7) (S1 (S1 (G1 jv 8) (B1 2 (.loop (S1 (S1 (G1 jv 9) (C1 32 K1 (X1 2))) (S1 (B1 3 (S1 (G2 jv 11) (C1 44 (S1 (G1 jv 12) (G1 jv 13)) K1))) (G1 jv 10)))))) (S1 (G1 jv 14) (S1 (G1 jv 15) .ret)))) K1))) (G1 jv 5)))))) (S1 (G1 jv 16) .ret)))):=kr
theorem afz:Ac=(S1 (G1 Ac 0) (S1 (G1 Ac 1) (S1 (G1 Ac 2) (S1 (G1 Ac 3) .ret)))):=kr
theorem aeV:qM=(S1 (S1 (G1 qM 0) (C1 19 .ret K1)) (S1 (S1 (G1 qM 1) (C1 34 .ret K1)) (S1 (S1 (G1 qM 2) (B1 0 (.loop (S1 (G1 qM 3) (S1 (C1 39 K1 (X1 0)) (S1 (B1 1 (S1 (G1 qM 4) (S1 (G1 qM 5) (C1 46 .ret K1)))) (G1 qM 6))))))) (S1 (G1 qM 7) (C1 65 (G1 qM 8) K1))))):=kr
theorem agD:fR=(S1 (G1 fR 0) (S1 (S1 (G1 fR 1) (B1 0 (S1 (S1 (G1 fR 2) (C1 5 K1 (S1 (G1 fR 3) (C1 5 K1 (S1 (G1 fR 4) (C1 5 K1 (S1 (G1 fR 5) (C1 5 K1 (S1 (G1 fR 6) (C1 5 K1 (S1 (G1 fR 7) (C1 5 K1 (S1 (G1 fR 8) (C1 5 K1 (S1 (G1 fR 9) (C1 5 K1 (S1 (G1 fR 10) (C1 5 K1 (S1 (G1 fR 11) (C1 5 K1 (S1 (G1 fR 12) (C1 5 K1 (S1 (G1 fR 13) (C1 5 K1 (S1 (G1 fR 14) (C1 5 K1 (S1 (G1 fR 15) (C1 5 K1 (G1 fR 16))))))))))))))))))))))))))))) (C1 5 (S1 (G1 fR 17) .ret) (S1 (S1 (G1 fR 18) (C1 23 K1 (S1 (G1 fR 19) (C1 23 K1 (S1 (G1 fR 20) (C1 23 K1 (S1 (G1 fR 21) (C1 23 K1 (S1 (G1 fR 22) (C1 23 K1 (S1 (G1 fR 23) (C1 23 K1 (G1 fR 24))))))))))))) (C1 23 (S1 (G1 fR 25) .ret) K1)))))) (S1 (G1 fR 26) .ret))):=kr
theorem ae8:F0=(S1 (G1 F0 0) (S1 (G1 F0 1) .ret)):=kr
theorem afu:F1=(S1 (G1 F1 0) (G1 F1 1)):=kr
theorem ae6:xu=(S1 (G1 xu 0) (S1 (S1 (G1 xu 1) (B1 0 (.rangeFunc (.tmp 6) #[7] (G1 xu 2) (B1 1 (G1 xu 3))))) (S1 (G1 xu 4) .ret))):=kr
theorem afs:eW=(S1 (G1 eW 0) (S1 (G1 eW 1) (B1 0 (.loop (B1 1 (S1 (G1 eW 2) (S1 (S1 (G1 eW 3) (C1 23 (S1 (G1 eW 4) .ret) K1)) (S1 (S1 (G1 eW 5) (C1 29 (S1 (G1 eW 6) .ret) K1)) (S1 (S1 (G1 eW 7) (C1 35 (S1 (G1 eW 8) (G1 eW 9)) K1)) (S1 (G1 eW 10) (S1 (S1 (G1 eW 11) (C1 50 (S1 (G1 eW 12) (S1 (G1 eW 13) (G1 eW 14))) K1)) (S1 (S1 (G1 eW 15) (C1 68 (S1 (G1 eW 16) (C1 72 .ret K1)) K1)) (S1 (S1 (G2 eW 17) (C1 87 (S1 (G1 eW 18) (S1 (G1 eW 19) (X1 1))) K1)) (S1 (G1 eW 20) (S1 (G1 eW 21) (S1 (G1 eW 22) (S1 (G1 eW 23) (S1 (G1 eW 24) (C1 113 (S1 (G1 eW 25) (S1 (G1 eW 26) (G1 eW 27))) (S1 (G1 eW 28) (S1 (G1 eW 29) (G1 eW 30)))))))))))))))))))))):=kr
theorem Zy:bT (Z qN 4)=some []:=kr
theorem Zz:bT (Z qN 6)=some []:=kr
theorem afq:qN=(S1 (G1 qN 0) (B1 0 (.loop (S1 (S1 (G1 qN 1) (C1 12 K1 (X1 0))) (S1 (B1 1 (S1 (G1 qN 3) (B1 2 (.loop (S1 (S1 (G2 qN 4) (C1 30 K1 (X1 2))) (S1 (B1 3 (G2 qN 6)) (G1 qN 5))))))) (G1 qN 2)))))):=kr
theorem afo:F3=(S1 (G1 F3 0) (S1 (G1 F3 1) .ret)):=kr
theorem afm:F4=(S1 (G1 F4 0) (S1 (G1 F4 1) .ret)):=kr
end Go.Proofs.Tryz.K
namespace Go.Abs
open Go.Argus
class V{α:Type}(x:α)(y:outParam α):Prop where h:x=y
section
variable{P:Program}{Y:eg}{ops:Array Oper}{dr:Bool}{cf:List (Nat×Nat)}{Q:Exit->St->Prop}{r:List Oper}{v:Env}{m:Mem}{n:Nat}{q:jJ}{x:Oper}{s:St}{e:List Nat×List Nat}
variable{t:Option Nat}{u:Nat}{ty:TypeId}{pos:String}{after:Array Edge}{j:Nat}{b c:Bool}{op:Op}
def SO(P:Program)(Y:eg)(ops:Array Oper)(dr:Bool)(o:Oper)(v:Env)(m:Mem)(n:Nat)(s:St)(e:List Nat×List Nat):Prop:=
 ∀ cf Q r q,aq P Y ops dr cf Q r s (q++[e])->aq P Y ops dr cf Q (o::r) ⟨v,m,n⟩ q
theorem ak{l:List Operand}(h:fM v l:=by repeat' (first|exact trivial|exact hc|exact rfl|refine And.intro ?_ ?_)):fM v l:=h
theorem z(K:∀ (x:D) rd,aq P Y ops dr cf Q r (St.put ⟨v,m,n⟩ t (.cq false x)) (q++[(rd,[])]))(hj:(ops[j]?).bind (·.dst)=some u:=by exact rfl)(hg:jQ (v u) b=some false:=by exact rfl):
 aq P Y ops dr cf Q (⟨t,op,ty,pos,after,some (j,b)⟩::r) ⟨v,m,n⟩ q:=SZ hj hg K
theorem cl{f:FuncId}{gs:List D}{d:D}{t:Nat}(h:aB P f gs d)(K:aq P Y ops dr cf Q r ⟨up v t d,m,n⟩ (q++[([],[])]))(hc:dF (a6 v op) op=some (f,gs):=by exact rfl)(ha:fM v op.operands.toList:=by exact ak):
 aq P Y ops dr cf Q (⟨some t,op,ty,pos,after,none⟩::r) ⟨v,m,n⟩ q:=o8 h hc ha K
theorem gc{f:FuncId}{gs:List D}{d:D}{t:Nat}(h:aB P f gs d)(K:aq P Y ops dr cf Q r ⟨up v t (.cq c d),m,n⟩ (q++[([],[])]))(hj:(ops[j]?).bind (·.dst)=some u:=by exact rfl)(hg:jQ (v u) b=some c:=by exact rfl)(hl:dF (a6 v op) op=some (f,gs):=by exact rfl)(ha:c=true->fM v op.operands.toList:=by exact fun hc=>ak):
 aq P Y ops dr cf Q (⟨some t,op,ty,pos,after,some (j,b)⟩::r) ⟨v,m,n⟩ q:=tL hj hg hl (fun hc=>⟨ha hc,h⟩) K
variable{rf:Bool}{W:Exit->St->Prop}{o:Array Oper}{B:Code}{i:Nat}{k:St}
theorem ws[dy Y](h:aq P Y o false [] (eT fun k=>AW P Y rf B W k) o.toList k []):AW P Y rf (.seq (.region i o false) B) W k:=aj h
theorem er[dy Y](h:aq P Y o false [] (eT fun k=>AW P Y rf B W k) o.toList k []):aq P Y ops dr [] (eT fun k=>AW P Y rf (.seq (.region i o false) B) W k) [] k q:=aa (aj h)
end
end Go.Abs
theorem eH{p:Prop}(h:p:=by repeat' (first|exact trivial|exact rfl|refine And.intro ?_ ?_)):p:=h
namespace Go.Proofs.Tryz.K
open Go.Abs
theorem kR{α:Sort _}{a b:α}(h:a=b:=by kernel_rfl):a=b:=h
instance:V (prog.cellsOf 1) 1:=⟨c1⟩
instance:V (bm prog 1) false:=⟨a1⟩
instance:V (aG prog 1) true:=⟨t1⟩
instance:V (prog.bytesOf 1) 8:=⟨b1⟩
instance:V (prog.cellsOf 2) 1:=⟨kR⟩
instance:V (prog.bytesOf 2) 8:=⟨b2⟩
instance:V (bm prog 2) false:=⟨a2⟩
instance:V (aG prog 2) true:=⟨t2⟩
instance:V (a8 prog 2) [.s (.int .i64 0)]:=⟨z2⟩
instance:V (prog.cellsOf 3) 1:=⟨c3⟩
instance:V (prog.bytesOf 3) 8:=⟨b3⟩
instance:V (bm prog 3) false:=⟨a3⟩
instance:V (aG prog 3) true:=⟨t3⟩
instance:V (a8 prog 3) [.s (.int .i64 0)]:=⟨z3⟩
instance:V (prog.cellsOf 4) 1:=⟨c4⟩
instance:V (prog.bytesOf 4) 1:=⟨b4⟩
instance:V (bm prog 4) false:=⟨a4⟩
instance:V (aG prog 4) true:=⟨t4⟩
instance:V (a8 prog 4) [.s (.bool false)]:=⟨z4⟩
instance:V (prog.cellsOf 5) 1:=⟨c5⟩
instance:V (prog.bytesOf 5) 1:=⟨b5⟩
instance:V (bm prog 5) false:=⟨a5⟩
instance:V (aG prog 5) true:=⟨t5⟩
instance:V (a8 prog 5) [.s (.int .u8 0)]:=⟨z5⟩
instance:V (prog.bytesOf 6) 1:=⟨b6⟩
instance:V (prog.bytesOf 7) 24:=⟨b7⟩
instance:V (prog.bytesOf 8) 24:=⟨b8⟩
instance:V (prog.cellsOf 9) 1:=⟨c9⟩
instance:V (prog.bytesOf 9) 16:=⟨b9⟩
instance:V (bm prog 9) false:=⟨a9⟩
instance:V (aG prog 9) true:=⟨t9⟩
instance:V (a8 prog 9) [.s (.string "".toUTF8)]:=⟨z9⟩
instance:V (fN prog 9) true:=⟨kR⟩
instance:V (prog.bytesOf 10) 16:=⟨ly⟩
instance:V (aD prog 15) 321:=⟨NL⟩
instance:V (aD prog 16) 324:=⟨NM⟩
instance:V (aD prog 17) 331:=⟨NG⟩
instance:V (prog.cellsOf 22) 1:=⟨kR⟩
instance:V (bm prog 22) false:=⟨kR⟩
instance:V (aG prog 22) true:=⟨kR⟩
instance:V (aD prog 22) 48:=⟨H7⟩
instance:V (bh prog 22) true:=⟨Ho⟩
instance:V (prog.cellsOf 23) 1:=⟨kR⟩
instance:V (bm prog 23) false:=⟨kR⟩
instance:V (aG prog 23) true:=⟨kR⟩
instance:V (aD prog 23) 43:=⟨Vn⟩
instance:V (bh prog 23) true:=⟨Uc⟩
instance:V (prog.cellsOf 27) 1:=⟨BB⟩
instance:V (bm prog 27) false:=⟨HZ⟩
instance:V (aG prog 27) true:=⟨t27⟩
instance:V (a8 prog 27) [.s (.int .i64 0)]:=⟨kR⟩
instance:V (bm prog 31) false:=⟨a31⟩
instance:V (aG prog 31) true:=⟨t31⟩
instance:V (a8 prog 31) [.s .nilFunc]:=⟨z31⟩
instance:V (prog.cellsOf 34) 1:=⟨kR⟩
instance:V (bm prog 34) false:=⟨kR⟩
instance:V (aG prog 34) true:=⟨kR⟩
instance:V (aD prog 34) 9:=⟨rE⟩
instance:V (bh prog 34) true:=⟨uh⟩
instance:V (bm prog 37) false:=⟨a37⟩
instance:V (aG prog 37) true:=⟨t37⟩
instance:V (a8 prog 37) [.s .nilFunc]:=⟨z37⟩
instance:V (prog.cellsOf 43) 1:=⟨sX⟩
instance:V (prog.bytesOf 43) 24:=⟨Ea⟩
instance:V (bm prog 43) false:=⟨HY⟩
instance:V (aG prog 43) true:=⟨t43⟩
instance:V (a8 prog 43) [.z]:=⟨kR⟩
instance:V (aD prog 43) 3:=⟨wH⟩
instance:V (bh prog 43) true:=⟨yu⟩
instance:V (prog.cellsOf 45) 1:=⟨kR⟩
instance:V (bm prog 45) false:=⟨kR⟩
instance:V (aG prog 45) true:=⟨kR⟩
instance:V (aD prog 45) 5:=⟨HO⟩
instance:V (bh prog 45) true:=⟨AU⟩
instance:V (prog.cellsOf 46) 1:=⟨kR⟩
instance:V (bm prog 46) false:=⟨a46⟩
instance:V (aG prog 46) true:=⟨t46⟩
instance:V (a8 prog 46) [.z]:=⟨z46⟩
instance:V (aD prog 46) 59:=⟨M6⟩
instance:V (bh prog 46) true:=⟨LN⟩
instance:V (prog.cellsOf 48) 8:=⟨oE⟩
instance:V (prog.bytesOf 48) 136:=⟨Nk⟩
instance:V (bm prog 48) true:=⟨zc⟩
instance:V (aG prog 48) true:=⟨t48⟩
instance:V (a8 prog 48) [.s (.string "".toUTF8),.s (.bool false),.s (.int .i64 0),.s (.int .u8 0),.z,.z,.z,.z]:=⟨kR⟩
instance:V (bV prog 48 0) (some (0,9)):=⟨kR⟩
instance:V (bV prog 48 1) (some (1,4)):=⟨kR⟩
instance:V (bV prog 48 2) (some (2,3)):=⟨kR⟩
instance:V (bV prog 48 3) (some (3,5)):=⟨kR⟩
instance:V (bV prog 48 4) (some (4,45)):=⟨kR⟩
instance:V (bV prog 48 5) (some (5,45)):=⟨kR⟩
instance:V (bV prog 48 6) (some (6,34)):=⟨kR⟩
instance:V (bV prog 48 7) (some (7,46)):=⟨kR⟩
instance:V (bm prog 51) false:=⟨a51⟩
instance:V (aG prog 51) true:=⟨t51⟩
instance:V (a8 prog 51) [.s .nilFunc]:=⟨z51⟩
instance:V (prog.cellsOf 52) 1:=⟨kR⟩
instance:V (bm prog 52) false:=⟨kR⟩
instance:V (aG prog 52) true:=⟨kR⟩
instance:V (aD prog 52) 54:=⟨Vj⟩
instance:V (bh prog 52) true:=⟨Ub⟩
instance:V (bm prog 53) true:=⟨a53⟩
instance:V (aG prog 53) true:=⟨t53⟩
instance:V (a8 prog 53) [.s (.int .u8 0),.s (.int .i64 0),.s (.int .i64 0),.s (.int .i64 0),.s (.int .i64 0),.z]:=⟨z53⟩
instance:V (prog.cellsOf 54) 6:=⟨M4⟩
instance:V (prog.bytesOf 54) 64:=⟨M3⟩
instance:V (bm prog 54) true:=⟨kR⟩
instance:V (aG prog 54) true:=⟨kR⟩
instance:V (a8 prog 54) [.s (.int .u8 0),.s (.int .i64 0),.s (.int .i64 0),.s (.int .i64 0),.s (.int .i64 0),.z]:=⟨kR⟩
instance:V (bV prog 54 0) (some (0,5)):=⟨kR⟩
instance:V (bV prog 54 1) (some (1,3)):=⟨kR⟩
instance:V (bV prog 54 2) (some (2,3)):=⟨kR⟩
instance:V (bV prog 54 3) (some (3,3)):=⟨kR⟩
instance:V (bV prog 54 4) (some (4,3)):=⟨kR⟩
instance:V (bV prog 54 5) (some (5,43)):=⟨kR⟩
instance:V (prog.cellsOf 55) 1:=⟨kR⟩
instance:V (bm prog 55) false:=⟨kR⟩
instance:V (aG prog 55) true:=⟨kR⟩
instance:V (aD prog 55) 79:=⟨MZ⟩
instance:V (bh prog 55) true:=⟨DB⟩
instance:V (prog.cellsOf 57) 15:=⟨kR⟩
instance:V (bm prog 57) true:=⟨kR⟩
instance:V (aG prog 57) true:=⟨kR⟩
instance:V (a8 prog 57) [.s (.int .u8 0),.s (.int .i64 0),.s (.int .i64 0),.s (.int .i64 0),.s (.int .i64 0),.s (.string "".toUTF8),.s (.int .u8 0),.s (.int .i64 0),.s (.int .i64 0),.s (.int .i64 0),.s (.int .i64 0),.z,.z,.z,.s (.int .i64 0)]:=⟨kR⟩
instance:V (bV prog 57 0) (some (0,5)):=⟨kR⟩
instance:V (bV prog 57 1) (some (1,3)):=⟨kR⟩
instance:V (bV prog 57 2) (some (2,3)):=⟨kR⟩
instance:V (bV prog 57 3) (some (3,3)):=⟨kR⟩
instance:V (bV prog 57 4) (some (4,3)):=⟨kR⟩
instance:V (bV prog 57 5) (some (5,9)):=⟨kR⟩
instance:V (bV prog 57 6) (some (6,54)):=⟨kR⟩
instance:V (bV prog 57 7) (some (12,43)):=⟨kR⟩
instance:V (bV prog 57 8) (some (13,55)):=⟨kR⟩
instance:V (bV prog 57 9) (some (14,3)):=⟨kR⟩
instance:V (prog.cellsOf 59) 16:=⟨HQ⟩
instance:V (prog.bytesOf 59) 200:=⟨M5⟩
instance:V (bm prog 59) true:=⟨kR⟩
instance:V (aG prog 59) true:=⟨kR⟩
instance:V (a8 prog 59) [.z,.s (.int .u8 0),.s (.int .i64 0),.s (.int .i64 0),.s (.int .i64 0),.s (.int .i64 0),.s (.string "".toUTF8),.s (.int .u8 0),.s (.int .i64 0),.s (.int .i64 0),.s (.int .i64 0),.s (.int .i64 0),.z,.z,.z,.s (.int .i64 0)]:=⟨z59⟩
instance:V (bV prog 59 0) (some (0,52)):=⟨kR⟩
instance:V (bV prog 59 1) (some (1,57)):=⟨kR⟩
instance:V (bm prog 70) true:=⟨a70⟩
instance:V (aG prog 70) true:=⟨t70⟩
instance:V (a8 prog 70) [.s (.int .u8 0),.s (.int .i64 0)]:=⟨z70⟩
instance:V (bm prog 72) true:=⟨a72⟩
instance:V (aG prog 72) true:=⟨t72⟩
instance:V (a8 prog 72) [.s (.int .u8 0),.s (.string "".toUTF8),.s (.int .u8 0),.s (.int .i64 0),.z,.s (.int .i64 0)]:=⟨z72⟩
instance:V (bm prog 75) false:=⟨a75⟩
instance:V (aG prog 75) true:=⟨t75⟩
instance:V (a8 prog 75) [.s .nilFunc]:=⟨z75⟩
instance:V (bm prog 76) false:=⟨a76⟩
instance:V (aG prog 76) true:=⟨t76⟩
instance:V (a8 prog 76) [.s .nilFunc]:=⟨z76⟩
instance:V (prog.cellsOf 79) 2:=⟨HP⟩
instance:V (prog.bytesOf 79) 24:=⟨Vi⟩
instance:V (bm prog 79) true:=⟨kR⟩
instance:V (aG prog 79) true:=⟨kR⟩
instance:V (a8 prog 79) [.s (.string "".toUTF8),.s (.int .i64 0)]:=⟨kR⟩
instance:V (bV prog 79 0) (some (0,9)):=⟨kR⟩
instance:V (bV prog 79 1) (some (1,3)):=⟨kR⟩
instance:V (prog.cellsOf 82) 3:=⟨mU⟩
instance:V (bm prog 82) true:=⟨sV⟩
instance:V (aG prog 82) true:=⟨t82⟩
instance:V (a8 prog 82) [.z,.z,.z]:=⟨kR⟩
instance:V (bV prog 82 0) (some (0,22)):=⟨kR⟩
instance:V (bV prog 82 1) (some (1,34)):=⟨kR⟩
instance:V (bV prog 82 2) (some (2,23)):=⟨kR⟩
instance:V (prog.cellsOf 86) 4:=⟨wM⟩
instance:V (bm prog 86) true:=⟨Bw⟩
instance:V (aG prog 86) true:=⟨t86⟩
instance:V (a8 prog 86) [.z,.z,.z,.z]:=⟨kR⟩
instance:V (bV prog 86 0) (some (0,82)):=⟨kR⟩
instance:V (bV prog 86 1) (some (3,43)):=⟨kR⟩
instance:V (prog.cellsOf 92) 1:=⟨kR⟩
instance:V (bm prog 92) false:=⟨kR⟩
instance:V (aG prog 92) true:=⟨kR⟩
instance:V (a8 prog 92) [.z]:=⟨kR⟩
instance:V (aD prog 92) 4:=⟨Ej⟩
instance:V (bh prog 92) true:=⟨DC⟩
instance:V (prog.cellsOf 93) 1:=⟨kR⟩
instance:V (bm prog 93) false:=⟨kR⟩
instance:V (aG prog 93) true:=⟨kR⟩
instance:V (a8 prog 93) [.s (.map none)]:=⟨kR⟩
instance:V (prog.cellsOf 105) 1:=⟨kR⟩
instance:V (bm prog 105) false:=⟨kR⟩
instance:V (aG prog 105) true:=⟨kR⟩
instance:V (a8 prog 105) [.s (.map none)]:=⟨kR⟩
instance:V (prog.cellsOf 111) 1:=⟨kR⟩
instance:V (bm prog 111) false:=⟨kR⟩
instance:V (aG prog 111) true:=⟨kR⟩
instance:V (prog.cellsOf 113) 10:=⟨UG⟩
instance:V (bm prog 113) true:=⟨UF⟩
instance:V (aG prog 113) true:=⟨t113⟩
instance:V (a8 prog 113) [.s (.string "".toUTF8),.s (.bool false),.s (.int .i64 0),.s (.int .u8 0),.z,.z,.z,.z,.s (.map none),.s (.map none)]:=⟨kR⟩
instance:V (bV prog 113 0) (some (0,48)):=⟨kR⟩
instance:V (bV prog 113 1) (some (8,111)):=⟨kR⟩
instance:V (bV prog 113 2) (some (9,111)):=⟨kR⟩
instance:V (prog.cellsOf 121) 2:=⟨LS⟩
instance:V (bm prog 121) true:=⟨kR⟩
instance:V (aG prog 121) true:=⟨t121⟩
instance:V (a8 prog 121) [.s (.int .i64 0),.s (.int .i64 0)]:=⟨Hk⟩
instance:V (bV prog 121 0) (some (0,3)):=⟨kR⟩
instance:V (bV prog 121 1) (some (1,3)):=⟨kR⟩
instance:V (bm prog 127) false:=⟨a127⟩
instance:V (aG prog 127) true:=⟨t127⟩
instance:V (a8 prog 127) [.s .nilFunc]:=⟨z127⟩
instance:V (bm prog 164) false:=⟨a164⟩
instance:V (aG prog 164) true:=⟨t164⟩
instance:V (a8 prog 164) [.s .nilFunc]:=⟨z164⟩
instance:V (bm prog 171) false:=⟨a171⟩
instance:V (aG prog 171) true:=⟨t171⟩
instance:V (a8 prog 171) [.s .nilFunc]:=⟨z171⟩
instance:V (bm prog 173) true:=⟨a173⟩
instance:V (aG prog 173) true:=⟨t173⟩
instance:V (a8 prog 173) [.s (.int .i64 0),.s (.int .i64 0),.z]:=⟨z173⟩
instance:V (prog.cellsOf 174) 3:=⟨um⟩
instance:V (prog.bytesOf 174) 40:=⟨Un⟩
instance:V (bm prog 174) true:=⟨Ui⟩
instance:V (aG prog 174) true:=⟨t174⟩
instance:V (a8 prog 174) [.s (.int .i64 0),.s (.int .i64 0),.z]:=⟨Hj⟩
instance:V (bV prog 174 0) (some (0,121)):=⟨kR⟩
instance:V (bV prog 174 1) (some (2,43)):=⟨kR⟩
instance:V (aD prog 175) 174:=⟨A3⟩
instance:V (bh prog 175) true:=⟨AH⟩
instance:V (prog.cellsOf 183) 2:=⟨kR⟩
instance:V (aG prog 183) true:=⟨kR⟩
instance:V (a8 prog 183) [.s (.pointer none),.z]:=⟨kR⟩
instance:V (bV prog 183 1) (some (1,45)):=⟨kR⟩
instance:V (aD prog 196) 201:=⟨kR⟩
instance:V (bh prog 196) true:=⟨kR⟩
instance:V (prog.cellsOf 199) 1:=⟨kR⟩
instance:V (bm prog 199) false:=⟨kR⟩
instance:V (aG prog 199) true:=⟨kR⟩
instance:V (prog.cellsOf 201) 20:=⟨q9⟩
instance:V (prog.bytesOf 201) 160:=⟨Uz⟩
instance:V (bm prog 201) true:=⟨a201⟩
instance:V (aG prog 201) true:=⟨t201⟩
instance:V (a8 prog 201) [.s (.int .u64 0),.s (.int .u64 0),.s (.int .u64 0),.s (.int .u64 0),.s (.int .u64 0),.s (.int .u64 0),.s (.int .u64 0),.s (.int .u64 0),.s (.int .u64 0),.s (.int .u64 0),.s (.int .u64 0),.s (.int .u64 0),.s (.int .u64 0),.s (.int .u64 0),.s (.int .u64 0),.s (.int .u64 0),.s (.int .u64 0),.s (.int .u64 0),.s (.int .u64 0),.s (.int .u64 0)]:=⟨z201⟩
instance:V (aD prog 201) 199:=⟨kR⟩
instance:V (nM prog 201) true:=⟨kR⟩
instance:V (oi prog 201) 20:=⟨kR⟩
instance:V (bm prog 212) true:=⟨a212⟩
instance:V (aG prog 212) true:=⟨t212⟩
instance:V (a8 prog 212) [.s (.pointer none),.z]:=⟨z212⟩
instance:V (prog.cellsOf 213) 2:=⟨kR⟩
instance:V (bm prog 213) true:=⟨a213⟩
instance:V (aG prog 213) true:=⟨t213⟩
instance:V (a8 prog 213) [.s (.pointer none),.z]:=⟨z213⟩
instance:V (bV prog 213 0) (some (0,183)):=⟨kR⟩
instance:V (bm prog 232) false:=⟨a232⟩
instance:V (aG prog 232) true:=⟨t232⟩
instance:V (a8 prog 232) [.s .nilFunc]:=⟨z232⟩
instance:V (bm prog 233) false:=⟨a233⟩
instance:V (aG prog 233) true:=⟨t233⟩
instance:V (a8 prog 233) [.s .nilFunc]:=⟨z233⟩
instance:V (prog.cellsOf 237) 6:=⟨kR⟩
instance:V (bm prog 237) true:=⟨L'⟩
instance:V (aG prog 237) true:=⟨kR⟩
instance:V (a8 prog 237) [.s (.int .i64 0),.s (.int .i64 0),.s (.int .i64 0),.s (.int .i64 0),.s (.int .i64 0),.s (.int .i64 0)]:=⟨Ma⟩
instance:V (bV prog 237 0) (some (0,3)):=⟨kR⟩
instance:V (bV prog 237 1) (some (1,3)):=⟨kR⟩
instance:V (bV prog 237 2) (some (2,3)):=⟨kR⟩
instance:V (bV prog 237 3) (some (3,3)):=⟨kR⟩
instance:V (bV prog 237 4) (some (4,3)):=⟨kR⟩
instance:V (bV prog 237 5) (some (5,3)):=⟨kR⟩
instance:V (prog.underlying 2) (some (.int .i64)):=⟨kR⟩
instance:V (prog.underlying 3) (some (.int .i64)):=⟨u3⟩
instance:V (prog.underlying 5) (some (.int .u8)):=⟨u5⟩
instance:V (prog.underlying 8) (some (.struct (dU prog 8))):=⟨u8⟩
instance:V (prog.underlying 21) (some (.int .i32)):=⟨kR⟩
instance:V (prog.underlying 45) (some (.slice 5)):=⟨kR⟩
instance:V (prog.underlying 48) (some (.struct (dU prog 48))):=⟨kR⟩
instance:V (((dU prog 48).toList.map fun f=>(f.offset,prog.cellsOf f.type))) [(0,1),(1,1),(2,1),(3,1),(4,1),(5,1),(6,1),(7,1)]:=⟨kR⟩
instance:V (((dU prog 48).toList.all fun f=>(prog.info? f.type).isSome)) true:=⟨kR⟩
instance:V (prog.underlying 54) (some (.struct (dU prog 54))):=⟨kR⟩
instance:V (((dU prog 54).toList.map fun f=>(f.offset,prog.cellsOf f.type))) [(0,1),(1,1),(2,1),(3,1),(4,1),(5,1)]:=⟨kR⟩
instance:V (((dU prog 54).toList.all fun f=>(prog.info? f.type).isSome)) true:=⟨kR⟩
instance:V (prog.underlying 69) (some (.int .u64)):=⟨kR⟩
instance:V (prog.underlying 70) (some (.struct (dU prog 70))):=⟨U6⟩
instance:V (prog.underlying 72) (some (.struct (dU prog 72))):=⟨U5⟩
instance:V (prog.underlying 82) (some (.struct (dU prog 82))):=⟨kR⟩
instance:V (((dU prog 82).toList.map fun f=>(f.offset,prog.cellsOf f.type))) [(0,1),(1,1),(2,1)]:=⟨kR⟩
instance:V (((dU prog 82).toList.all fun f=>(prog.info? f.type).isSome)) true:=⟨kR⟩
instance:V (prog.underlying 86) (some (.struct (dU prog 86))):=⟨kR⟩
instance:V (((dU prog 86).toList.map fun f=>(f.offset,prog.cellsOf f.type))) [(0,3),(3,1)]:=⟨kR⟩
instance:V (((dU prog 86).toList.all fun f=>(prog.info? f.type).isSome)) true:=⟨kR⟩
instance:V (eE prog 93) 3:=⟨A1⟩
instance:V (fK prog 93) true:=⟨A2⟩
instance:V (eE prog 105) 9:=⟨K4⟩
instance:V (fK prog 105) true:=⟨K5⟩
instance:V (eE prog 111) 5:=⟨kR⟩
instance:V (fK prog 111) true:=⟨kR⟩
instance:V (lb prog 111) 237:=⟨Lb⟩
instance:V (prog.underlying 113) (some (.struct (dU prog 113))):=⟨kR⟩
instance:V (((dU prog 113).toList.map fun f=>(f.offset,prog.cellsOf f.type))) [(0,8),(8,1),(9,1)]:=⟨kR⟩
instance:V (((dU prog 113).toList.all fun f=>(prog.info? f.type).isSome)) true:=⟨kR⟩
instance:V (prog.underlying 121) (some (.struct (dU prog 121))):=⟨Ul⟩
instance:V (((dU prog 121).toList.map fun f=>(f.offset,prog.cellsOf f.type))) [(0,1),(1,1)]:=⟨Tn⟩
instance:V (((dU prog 121).toList.all fun f=>(prog.info? f.type).isSome)) true:=⟨To⟩
instance:V (eE prog 144) 9:=⟨Dc⟩
instance:V (fK prog 144) true:=⟨Dd⟩
instance:V (eE prog 172) 121:=⟨KZ⟩
instance:V (fK prog 172) true:=⟨K0⟩
instance:V (prog.underlying 174) (some (.struct (dU prog 174))):=⟨Um⟩
instance:V (((dU prog 174).toList.map fun f=>(f.offset,prog.cellsOf f.type))) [(0,2),(2,1)]:=⟨Tq⟩
instance:V (((dU prog 174).toList.all fun f=>(prog.info? f.type).isSome)) true:=⟨Ts⟩
instance:V (eE prog 194) 3:=⟨K7⟩
instance:V (fK prog 194) true:=⟨K8⟩
instance:V (prog.underlying 213) (some (.struct (dU prog 213))):=⟨kR⟩
instance:V (((dU prog 213).toList.map fun f=>(f.offset,prog.cellsOf f.type))) [(0,2)]:=⟨kR⟩
instance:V (((dU prog 213).toList.all fun f=>(prog.info? f.type).isSome)) true:=⟨kR⟩
instance:V (prog.underlying 237) (some (.struct (dU prog 237))):=⟨kR⟩
instance:V (((dU prog 237).toList.map fun f=>(f.offset,prog.cellsOf f.type))) [(0,1),(1,1),(2,1),(3,1),(4,1),(5,1)]:=⟨kR⟩
instance:V (((dU prog 237).toList.all fun f=>(prog.info? f.type).isSome)) true:=⟨kR⟩
end Go.Proofs.Tryz.K
namespace Go.Abs
open Go.Argus
section
variable{P:Program}{Y:eg}{ops:Array Oper}{dr:Bool}{cf:List (Nat×Nat)}{Q:Exit->St->Prop}{r:List Oper}{v:Env}{m:Mem}{n:Nat}{q:jJ}{x:Oper}{s:St}{e:List Nat×List Nat}
theorem lv{p:Prop}(h:p:=by first|rfl|exact bF rfl|(simp;done)|(simp;omega)|omega):p:=h
theorem HH{p:Prop}(h:p:=by first|omega|exact bF rfl|(simp;done)|(simp;omega)):p:=h
theorem nS{p:Prop}(h:p:=by first|(simp;done)|exact⟨rfl,bF rfl⟩|(simp;omega)):p:=h
theorem ML{p:Prop}(h:p:=by first|rfl|exact nF _|(simp[nF];done)|exact aaF):p:=h
theorem D4{p:Prop}(h:p:=by first|(simp;done)|omega|exact bF rfl):p:=h
theorem HI{p:Prop}(h:p:=by unfold maxLen;first|omega|(simp;omega)):p:=h
theorem MM{p:Prop}(h:p:=by first|rfl|(simp;done)|(simp;omega)):p:=h
theorem MN{p:Prop}(h:p:=by first|(simp;done)|(simp;omega)):p:=h
theorem rA{p:Prop}(h:p:=by first|(simp;done)|fail):p:=h
theorem D5{p:Prop}(h:p:=by first|decide|simp):p:=h
def oT(x:Oper):Nat:=2*(match x.op with
 | .move ..=>1
 | .assign ..=>2
 | .pick ..=>3
 | .alloc ..=>4
 | .box ..=>5
 | .build ..=>6
 | .buildSlice ..=>7
 | .insert ..=>8
 | .load ..=>9
 | .store ..=>10
 | .nilCheck ..=>11
 | .unOp ..=>12
 | .convert ..=>13
 | .makeFunc ..=>14
 | .makeMap ..=>15
 | .makeSlice ..=>16
 | .slice ..=>17
 | .fieldAddr ..=>18
 | .field ..=>19
 | .indexAddr ..=>20
 | .index ..=>21
 | .lookup ..=>22
 | .mapUpdate ..=>23
 | .extract ..=>24
 | .call ..=>25
 | .binOp .add ..=>26
 | .binOp .sub ..=>27
 | .binOp .mul ..=>28
 | .binOp .quo ..=>29
 | .binOp .rem ..=>30
 | .binOp .and ..=>31
 | .binOp .or ..=>32
 | .binOp .xor ..=>33
 | .binOp .shl ..=>34
 | .binOp .shr ..=>35
 | .binOp .andNot ..=>36
 | .binOp .eql ..=>37
 | .binOp .neq ..=>38
 | .binOp .lss ..=>39
 | .binOp .leq ..=>40
 | .binOp .gtr ..=>41
 | .binOp .geq ..=>42
 |_=>0)+(match x.guard with
 |none=>0
 |_=>1)
theorem SS2(ht:oT x=2:=by exact rfl)(h:SO P Y ops dr x v m n s e:=by intro _ _ _ _ k;first|exact aw (dL (v:=.s (.int _ _)) rfl) ak trivial k|exact aw (dL (v:=.s (.bool _)) rfl) ak trivial k|exact aw (dL (v:=.sl _ _) rfl) ak trivial k|exact aw (dL (v:=.rs _ _ _) rfl) ak trivial k|exact aw (dL (v:=.fn _ _ _) rfl) ak trivial k|exact aw (dL (v:=.rp _ _) rfl) ak trivial k|exact aw (dL (v:=_) rfl) ak trivial k|exact aw (dL (v:=.s (.string _)) rfl) ak trivial k|exact aw (dL (v:=.mp _) rfl) ak trivial k|exact aw (dL (v:=.im _) rfl) ak trivial k|fail):SO P Y ops dr x v m n s e:=h
theorem SS4(ht:oT x=4:=by exact rfl)(h:SO P Y ops dr x v m n s e:=by intro _ _ _ _ k;first|exact aw (jO (v:=.s (.bool _)) rfl) ak trivial k|exact aw (jO (v:=.s (.int _ _)) rfl) ak trivial k|exact aw (jO (v:=.sl _ _) rfl) ak trivial k|exact aw (jO (v:=.rs _ _ _) rfl) ak trivial k|exact aw (jO (v:=.z) rfl) ak trivial k|exact aw (jO (v:=.s (.string _)) rfl) ak trivial k|exact aw (jO (v:=.mp _) rfl) ak trivial k|exact aw (jO (v:=_) rfl) ak trivial k|fail):SO P Y ops dr x v m n s e:=h
theorem ag'(ht:oT x=18:=by exact rfl)(h:SO P Y ops dr x v m n s e:=by intro _ _ _ _ k;first|exact aw (j4 (vs:=aY _ _ _) rfl V.h V.h rfl) ak (j7 V.h V.h rA) k|exact aw (j4 (vs:=aX _) rfl V.h V.h rfl) ak (j7 V.h V.h rA) k|exact aw (j4 (vs:=bS _) rfl V.h V.h rfl) ak (j7 V.h V.h rA) k|exact aw (j4 rfl V.h V.h rfl) ak (j7 V.h V.h rA) k|exact aw (j4 (vs:=ct _) rfl V.h V.h rfl) ak (j7 V.h V.h rA) k|exact aw (fg rfl rfl V.h V.h (nr lv)) ak (fh V.h V.h lv) k|exact aw (j4 (vs:=bD _) rfl V.h V.h rfl) ak (j7 V.h V.h rA) k|exact aw (fg (vs:=ct _) rfl (ah _ _ _) V.h V.h rfl) ak (fh V.h V.h D4) k|exact aw (j4 (vs:=gP _) rfl V.h V.h rfl) ak (j7 V.h V.h rA) k|exact aw (fg (vs:=bD _) rfl rfl V.h V.h rfl) ak (fh V.h V.h D4) k|exact aw (fg rfl (ag oG rfl) V.h V.h (nr lv)) ak (fh V.h V.h lv) k|exact aw (fg (vs:=aX _) rfl ao V.h V.h rfl) ak (fh V.h V.h D4) k|exact aw (fg rfl rfl V.h V.h rfl) ak (fh V.h V.h D4) k|exact aw (R3 rfl V.h) ak (R5 V.h V.h) k|exact aw (j5 rfl rfl kd V.h) ak (j6 V.h V.h kd) k|exact aw (j5 rfl ao kd V.h) ak (j6 V.h V.h kd) k|exact aw (j5 rfl (ah _ _ _) kd V.h) ak (j6 V.h V.h kd) k|exact aw (j5 rfl rfl rfl V.h) ak (j6 V.h V.h rfl) k|exact aw (j5 rfl ao rfl V.h) ak (j6 V.h V.h rfl) k|fail):SO P Y ops dr x v m n s e:=h
theorem aha(ht:oT x=36:=by exact rfl)(h:SO P Y ops dr x v m n s e:=by intro _ _ _ _ k;first|exact aw (Q4 rfl V.h) ak (pQ V.h) k|exact aw (rK rfl rfl V.h) ak (pQ V.h) k|exact aw (rK rfl ao V.h) ak (pQ V.h) k|exact aw (rK rfl (ah _ _ _) V.h) ak (pQ V.h) k|fail):SO P Y ops dr x v m n s e:=h
theorem ahb(ht:oT x=19:=by exact rfl)(h:SO P Y ops dr x v m n s e:=by intro _ _ _ _ k;first|exact bt rfl rfl (R3 rfl V.h) (fun hc=>⟨ak,(R5 V.h V.h)⟩) k|exact bt rfl rfl (j4 (vs:=aY _ _ _) rfl V.h V.h rfl) (fun hc=>⟨ak,(j7 V.h V.h rA)⟩) k|exact bt rfl rfl (j5 rfl rfl rfl V.h) (fun hc=>⟨ak,(j6 V.h V.h rfl)⟩) k|exact bt rfl rfl (j4 (vs:=bD _) rfl V.h V.h rfl) (fun hc=>⟨ak,(j7 V.h V.h rA)⟩) k|exact bt rfl rfl (j5 rfl (ah _ _ _) rfl V.h) (fun hc=>⟨ak,(j6 V.h V.h rfl)⟩) k|exact bt rfl rfl (fg rfl (ag oG rfl) V.h V.h (nr lv)) (fun hc=>⟨ak,(fh V.h V.h lv)⟩) k|exact bt rfl rfl (j4 (vs:=aX _) rfl V.h V.h rfl) (fun hc=>⟨ak,(j7 V.h V.h rA)⟩) k|exact bt rfl rfl (j4 rfl V.h V.h rfl) (fun hc=>⟨ak,(j7 V.h V.h rA)⟩) k|exact bt rfl rfl (fg rfl rfl V.h V.h rfl) (fun hc=>⟨ak,(fh V.h V.h D4)⟩) k|fail):SO P Y ops dr x v m n s e:=h
theorem SS6(ht:oT x=6:=by exact rfl)(h:SO P Y ops dr x v m n s e:=by intro _ _ _ _ k;first|exact Qj rfl rfl (by first|exact trivial|exact rfl) k|exact Qk rfl rfl (by first|exact trivial|exact rfl) k|exact Rr rfl rfl rfl (fun h=>by first|exact trivial|exact rfl|exact h|(show Eq _ _;rw[h];rfl)|(show Eq _ _;simp[h];done)|(show Eq _ _;simp_all;done)|fail) (fun h=>by first|exact trivial|exact rfl|exact h|(show Eq _ _;rw[h];rfl)|(show Eq _ _;simp[h];done)|(show Eq _ _;simp_all;done)|fail) k|fail):SO P Y ops dr x v m n s e:=h
theorem ahc(ht:oT x=37:=by exact rfl)(h:SO P Y ops dr x v m n s e:=by intro _ _ _ _ k;first|exact bt rfl rfl (Q4 rfl V.h) (fun hc=>⟨ak,(pQ V.h)⟩) k|exact bt rfl rfl (rK rfl rfl V.h) (fun hc=>⟨ak,(pQ V.h)⟩) k|exact bt rfl rfl (rK rfl (ah _ _ _) V.h) (fun hc=>⟨ak,(pQ V.h)⟩) k|fail):SO P Y ops dr x v m n s e:=h
theorem ahd(ht:oT x=20:=by exact rfl)(h:SO P Y ops dr x v m n s e:=by intro _ _ _ _ k;first|exact bN (fq (cs':=bS _) rfl rfl (ah _ _ _) rfl) ak (bX V.h V.h nS (by rfl)) k|exact bN (eK (d:=.s (.string _)) (cs':=_) rfl rfl rfl rfl rfl) ak (bX V.h V.h nS rfl) k|exact bN (fq rfl rfl rfl (JQ lv lv)) ak (B8 lv lv ML) k|exact bN (fq (cs':=ct _) rfl rfl (ah _ _ _) rfl) ak (bX V.h V.h nS (by rfl)) k|exact bN (fq rfl rfl (ah _ _ _) (JQ lv lv)) ak (B8 lv lv ML) k|exact bN (fq (cs':=gP _) rfl rfl (ah _ _ _) rfl) ak (bX V.h V.h nS (by rfl)) k|exact bN (eK (d:=.s (.int _ _)) (cs':=[_]) rfl rfl rfl rfl rfl) ak (bX V.h V.h nS rfl) k|exact bN (eK (d:=.s (.int _ _)) (cs':=_) rfl rfl rfl rfl rfl) ak (bX V.h V.h nS rfl) k|exact bN (eK (d:=.s (.int _ _)) (cs':=_) rfl rfl (ah _ _ _) rfl rfl) ak (bX V.h V.h nS rfl) k|exact bN (fq rfl rfl (ag oG rfl) (JQ lv lv)) ak (B8 lv lv ML) k|exact bN (fq rfl rfl rfl (S4 (by decide) (by assumption) (by assumption) (by first|assumption|(simp;omega)|(simp;done)|fail))) ak (B8 (by first|(simp;omega)|(simp;done)|fail) (xW (by assumption) (by assumption)) (nF _)) k|exact bN (fq (cs':=aX _) rfl rfl rfl rfl) ak (bX V.h V.h nS (by rfl)) k|exact bN (fq (cs':=aX _) rfl rfl (ah _ _ _) rfl) ak (bX V.h V.h nS (by rfl)) k|exact bN (fq rfl rfl rfl rfl) ak (bX V.h V.h nS (by rfl)) k|exact bN (fq rfl rfl (ah _ _ _) rfl) ak (bX V.h V.h nS (by rfl)) k|exact bN (eK (d:=.sl _ _) (cs':=_) rfl rfl rfl rfl rfl) ak (bX V.h V.h nS rfl) k|exact bN (eK (d:=.sl _ _) (cs':=_) rfl rfl ao rfl rfl) ak (bX V.h V.h nS rfl) k|exact bN (eK (d:=.rs _ _ _) (cs':=_) rfl rfl ao rfl rfl) ak (bX V.h V.h nS rfl) k|exact bN (eK (d:=.z) (cs':=_) rfl rfl rfl rfl rfl) ak (bX V.h V.h nS rfl) k|fail):SO P Y ops dr x v m n s e:=h
theorem ahe(ht:oT x=40:=by exact rfl)(h:SO P Y ops dr x v m n s e:=by intro _ _ _ _ k;first|exact aw (CC rfl rfl V.h V.h (by assumption)) ak (R4 V.h (by assumption)) k|exact aw (r7 rfl rfl V.h V.h (uV) (by assumption)) ak (r8 V.h (uV) (by assumption)) k|exact aw (r7 rfl rfl V.h V.h (uW) (by assumption)) ak (r8 V.h (uW) (by assumption)) k|exact aw (ab4 rfl rfl rfl V.h V.h V.h) ak ⟨V.h,by omega⟩ k|exact aw (r7 rfl rfl V.h V.h (Pj) (by assumption)) ak (r8 V.h (Pj) (by assumption)) k|exact aw (r7 rfl rfl V.h V.h (IT) (by assumption)) ak (r8 V.h (IT) (by assumption)) k|exact aw (mu rfl rfl ao V.h V.h) ak ⟨V.h,by omega⟩ k|exact aw (mu rfl rfl (ah _ _ _) V.h V.h) ak ⟨V.h,by omega⟩ k|exact aw (Cp rfl rfl rfl V.h V.h) ak ⟨V.h,by omega⟩ k|exact aw (ab5 rfl rfl (ah _ _ _) V.h V.h) ak ⟨V.h,by omega⟩ k|fail):SO P Y ops dr x v m n s e:=h
theorem ahf(ht:oT x=74:=by exact rfl)(h:SO P Y ops dr x v m n s e:=by intro _ _ _ _ k;first|exact aw (Ai rfl rfl nG) ak rfl k|exact aw (GG rfl rfl) ak rfl k|exact aw (Kb rfl rfl) ak trivial k|fail):SO P Y ops dr x v m n s e:=h
theorem ahg(ht:oT x=50:=by exact rfl)(h:SO P Y ops dr x v m n s e:=by intro _ _ _ _ k;first|exact aw (SL rfl) ak V.h k|exact aw (Kc rfl) ak V.h k|exact aw (Gc rfl ao) ak V.h k|exact ji (iX rfl (ag oG ao) rfl V.h V.h (kO (ah _ _ _) rfl) rfl) ak ⟨V.h,rfl,HH,(by decide),MM,HI,(by rw[b9];first|omega|(simp;omega)),MN⟩ k|exact ji (iX rfl (ag oG ao) rfl V.h V.h (kO (ah _ _ _) rfl) rfl) ak ⟨V.h,rfl,HH,(by decide),MM,HI,(by rw[b3];first|omega|(simp;omega)),MN⟩ k|exact ji (iX rfl (ag oG gR) rfl V.h V.h (kO (ah _ _ _) rfl) rfl) ak ⟨V.h,rfl,HH,(by decide),MM,HI,(by rw[b3];first|omega|(simp;omega)),MN⟩ k|exact eI (Ae rfl rfl V.h V.h (kO (ah _ _ _) rfl)) ak ⟨V.h,HH,(by decide),HI,(by rw[b3];first|omega|(simp;omega))⟩ k|fail):SO P Y ops dr x v m n s e:=h
theorem SS3(ht:oT x=3:=by exact rfl)(h:SO P Y ops dr x v m n s e:=by intro _ _ _ _ k;first|exact bt rfl rfl (dL (v:=.s (.int _ _)) rfl) (fun hc=>⟨ak,trivial⟩) k|exact bt rfl rfl (dL (v:=.s (.bool _)) rfl) (fun hc=>⟨ak,trivial⟩) k|exact bt rfl rfl (dL (v:=.sl _ _) rfl) (fun hc=>⟨ak,trivial⟩) k|exact bt rfl rfl (dL (v:=.fn _ _ _) rfl) (fun hc=>⟨ak,trivial⟩) k|exact bt rfl rfl (dL (v:=.rs _ _ _) rfl) (fun hc=>⟨ak,trivial⟩) k|fail):SO P Y ops dr x v m n s e:=h
theorem ahh(ht:oT x=52:=by exact rfl)(h:SO P Y ops dr x v m n s e:=by intro _ _ _ _ k;first|exact aw (GH rfl rfl oG) ak rfl k|fail):SO P Y ops dr x v m n s e:=h
theorem ahi(ht:oT x=48:=by exact rfl)(h:SO P Y ops dr x v m n s e:=by intro _ _ _ _ k;first|exact aw (pw (v:=.s (.int _ _)) rfl rfl) ak D5 k|exact aw (pw (v:=.s (.bool _)) rfl rfl) ak D5 k|exact aw (pw (v:=.sl _ _) rfl rfl) ak D5 k|exact aw (pw (v:=.agg (aX _)) rfl rfl) ak D5 k|exact aw (pw (v:=.agg _) rfl rfl) ak D5 k|fail):SO P Y ops dr x v m n s e:=h
theorem SS8(ht:oT x=8:=by exact rfl)(h:SO P Y ops dr x v m n s e:=by intro _ _ _ _ k;first|exact eI (Fo V.h) ak V.h k|fail):SO P Y ops dr x v m n s e:=h
theorem ahj(ht:oT x=78:=by exact rfl)(h:SO P Y ops dr x v m n s e:=by intro _ _ _ _ k;first|exact aw (GF rfl rfl) ak rfl k|fail):SO P Y ops dr x v m n s e:=h
theorem ahk(ht:oT x=14:=by exact rfl)(h:SO P Y ops dr x v m n s e:=by intro _ _ _ _ k;first|exact eI (tc (cs:=[_]) V.h V.h V.h rfl rfl) ak ⟨rfl,by decide,V.h,by decide⟩ k|exact eI (tc (cs:=[]) V.h V.h V.h rfl rfl) ak ⟨rfl,by decide,V.h,by decide⟩ k|exact eI (tc (cs:=[_,_]) V.h V.h V.h rfl rfl) ak ⟨rfl,by decide,V.h,by decide⟩ k|exact eI (tc V.h V.h V.h rfl rfl) ak ⟨rfl,by decide,V.h,by decide⟩ k|fail):SO P Y ops dr x v m n s e:=h
theorem ahl(ht:oT x=10:=by exact rfl)(h:SO P Y ops dr x v m n s e:=by intro _ _ _ _ k;first|exact eI (r6 (cs:=aY _ _ _) rfl) ak (by first|rfl|exact rL eJ bL|exact nF _|exact tU rB) k|exact eI (r6 (cs:=aX _) rfl) ak (by first|rfl|exact rL eJ bL|exact nF _|exact tU rB) k|exact eI (r6 rfl) ak (by first|rfl|exact rL eJ bL|exact nF _|exact tU rB) k|exact eI (r6 (cs:=bD _) rfl) ak (by first|rfl|exact rL eJ bL|exact nF _|exact tU rB) k|exact eI (r6 (cs:=ct _) rfl) ak (by first|rfl|exact rL eJ bL|exact nF _|exact tU rB) k|fail):SO P Y ops dr x v m n s e:=h
theorem ahm(ht:oT x=75:=by exact rfl)(h:SO P Y ops dr x v m n s e:=by intro _ _ _ _ k;first|exact bt rfl rfl (Ai rfl rfl CZ) (fun hc=>⟨ak,rfl⟩) k|exact bt rfl rfl (GG rfl rfl) (fun hc=>⟨ak,rfl⟩) k|fail):SO P Y ops dr x v m n s e:=h
theorem ahn(ht:oT x=76:=by exact rfl)(h:SO P Y ops dr x v m n s e:=by intro _ _ _ _ k;first|exact aw (ac0 rfl rfl) ak trivial k|exact aw (Sc rfl rfl ud) ak rfl k|exact aw (KH rfl rfl) ak rfl k|fail):SO P Y ops dr x v m n s e:=h
theorem aho(ht:oT x=12:=by exact rfl)(h:SO P Y ops dr x v m n s e:=by intro _ _ _ _ k;first|exact aw (EZ (cs:=aY _ _ _) V.h V.h V.h rfl rfl) ak ⟨V.h,V.h⟩ k|exact aw (EZ V.h V.h V.h rfl rfl) ak ⟨V.h,V.h⟩ k|fail):SO P Y ops dr x v m n s e:=h
theorem ahp(ht:oT x=24:=by exact rfl)(h:SO P Y ops dr x v m n s e:=by intro _ _ _ _ k;first|exact aw (SJ rfl) ak trivial k|fail):SO P Y ops dr x v m n s e:=h
theorem ahq(ht:oT x=25:=by exact rfl)(h:SO P Y ops dr x v m n s e:=by intro _ _ _ _ k;first|exact bt rfl rfl (SJ rfl) (fun hc=>⟨ak,trivial⟩) k|fail):SO P Y ops dr x v m n s e:=h
theorem ahr(ht:oT x=51:=by exact rfl)(h:SO P Y ops dr x v m n s e:=by intro _ _ _ _ k;first|exact bt rfl rfl (SL rfl) (fun hc=>⟨ak,V.h⟩) k|fail):SO P Y ops dr x v m n s e:=h
theorem ahs(ht:oT x=16:=by exact rfl)(h:SO P Y ops dr x v m n s e:=by intro _ _ _ _ k;first|exact bN (aaG rfl rfl rfl rfl V.h) ak ⟨V.h,by kernel_rfl,by kernel_rfl⟩ k|fail):SO P Y ops dr x v m n s e:=h
theorem aht(ht:oT x=83:=by exact rfl)(h:SO P Y ops dr x v m n s e:=by intro _ _ _ _ k;first|exact bt rfl rfl (Sd rfl rfl vW) (fun hc=>⟨ak,rfl⟩) k|exact bt rfl rfl (KG rfl rfl) (fun hc=>⟨ak,rfl⟩) k|fail):SO P Y ops dr x v m n s e:=h
theorem SS7(ht:oT x=7:=by exact rfl)(h:SO P Y ops dr x v m n s e:=by intro _ _ _ _ k;first|exact EP rfl rfl rfl rfl (by first|exact fun _=>trivial|exact fun _=>rfl|exact fun hc=>hc) (by first|exact fun _=>trivial|exact fun _=>rfl|exact fun hc=>hc) k|exact E4 rfl rfl rfl rfl rfl (by first|exact fun _=>trivial|exact fun _=>rfl|exact fun hc=>hc) (fun hc h=>by first|exact trivial|exact rfl|exact hc|(show Eq _ _;rw[hc,h];rfl)|(show Eq _ _;rw[h,hc];rfl)|(show Eq _ _;simp[hc,h];done)|(show Eq _ _;simp_all;done)|fail) (fun hc h=>by first|exact trivial|exact rfl|exact hc|(show Eq _ _;rw[hc,h];rfl)|(show Eq _ _;rw[h,hc];rfl)|(show Eq _ _;simp[hc,h];done)|(show Eq _ _;simp_all;done)|fail) k|fail):SO P Y ops dr x v m n s e:=h
theorem ahu(ht:oT x=77:=by exact rfl)(h:SO P Y ops dr x v m n s e:=by intro _ _ _ _ k;first|exact bt rfl rfl (Sc rfl rfl ud) (fun hc=>⟨ak,rfl⟩) k|exact bt rfl rfl (KH rfl rfl) (fun hc=>⟨ak,rfl⟩) k|fail):SO P Y ops dr x v m n s e:=h
theorem ahv(ht:oT x=82:=by exact rfl)(h:SO P Y ops dr x v m n s e:=by intro _ _ _ _ k;first|exact aw (Sd rfl rfl vW) ak rfl k|exact aw (KG rfl rfl) ak rfl k|fail):SO P Y ops dr x v m n s e:=h
theorem ahw(ht:oT x=41:=by exact rfl)(h:SO P Y ops dr x v m n s e:=by intro _ _ _ _ k;first|exact bt rfl rfl (CC rfl rfl V.h V.h (by assumption)) (fun hc=>⟨ak,(R4 V.h (by assumption))⟩) k|fail):SO P Y ops dr x v m n s e:=h
theorem ahx(ht:oT x=54:=by exact rfl)(h:SO P Y ops dr x v m n s e:=by intro _ _ _ _ k;first|exact aw (Se rfl rfl vX) ak rfl k|exact aw (KI rfl rfl oG) ak rfl k|fail):SO P Y ops dr x v m n s e:=h
theorem ahy(ht:oT x=28:=by exact rfl)(h:SO P Y ops dr x v m n s e:=by intro _ _ _ _ k;first|exact aw (Kd rfl rfl) ak trivial k|fail):SO P Y ops dr x v m n s e:=h
theorem ahz(ht:oT x=81:=by exact rfl)(h:SO P Y ops dr x v m n s e:=by intro _ _ _ _ k;first|exact bt rfl rfl (adi rfl rfl TZ) (fun hc=>⟨ak,rfl⟩) k|exact bt rfl rfl (KF rfl rfl) (fun hc=>⟨ak,rfl⟩) k|fail):SO P Y ops dr x v m n s e:=h
theorem ahA(ht:oT x=84:=by exact rfl)(h:SO P Y ops dr x v m n s e:=by intro _ _ _ _ k;first|exact aw (CX rfl rfl) ak rfl k|fail):SO P Y ops dr x v m n s e:=h
theorem ahB(ht:oT x=30:=by exact rfl)(h:SO P Y ops dr x v m n s e:=by intro _ _ _ _ k;first|exact eI adY ak trivial k|fail):SO P Y ops dr x v m n s e:=h
theorem ahC(ht:oT x=79:=by exact rfl)(h:SO P Y ops dr x v m n s e:=by intro _ _ _ _ k;first|exact bt rfl rfl (GF rfl rfl) (fun hc=>⟨ak,rfl⟩) k|fail):SO P Y ops dr x v m n s e:=h
theorem ahD(ht:oT x=85:=by exact rfl)(h:SO P Y ops dr x v m n s e:=by intro _ _ _ _ k;first|exact bt rfl rfl (CX rfl rfl) (fun hc=>⟨ak,rfl⟩) k|fail):SO P Y ops dr x v m n s e:=h
theorem ahE(ht:oT x=26:=by exact rfl)(h:SO P Y ops dr x v m n s e:=by intro _ _ _ _ k;first|exact aw (ac3 rfl V.h) ak V.h k|fail):SO P Y ops dr x v m n s e:=h
theorem ahF(ht:oT x=22:=by exact rfl)(h:SO P Y ops dr x v m n s e:=by intro _ _ _ _ k;first|exact aw (Ga rfl ao) ak trivial k|fail):SO P Y ops dr x v m n s e:=h
theorem ahG(ht:oT x=80:=by exact rfl)(h:SO P Y ops dr x v m n s e:=by intro _ _ _ _ k;first|exact aw (KF rfl rfl) ak rfl k|fail):SO P Y ops dr x v m n s e:=h
theorem ahH(ht:oT x=15:=by exact rfl)(h:SO P Y ops dr x v m n s e:=by intro _ _ _ _ k;first|exact Kl rfl rfl (tc (cs:=[_]) V.h V.h V.h rfl rfl) ak ⟨rfl,by decide,V.h,by decide⟩ k|fail):SO P Y ops dr x v m n s e:=h
theorem ahI(ht:oT x=55:=by exact rfl)(h:SO P Y ops dr x v m n s e:=by intro _ _ _ _ k;first|exact bt rfl rfl (Se rfl rfl vX) (fun hc=>⟨ak,rfl⟩) k|fail):SO P Y ops dr x v m n s e:=h
theorem SS(K:aq P Y ops dr cf Q r s (q++[e]))(h:SO P Y ops dr x v m n s e:=by first|exact SS2|exact SS4|exact ag'|exact aha|exact ahb|exact SS6|exact ahc|exact ahd|exact ahe|exact ahf|exact ahg|exact SS3|exact ahh|exact ahi|exact SS8|exact ahj|exact ahk|exact ahl|exact ahm|exact ahn|exact aho|exact ahp|exact ahq|exact ahr|exact ahs|exact aht|exact SS7|exact ahu|exact ahv|exact ahw|exact ahx|exact ahy|exact ahz|exact ahA|exact ahB|exact ahC|exact ahD|exact ahE|exact ahF|exact ahG|exact ahH|exact ahI):aq P Y ops dr cf Q (x::r) ⟨v,m,n⟩ q:=h _ _ _ _ K
variable{x2 x3 x4 x5 x6 x7 x8 x9:Oper}{e2 e3 e4 e5 e6 e7 e8 e9:List Nat×List Nat}
theorem ab(K:aq P Y ops dr cf Q r s (q++[e]++[e2]))(h:∀ cf Q r q,aq P Y ops dr cf Q r s (q++[e]++[e2])->aq P Y ops dr cf Q (x::x2::r) ⟨v,m,n⟩ q:=by intro _ _ _ _ k;(iterate 2 refine SS ?_);exact k):aq P Y ops dr cf Q (x::x2::r) ⟨v,m,n⟩ q:=h _ _ _ _ K
theorem ax(K:aq P Y ops dr cf Q r s (q++[e]++[e2]++[e3]))(h:∀ cf Q r q,aq P Y ops dr cf Q r s (q++[e]++[e2]++[e3])->aq P Y ops dr cf Q (x::x2::x3::r) ⟨v,m,n⟩ q:=by intro _ _ _ _ k;(iterate 3 refine SS ?_);exact k):aq P Y ops dr cf Q (x::x2::x3::r) ⟨v,m,n⟩ q:=h _ _ _ _ K
theorem ba(K:aq P Y ops dr cf Q r s (q++[e]++[e2]++[e3]++[e4]))(h:∀ cf Q r q,aq P Y ops dr cf Q r s (q++[e]++[e2]++[e3]++[e4])->aq P Y ops dr cf Q (x::x2::x3::x4::r) ⟨v,m,n⟩ q:=by intro _ _ _ _ k;(iterate 4 refine SS ?_);exact k):aq P Y ops dr cf Q (x::x2::x3::x4::r) ⟨v,m,n⟩ q:=h _ _ _ _ K
theorem bx(K:aq P Y ops dr cf Q r s (q++[e]++[e2]++[e3]++[e4]++[e5]))(h:∀ cf Q r q,aq P Y ops dr cf Q r s (q++[e]++[e2]++[e3]++[e4]++[e5])->aq P Y ops dr cf Q (x::x2::x3::x4::x5::r) ⟨v,m,n⟩ q:=by intro _ _ _ _ k;(iterate 5 refine SS ?_);exact k):aq P Y ops dr cf Q (x::x2::x3::x4::x5::r) ⟨v,m,n⟩ q:=h _ _ _ _ K
theorem cw(K:aq P Y ops dr cf Q r s (q++[e]++[e2]++[e3]++[e4]++[e5]++[e6]))(h:∀ cf Q r q,aq P Y ops dr cf Q r s (q++[e]++[e2]++[e3]++[e4]++[e5]++[e6])->aq P Y ops dr cf Q (x::x2::x3::x4::x5::x6::r) ⟨v,m,n⟩ q:=by intro _ _ _ _ k;(iterate 6 refine SS ?_);exact k):aq P Y ops dr cf Q (x::x2::x3::x4::x5::x6::r) ⟨v,m,n⟩ q:=h _ _ _ _ K
theorem iu(K:aq P Y ops dr cf Q r s (q++[e]++[e2]++[e3]++[e4]++[e5]++[e6]++[e7]))(h:∀ cf Q r q,aq P Y ops dr cf Q r s (q++[e]++[e2]++[e3]++[e4]++[e5]++[e6]++[e7])->aq P Y ops dr cf Q (x::x2::x3::x4::x5::x6::x7::r) ⟨v,m,n⟩ q:=by intro _ _ _ _ k;(iterate 7 refine SS ?_);exact k):aq P Y ops dr cf Q (x::x2::x3::x4::x5::x6::x7::r) ⟨v,m,n⟩ q:=h _ _ _ _ K
theorem dJ(K:aq P Y ops dr cf Q r s (q++[e]++[e2]++[e3]++[e4]++[e5]++[e6]++[e7]++[e8]))(h:∀ cf Q r q,aq P Y ops dr cf Q r s (q++[e]++[e2]++[e3]++[e4]++[e5]++[e6]++[e7]++[e8])->aq P Y ops dr cf Q (x::x2::x3::x4::x5::x6::x7::x8::r) ⟨v,m,n⟩ q:=by intro _ _ _ _ k;(iterate 8 refine SS ?_);exact k):aq P Y ops dr cf Q (x::x2::x3::x4::x5::x6::x7::x8::r) ⟨v,m,n⟩ q:=h _ _ _ _ K
theorem bw(K:aq P Y ops dr cf Q r s (q++[e]++[e2]++[e3]++[e4]++[e5]++[e6]++[e7]++[e8]++[e9]))(h:∀ cf Q r q,aq P Y ops dr cf Q r s (q++[e]++[e2]++[e3]++[e4]++[e5]++[e6]++[e7]++[e8]++[e9])->aq P Y ops dr cf Q (x::x2::x3::x4::x5::x6::x7::x8::x9::r) ⟨v,m,n⟩ q:=by intro _ _ _ _ k;(iterate 9 refine SS ?_);exact k):aq P Y ops dr cf Q (x::x2::x3::x4::x5::x6::x7::x8::x9::r) ⟨v,m,n⟩ q:=h _ _ _ _ K
end
end Go.Abs
namespace Go.Abs
open Go.ChangeShapes Go.WideShapes
inductive Am:List Sh->List D->Prop
 |nil:Am [] []
 |cons {s:Sh} {l:List Sh} {ds:List D} (x:s.val) (hx:s.ok x) (h:Am l ds):Am (s::l) (s.arg x::ds)
def wo(P:Program)(n:Nat):List TypeId->Option (List Sh)
 |[]=>some []
 |t::ts=>match s5 P n t,wo P n ts with
  |some s,some l=>some (s::l)
  |_,_=>none
theorem Z2{P:Program}{n:Nat}{t:TypeId}{ts:List TypeId}{l:List Sh}(h:wo P n (t::ts)=some l):∃ s C,s5 P n t=some s/\wo P n ts=some C/\l=s::C:=by
 simp only[wo] at h;split at h
 .rename_i s C h1 h2;simp only[aH] at h;exact⟨s,C,h1,h2,h.symm⟩
 .cases h
section
variable{P:Program}{H:Type}{ec:TypeId×Value->H}{w w':World}{base b0:Nat}{r:Reach}{F:Nat->Prop}
theorem SD(J:Dn F w){n:Nat}:∀ {ts:List TypeId} {C:List Sh} {vs:List Value} {ds:List (DataW H)} {ps:List MemPlace},wo P n ts=some C->C.all Sh.rI=true->
 (∀ (j:Nat) t v,ts[j]? =some t->vs[j]? =some v->Value.okWide P w r b0 t v)->DataW.TrodAll ec P w base (fun _=>true) true ts vs ds ps->
 ∃ aS,Am C aS/\aS.length=vs.length/\∀ (k:Nat) (d:D) (v:Value),aS[k]? =some d->vs[k]? =some v->R F gz w d v
 |[],C,[],[],_,hs,_,_,_=>by
  simp only[wo,aH] at hs;subst hs;exact⟨[],.nil,rfl,oS⟩
 |t::ts,C,v::vs,d::ds,ps,hs,rJ,bK,h=>by
  obtain⟨p,q,h1,h2,_⟩:=h;obtain⟨s,l',M,U,rfl⟩:=Z2 hs;simp only[List.all_cons,bc] at rJ;obtain⟨x,X,hx⟩:=agR J M rJ.1 (bK 0 t v rfl rfl) h1;obtain⟨aS,a1,a2,a3⟩:=SD J U rJ.2 (fun j t v hj hv=>bK (j+1) t v (by simpa using hj) (by simpa using hv)) h2;refine⟨s.arg x::aS,.cons x X a1,by simp[a2],fun k d v hd hv=>?_⟩;cases k with
  |zero=>
   simp only[List.getElem?_cons_zero,aH] at hd hv;subst hd hv;exact hx
  |succ k=>exact a3 k d v (by simpa using hd) (by simpa using hv)
 |[],_,_::_,_,_,_,_,_,h=>by simp[DataW.TrodAll] at h
 |[],_,[],_::_,_,_,_,_,h=>by simp[DataW.TrodAll] at h
 |_::_,_,[],_,_,_,_,_,h=>by simp[DataW.TrodAll] at h
 |_::_,_,_::_,[],_,_,_,_,h=>by simp[DataW.TrodAll] at h
theorem Kept.same(h:Kept w w'){p:MemPlace}(hp:p.block<w.heap.size):w.sameAt w' p:=by
 cases p with
 |cell b o=>exact Go.World.cell?_of_block (w:=w) (h.2.1 b hp)
 |map b=>exact h.2.1 b hp
theorem Kept.frame(h:Kept w w')(C:MemPlace->Prop):w.keptBut w' C:=by
 refine⟨h.2.2.1,h.2.2.2,fun i hi=>?_⟩;rw[h.2.1 i hi];split<;>simp_all
theorem NW(hl:laidOutB P=true)(h:Kept w w'):∀ {ts:List TypeId} {vs:List Value} {ds:List (DataW H)} {ps:List MemPlace},(ts.all fun t=>P.readableRec t&&decide (t<P.types.size))=true->
 DataW.TrodAll ec P w 0 (fun _=>true) true ts vs ds ps->DataW.TrodAll ec P w' 0 (fun b=>decide (b<w.heap.size)) true ts vs ds ps
 |[],[],[],_,_,h0=>h0
 |t::ts,v::vs,d::ds,ps,ht,h0=>by
  obtain⟨p,q,h1,h2,rfl⟩:=h0;simp only[List.all_cons,bc,decide_eq_true_eq] at ht;have af:∀ x∈p,x.block<w.heap.size:=by obtain⟨m,hm⟩:=h1;exact DataW.trod_lt m _ _ _ hm
  exact⟨p,q,WideElems.Trod_stays hl ht.1.1 ht.1.2 h1 (fun x hx=>h.same (af x hx)) (fun x hx=>by simpa using af x hx),NW hl h (by simpa using ht.2) h2,rfl⟩
 |[],_::_,_,_,_,h0=>by simp[DataW.TrodAll] at h0
 |[],[],_::_,_,_,h0=>by simp[DataW.TrodAll] at h0
 |_::_,[],_,_,_,h0=>by simp[DataW.TrodAll] at h0
 |_::_,_::_,[],_,_,h0=>by simp[DataW.TrodAll] at h0
theorem Oo:∀ {ts:List TypeId} {vs:List Value} {ds:List (DataW H)} {ps:List MemPlace},DataW.TrodAll ec P w 0 (fun _=>true) true ts vs ds ps->ds.length=ts.length
 |[],[],[],_,_=>rfl
 |t::ts,v::vs,d::ds,ps,h0=>by
  obtain⟨p,q,h1,h2,rfl⟩:=h0;simp[Oo h2]
 |[],_::_,_,_,h0=>by simp[DataW.TrodAll] at h0
 |[],[],_::_,_,h0=>by simp[DataW.TrodAll] at h0
 |_::_,[],_,_,h0=>by simp[DataW.TrodAll] at h0
 |_::_,_::_,[],_,h0=>by simp[DataW.TrodAll] at h0
theorem QO{J:String}{d:DataW Unit}:∀ {l:List (String×DataW Unit)} {ps:List MemPlace},DataW.LaidVars P w l ps->(J,d)∈l->
 ∃ g t cs eh p,P.globalNamed J=some g/\(P.globals[g]?).map (·.type)=some t/\w.var? P J=some cs/\DataW.trod (fun _=>()) P w 0 (fun _=>true) false eh t cs.toList=some (d,p)/\∀ x∈MemPlace.row ⟨g,0,none⟩ cs.size,x∈ps
 |[],_,_,h=>by simp at h
 |(n,e)::r,ps,hv,h=>by
  obtain⟨g,t,cs,eh,p,q,h1,h2,M,U,X,rfl⟩:=hv;rcases List.mem_cons.1 h with h|h
  .cases h;exact⟨g,t,cs,eh,p,h1,h2,M,U,fun x hx=>List.mem_append_left _ (List.mem_append_left _ hx)⟩
  .obtain⟨g',t',cs',C,p',k1,k2,k3,k4,k5⟩:=QO X h;exact⟨g',t',cs',C,p',k1,k2,k3,k4,fun x hx=>List.mem_append_right _ (k5 x hx)⟩
theorem PM{e:TypeId}{m:Nat}{spare:Nat->Bool}{held:Bool}(he:P.underlying e=some (.int .u64))(hc:P.cellsOf e=1):∀ {cs:List Value} {l:List Int} {xs:List (DataW H×List MemPlace)},cs.length=l.length->xs.map (·.1)=l.map (fun n=>DataW.lit (.int .u64 n))->
 (∀ i,i<l.length->DataW.trod ec P w base spare held m e ((cs.drop i).take 1)=xs[i]?)->cs=l.map (Value.int .u64 ·)
 |[],[],_,_,_,_=>rfl
 |c::cs,n::l,[],_,hx,_=>by simp at hx
 |c::cs,n::l,x::xs,hl,hx,h=>by
  have h0:=h 0 oS;simp only[List.drop_zero,List.take_succ_cons,List.take_zero,List.getElem?_cons_zero] at h0;obtain⟨b,hb,C,_⟩:=DataW.trod_int he h0;simp only[List.map_cons,List.cons.injEq] at hx;have e1:x.1=DataW.lit (.int .u64 b):=by rw[C]
  rw[hx.1] at e1;simp only[DataW.lit.injEq,Lit.int.injEq,true_and] at e1;subst e1;simp only[List.cons.injEq,and_true] at hb;subst hb;rw[List.map_cons,PM he hc (cs:=cs) (l:=l) (xs:=xs) (by simpa using hl) hx.2 fun i hi=>by simpa using h (i+1) (by simpa using hi)]
 |[],_::_,_,hl,_,_=>by simp at hl
 |_::_,[],_,hl,_,_=>by simp at hl
theorem Ys{laid:List (String×DataW Unit)}{M:String}{g t e:Nat}{l:List Int}(h:laidMet P laid w)(hm:(M,DataW.agg (l.map fun n=>DataW.lit (.int .u64 n)))∈laid)(hg:P.globalNamed M=some g)
 (ht:(P.globals[g]?).map (·.type)=some t) (hu:P.underlying t=some (.array l.length e)) (hs:P.cellsOf t=l.length) (he:P.underlying e=some (.int .u64)) (hc:P.cellsOf e=1) (aE:0<l.length):
 ∃ ty,w.heap[g]? =some (.cells (l.map (Value.int .u64 ·)).toArray ty (0,0)):=by
 obtain⟨ps,hv,_,hp⟩:=h;obtain⟨g',t',cs,eh,p,h1,h2,J,U,X⟩:=QO hv hm;obtain rfl:g=g':=Option.some.inj (hg.symm.trans h1);obtain rfl:t=t':=Option.some.inj (ht.symm.trans h2);obtain⟨xs,m,_,e2,e3,e4,e5⟩:=DataW.trod_array hu U
 have C:cs.toList=l.map (Value.int .u64 ·):=by
  refine PM (ec:=fun _=>()) (w:=w) (base:=0) (spare:=fun _=>true) (held:=false) (m:=m) (xs:=xs) he hc (by rw[e3,hs]) ?_ fun i hi=>?_
  .simp only[bP,DataW.agg.injEq] at e2;exact e2.1.symm
  .have:=e5 i hi
   rwa[hc,Nat.mul_one] at this
 have bA:0<cs.size:=by
  have:cs.toList.length=l.length:=by rw[C];simp
  simp at this;omega
 obtain⟨⟨c,ty,hh⟩,_⟩:=hp g 0 (X _ (by
  unfold MemPlace.row;refine List.mem_map.2 ⟨0,by simpa using bA,?_⟩
  simp[Addr.add]))
 refine⟨ty,?_⟩;simp only[World.var?,hg,Option.bind_some,hh,aH] at J;subst J;rw[hh, <- C]
end
theorem WR{C:Checked}{f:FuncId}{fn:Func}{s:ChangeSpec}{H:Type}{ec:TypeId×Value->H}{n:Nat}{uR:List Sh}{tb:TypeId}{F:Nat->Prop}
 (TM:s.vars=[]) (hs:∀ ds:List (DataW H),ds.length=fn.params.size->s.fn H ds={ results:=[.lit (.bool true)],args:=ds })
 (J:laidOutB C.prog=true) (M:(fn.params.toList.all fun t=>C.prog.readableRec t&&decide (t<C.prog.types.size))=true) (nz:fn.resultTypes= #[tb]) (hb:C.prog.underlying tb=some .bool)
 (nP:wo C.prog n fn.params.toList=some uR) (rJ:uR.all Sh.rI=true) (h:∀ aS,Am uR aS->aB C.prog f aS (.s (.bool true)))
 (W:World) (base:Nat) (args:Array Value) (ds gs:List (DataW H)) (before:List MemPlace) (My:FB F W) (hU:Dn F W)
 (DL:∀ (j:Nat) t v,fn.params[j]? =some t->args[j]? =some v->Value.okWide C.prog W .any base t v)
 (hW:DataW.Whole ec C.prog fn.params.toList s.vars false W args.toList ds gs before):
 Calls C.prog f args W fun e W'=>∃ v,e=.returned v/\s.post ec C.prog fn false true false false W args v W':=by
 have hW':=hW;obtain⟨p,q,U,X,rfl,hfz,dY⟩:=hW;rw[TM] at X
 have hg:gs=[]/\q=[]:=by
  cases gs with
  |nil=>exact⟨rfl,X⟩
  |cons g gs=>exact X.elim
 obtain⟨rfl,rfl⟩:=hg;obtain⟨aS,a1,a2,a3⟩:=SD hU nP rJ (fun j t v hj hv=>DL j t v (by simpa using hj) (by simpa using hv)) U;refine((h aS a1).2.2 F W args My ⟨by simpa using a2.symm,fun k d v hd hv=>a3 k d v hd (by simpa using hv)⟩).mono ?_;rintro e W' ⟨v,rfl,hv,hk⟩;obtain⟨rfl,_⟩:=hv.cV;have hlen:ds.length=fn.params.size:=by simpa using Oo U
 refine⟨_,rfl,ds,[],_,[],p,[],hW',?_,?_,?_,hk.frame _,fun h=>by cases h⟩
 .rw[List.append_nil,hs ds hlen,nz];exact⟨[],[],⟨1,by simp[DataW.trod,Value.cells,hb]⟩,rfl,rfl⟩
 .rw[List.append_nil,hs ds hlen];exact NW J hk M U
 .rw[List.append_nil,hs ds hlen,TM];rfl
end Go.Abs
section
open Go Go.Abs Go.Proofs Go.Argus
namespace Go.Proofs.Tryz.K
theorem LA{l:List Int}{g:FuncId}{fs cs:List D}{p:Int->Bool}(ht:Tr (.fn (.func g) fs cs))(hg:∀ x∈l,aB prog g (fs++[U8 x]++cs) (B (p x))):aB prog 226 [iy l,.fn (.func g) fs cs] (I (mI p l)):=by
 refine mq S5.he (.cons (oV _) (.cons ht .nil)) fun C=>?_;have hlen:=(C (iy l) oS).sl.1;unfold maxLen at hlen;refine bl S5 (.cons (oV _) (.cons ht .nil)) (Tr.s _) ?_;rw[aec];refine ws ?_;refine SS ?_;refine aa (aF (az ?_));refine ax ?_
 refine aa (cn (fun s=>aJ prog s ⟨ay [],fun _=>none,0⟩/\∀ (j:Nat) y,l[j]? =some y->p y=false) (cy (α:=Nat) (fun k=>⟨ay [(0,iy l),(1,.fn (.func g) fs cs),(7,I l.length),(8,I k)],fun _=>none,0⟩)
  (fun k=>k<=l.length/\∀ j y,j<k->l[j]? =some y->p y=false) (fun k=>l.length - k) 0 (au eH) ⟨oG,fun j y hj=>by omega⟩ ?_) ?_)
 .rintro k ⟨hk,hinv⟩;refine SS ?_;refine aa ⟨_,rfl,fun h=>?_,fun h=>?_⟩
  .have af:k<l.length:=by simpa using h
   have hx:l[k]? =some l[k]:=by simp[af]
   generalize l[k]=x at hx;have J:=hg x (bu hx);refine ws ?_;refine ab ?_;refine er ?_;refine bx ?_;refine cl J ?_;refine aa (aO rfl (fun hp=>?_) fun hp=>?_)
   .refine ws ?_;refine ab ?_;refine aa (bH (cm (bE (aI rfl ?_))));rw[td hx hp hinv];rfl
   .refine cT ?_;refine ab ?_;refine aa (bi (k+1) (au eH) ⟨oG,fun j y hj hy=>?_⟩ oG);by_cases e:j=k
    .subst e;rw[hx] at hy;cases hy;exact hp
    .exact hinv j y oG hy
  .have U:¬ k<l.length:=by simpa using h
   exact⟨.forget _ _ _ _ fun _=>.inr rfl,fun j y hy=>hinv j y (by have:=(bC.1 hy).1;omega) hy⟩
 .rintro s ⟨hg,M⟩;refine⟨_,hg,aj ?_⟩;refine SS ?_;refine aa (aI rfl ?_);rw[w8 M];rfl
theorem ue{l:List Int}{g:FuncId}{fs cs:List D}{p:Int->Bool}(ht:Tr (.fn (.func g) fs cs))(hg:∀ x∈l,aB prog g (fs++[U8 x]++cs) (B (p x))):aB prog 163 [iy l,.fn (.func g) fs cs] (B (l.any p)):=by
 have LA:=LA ht hg;refine bl aed (.cons (oV _) (.cons ht .nil)) (Tr.s _) ?_;rw[aee];refine ws ?_;refine SS ?_;refine er ?_;refine ab ?_;refine cl LA ?_;refine ab ?_;refine aa (aI rfl ?_);rw[<- zP];rfl
theorem LC{l:List ByteArray}{g:FuncId}{fs cs:List D}{p:ByteArray->Bool}(ht:Tr (.fn (.func g) fs cs))(hg:∀ x∈l,aB prog g (fs++[S x]++cs) (B (p x))):aB prog 166 [bU l,.fn (.func g) fs cs] (I (mI p l)):=by
 refine mq S6.he (.cons (iV _) (.cons ht .nil)) fun C=>?_;have hlen:=(C (bU l) oS).sl.1;unfold maxLen at hlen;refine bl S6 (.cons (iV _) (.cons ht .nil)) (Tr.s _) ?_;rw[aef];refine ws ?_;refine SS ?_;refine aa (aF (az ?_));refine ax ?_
 refine aa (cn (fun s=>aJ prog s ⟨ay [],fun _=>none,0⟩/\∀ (j:Nat) y,l[j]? =some y->p y=false) (cy (α:=Nat) (fun k=>⟨ay [(0,bU l),(1,.fn (.func g) fs cs),(7,I l.length),(8,I k)],fun _=>none,0⟩)
  (fun k=>k<=l.length/\∀ j y,j<k->l[j]? =some y->p y=false) (fun k=>l.length - k) 0 (au eH) ⟨oG,fun j y hj=>by omega⟩ ?_) ?_)
 .rintro k ⟨hk,hinv⟩;refine SS ?_;refine aa ⟨_,rfl,fun h=>?_,fun h=>?_⟩
  .have af:k<l.length:=by simpa using h
   have hx:l[k]? =some l[k]:=by simp[af]
   generalize l[k]=x at hx;have J:=hg x (bu hx);refine ws ?_;refine ab ?_;refine er ?_;refine bx ?_;refine cl J ?_;refine aa (aO rfl (fun hp=>?_) fun hp=>?_)
   .refine ws ?_;refine ab ?_;refine aa (bH (cm (bE (aI rfl ?_))));rw[td hx hp hinv];rfl
   .refine cT ?_;refine ab ?_;refine aa (bi (k+1) (au eH) ⟨oG,fun j y hj hy=>?_⟩ oG);by_cases e:j=k
    .subst e;rw[hx] at hy;cases hy;exact hp
    .exact hinv j y oG hy
  .have U:¬ k<l.length:=by simpa using h
   exact⟨.forget _ _ _ _ fun _=>.inr rfl,fun j y hy=>hinv j y (by have:=(bC.1 hy).1;omega) hy⟩
 .rintro s ⟨hg,M⟩;refine⟨_,hg,aj ?_⟩;refine SS ?_;refine aa (aI rfl ?_);rw[w8 M];rfl
theorem Hc{l:List ByteArray}{g:FuncId}{fs cs:List D}{p:ByteArray->Bool}(ht:Tr (.fn (.func g) fs cs))(hg:∀ x∈l,aB prog g (fs++[S x]++cs) (B (p x))):aB prog 126 [bU l,.fn (.func g) fs cs] (B (l.any p)):=by
 have LC:=LC ht hg;refine bl aeg (.cons (iV _) (.cons ht .nil)) (Tr.s _) ?_;rw[aeh];refine ws ?_;refine SS ?_;refine er ?_;refine ab ?_;refine cl LC ?_;refine ab ?_;refine aa (aI rfl ?_);rw[<- zP];rfl
theorem LD{l:List iE}{g:FuncId}{fs cs:List D}{p:iE->Bool}(ht:Tr (.fn (.func g) fs cs))(hg:∀ x∈l,aB prog g (fs++[.agg (gP x)]++cs) (B (p x))):aB prog 223 [lC l,.fn (.func g) fs cs] (I (mI p l)):=by
 refine mq S7.he (.cons (iU _) (.cons ht .nil)) fun C=>?_;have hlen:=(C (lC l) oS).sl.1;unfold maxLen at hlen;refine bl S7 (.cons (iU _) (.cons ht .nil)) (Tr.s _) ?_;rw[aei];refine ws ?_;refine SS ?_;refine aa (aF (az ?_));refine ax ?_
 refine aa (cn (fun s=>aJ prog s ⟨ay [],fun _=>none,0⟩/\∀ (j:Nat) y,l[j]? =some y->p y=false) (cy (α:=Nat) (fun k=>⟨ay [(0,lC l),(1,.fn (.func g) fs cs),(7,I l.length),(8,I k)],fun _=>none,0⟩)
  (fun k=>k<=l.length/\∀ j y,j<k->l[j]? =some y->p y=false) (fun k=>l.length - k) 0 (au eH) ⟨oG,fun j y hj=>by omega⟩ ?_) ?_)
 .rintro k ⟨hk,hinv⟩;refine SS ?_;refine aa ⟨_,rfl,fun h=>?_,fun h=>?_⟩
  .have af:k<l.length:=by simpa using h
   have hx:l[k]? =some l[k]:=by simp[af]
   generalize l[k]=x at hx;have J:=hg x (bu hx);refine ws ?_;refine ab ?_;refine er ?_;refine bx ?_;refine cl J ?_;refine aa (aO rfl (fun hp=>?_) fun hp=>?_)
   .refine ws ?_;refine ab ?_;refine aa (bH (cm (bE (aI rfl ?_))));rw[td hx hp hinv];rfl
   .refine cT ?_;refine ab ?_;refine aa (bi (k+1) (au eH) ⟨oG,fun j y hj hy=>?_⟩ oG);by_cases e:j=k
    .subst e;rw[hx] at hy;cases hy;exact hp
    .exact hinv j y oG hy
  .have U:¬ k<l.length:=by simpa using h
   exact⟨.forget _ _ _ _ fun _=>.inr rfl,fun j y hy=>hinv j y (by have:=(bC.1 hy).1;omega) hy⟩
 .rintro s ⟨hg,M⟩;refine⟨_,hg,aj ?_⟩;refine SS ?_;refine aa (aI rfl ?_);rw[w8 M];rfl
theorem Dx{l:List iE}{g:FuncId}{fs cs:List D}{p:iE->Bool}(ht:Tr (.fn (.func g) fs cs))(hg:∀ x∈l,aB prog g (fs++[.agg (gP x)]++cs) (B (p x))):aB prog 228 [lC l,.fn (.func g) fs cs] (B (l.any p)):=by
 have LD:=LD ht hg;refine bl aej (.cons (iU _) (.cons ht .nil)) (Tr.s _) ?_;rw[aek];refine ws ?_;refine SS ?_;refine er ?_;refine ab ?_;refine cl LD ?_;refine ab ?_;refine aa (aI rfl ?_);rw[<- zP];rfl
theorem za{l:List Int}{g:FuncId}{fs cs:List D}{p:Int->Bool}(ht:Tr (.fn (.func g) fs cs))(hg:∀ x∈l,aB prog g (fs++[I x]++cs) (B (p x))):aB prog 89 [aP l,.fn (.func g) fs cs] (I (mI p l)):=by
 refine mq T0.he (.cons (dn _) (.cons ht .nil)) fun C=>?_;have hlen:=(C (aP l) oS).sl.1;unfold maxLen at hlen;refine bl T0 (.cons (dn _) (.cons ht .nil)) (Tr.s _) ?_;rw[ahK];refine ws ?_;refine SS ?_;refine aa (aF (az ?_));refine ax ?_
 refine aa (cn (fun s=>aJ prog s ⟨ay [],fun _=>none,0⟩/\∀ (j:Nat) y,l[j]? =some y->p y=false) (cy (α:=Nat) (fun k=>⟨ay [(0,aP l),(1,.fn (.func g) fs cs),(7,I l.length),(8,I k)],fun _=>none,0⟩)
  (fun k=>k<=l.length/\∀ j y,j<k->l[j]? =some y->p y=false) (fun k=>l.length - k) 0 (au eH) ⟨oG,fun j y hj=>by omega⟩ ?_) ?_)
 .rintro k ⟨hk,hinv⟩;refine SS ?_;refine aa ⟨_,rfl,fun h=>?_,fun h=>?_⟩
  .have af:k<l.length:=by simpa using h
   have hx:l[k]? =some l[k]:=by simp[af]
   generalize l[k]=x at hx;have J:=hg x (bu hx);refine ws ?_;refine ab ?_;refine er ?_;refine bx ?_;refine cl J ?_;refine aa (aO rfl (fun hp=>?_) fun hp=>?_)
   .refine ws ?_;refine ab ?_;refine aa (bH (cm (bE (aI rfl ?_))));rw[td hx hp hinv];rfl
   .refine cT ?_;refine ab ?_;refine aa (bi (k+1) (au eH) ⟨oG,fun j y hj hy=>?_⟩ oG);by_cases e:j=k
    .subst e;rw[hx] at hy;cases hy;exact hp
    .exact hinv j y oG hy
  .have U:¬ k<l.length:=by simpa using h
   exact⟨.forget _ _ _ _ fun _=>.inr rfl,fun j y hy=>hinv j y (by have:=(bC.1 hy).1;omega) hy⟩
 .rintro s ⟨hg,M⟩;refine⟨_,hg,aj ?_⟩;refine SS ?_;refine aa (aI rfl ?_);rw[w8 M];rfl
theorem Bq{l:List Int}{g:FuncId}{fs cs:List D}{p:Int->Bool}(ht:Tr (.fn (.func g) fs cs))(hg:∀ x∈l,aB prog g (fs++[I x]++cs) (B (p x))):aB prog 76 [aP l,.fn (.func g) fs cs] (B (l.any p)):=by
 have za:=za ht hg;refine bl ahM (.cons (dn _) (.cons ht .nil)) (Tr.s _) ?_;rw[ahN];refine ws ?_;refine SS ?_;refine er ?_;refine ab ?_;refine cl za ?_;refine ab ?_;refine aa (aI rfl ?_);rw[<- zP];rfl
theorem mn{n a b:Int}:aB prog 73 [I n,I a,I b] (B (jo n a b)):=by
 refine bl ajH (by simp[Tr.s]) (Tr.s _) ?_;rw[ajI];refine ws ?_;refine SS ?_;refine er ?_;refine bw ?_;refine aa (aI (d:=.s (.bool _)) rfl ?_);simp[jo]
theorem ajJ{b:Int}:aB prog 164 [U8 b] (B (E' b)):=by
 refine bl afQ (by simp[Tr.s]) (Tr.s _) ?_;rw[afR];refine ws ?_;refine SS ?_;refine er ?_;refine iu ?_;refine aa (aI (d:=.s (.bool _)) rfl ?_);simp[E']
theorem ajK{b:Int}:aB prog 167 [U8 b] (B (Fa b)):=by
 refine bl afS (by simp[Tr.s]) (Tr.s _) ?_;rw[afT];refine ws ?_;refine SS ?_;refine er ?_;refine bw ?_;refine cw ?_;refine aa (aI (d:=.s (.bool _)) rfl ?_);simp[Fa]
theorem rj{s:ByteArray}:aB prog 124 [S s] (B (n6 s)):=by
 refine bl afU (by simp[Tr.s]) (Tr.s _) ?_;have ue:=ue (l:=qE s) (g:=164) (fs:=[]) (cs:=[]) (p:=E') (.fn oS oS) (fun x _=>ajJ);rw[afV];refine ws ?_;refine SS ?_;refine er ?_;refine ab ?_;refine cl mn ?_;refine SS ?_;refine bt rfl rfl (dL (v:=.s (.string _)) rfl) (fun hc=>⟨ak,trivial⟩) ?_;refine bt rfl rfl (PX rfl V.h V.h) (fun hc=>⟨ak,⟨V.h,by have:=kQ.1 (by simpa using hc);unfold maxLen;omega⟩⟩) ?_;refine gc ue ?_;refine ax ?_;refine aa (aI (d:=.s (.bool _)) rfl ?_);simp[n6]
theorem DH{s:ByteArray}:aB prog 128 [S s] (B (isName s)):=by
 refine bl afW (by simp[Tr.s]) (Tr.s _) ?_;have ue:=ue (l:=qE s) (g:=167) (fs:=[]) (cs:=[]) (p:=Fa) (.fn oS oS) (fun x _=>ajK);rw[afX];refine ws ?_;refine SS ?_;refine er ?_;refine ab ?_;refine cl mn ?_;refine SS ?_;refine bt rfl rfl (dL (v:=.s (.string _)) rfl) (fun hc=>⟨ak,trivial⟩) ?_;refine bt rfl rfl (PX rfl V.h V.h) (fun hc=>⟨ak,⟨V.h,by have:=kQ.1 (by simpa using hc);unfold maxLen;omega⟩⟩) ?_;refine gc ue ?_;refine ax ?_;refine aa (aI (d:=.s (.bool _)) rfl ?_);simp[isName]
theorem ajL{s:ByteArray}:aB prog 127 [S s] (B !(isName s)):=by
 refine bl afY (by simp[Tr.s]) (Tr.s _) ?_;rw[afZ];refine ws ?_;refine SS ?_;refine er ?_;refine SS ?_;refine cl DH ?_;refine ab ?_;refine aa (aI rfl rfl)
theorem ajM{b m:Int}:aB prog 165 [U8 b,.pt [U8 m]] (B (Cc m b)):=by
 refine bl af0 (.cons (.s _) (.cons (.pt (by simp[Tr.s])) .nil)) (Tr.s _) ?_;rw[af1];refine ws ?_;refine SS ?_;refine er ?_;refine dJ ?_;refine aa (aI (d:=.s (.bool _)) rfl ?_);simp[Cc]
theorem L5{l:List Int}{m:Int}:aB prog 125 [iy l,U8 m] (B (tC l m)):=by
 refine bl af2 (.cons (oV _) (.cons (.s _) .nil)) (Tr.s _) ?_;have ue:=ue (l:=l) (g:=165) (fs:=[]) (cs:=[.pt [U8 m]]) (p:=Cc m) (.fn oS (.cons (.pt (by simp[Tr.s])) .nil)) (fun x _=>ajM);rw[af3];refine az ?_;refine eI (F9 (d:=.s (.int _ _)) rfl rfl) ak rfl ?_;refine SS ?_;refine aa (bJ (dD [(0,[U8 m],5)] eH (l:=[(0,iy l),(3,.pt [U8 m])]) eH) (aj ?_));refine ab ?_;refine cl ue ?_;refine ab ?_;refine aa (aI rfl rfl)
theorem I6{p q:D}{f:ap}(h:Real (.agg (aY p q f))):f.aU.length<=maxLen/\f.cg.length<=maxLen/\f.signals.length<=maxLen/\f.blocks.length<=maxLen:=
 ⟨(h.agg (iy f.aU) (by simp[aY])).sl.1,(h.agg (iy f.cg) (by simp[aY])).sl.1,(h.agg (bU f.signals) (by simp[aY])).sl.1,(h.agg (cG f.blocks) (by simp[aY])).sl.1⟩
section
variable{p q:D}{f:ap}(hp:Tr p)(hq:Tr q)(eJ:p.one=true)(bL:q.one=true)
include hp hq eJ bL
theorem jE{n:Int}:aB prog 168 [.agg (aY p q f),I n] (B (jo n 0 (f.blocks.length - 1))):=by
 have C:∀ a∈[D.agg (aY p q f),I n],Tr a:=.cons (j9 hp hq f) (.cons (.s _) .nil);refine mq TC.he C fun J=>?_;obtain⟨M,U,X,l4⟩:=I6 (J _ (List.mem_cons_self ..));unfold maxLen at*
 refine bl TC C (Tr.s _) ?_;rw[af5];refine ws ?_;refine ab ?_;refine er ?_;refine cw ?_;refine cl mn ?_;refine SS ?_;refine aa (aI rfl rfl)
theorem eZ{r:Int}:aB prog 169 [.agg (aY p q f),I r] (U8 (dv f.aU r)):=by
 have C:∀ a∈[D.agg (aY p q f),I r],Tr a:=.cons (j9 hp hq f) (.cons (.s _) .nil);refine mq TD.he C fun J=>?_;obtain⟨M,U,X,l4⟩:=I6 (J _ (List.mem_cons_self ..));unfold maxLen at*
 refine bl TD C (Tr.s _) ?_;rw[af6];refine ws ?_;refine ab ?_;refine aa (aF (aj ?_));refine cw ?_;refine cl mn ?_;refine SS ?_;refine aa (cQ rfl (fun h=>?_) fun h=>?_)
 .refine aF (aj ?_);refine SS ?_;refine aa (eQ (aI rfl ?_));rw[Pz (fun hh=>by simp[jo] at h;omega)];rfl
 .have hh:0<=r/\r<f.aU.length:=by simp[jo] at h;omega
  obtain⟨i,rfl⟩:=jH hh.1;have af:i<f.aU.length:=by omega
  have hx:f.aU[i]? =some f.aU[i]:=by simp[af]
  generalize f.aU[i]=x at hx;refine cx (aj ?_);refine iu ?_;refine aa (aI rfl ?_);rw[Jt hx];rfl
theorem ajV{r:Int}:aB prog 230 [I r,.pt (aY p q f)] (B !(n7 f.aU r)):=by
 have C:∀ a∈[I r,D.pt (aY p q f)],Tr a:=.cons (.s _) (.cons (.pt (Cd hp hq f)) .nil);have eZ:=eZ (f:=f) (r:=r) hp hq eJ bL;refine bl af7 C (Tr.s _) ?_;rw[af8];refine ws ?_;refine SS ?_;refine er ?_;refine ab ?_;refine cl eZ ?_;refine ba ?_;refine gc eZ ?_;refine ax ?_;refine aa (aI (d:=.s (.bool _)) rfl ?_);unfold n7;generalize dv f.aU r=k;show D.s (.bool _)=D.s (.bool _);simp only[bne];cases (k==1)<;>cases (k==2)<;>rfl
theorem hC{l:List Int}:aB prog 172 [.agg (aY p q f),aP l] (B (qL f.aU l)):=by
 have C:∀ a∈[D.agg (aY p q f),aP l],Tr a:=.cons (j9 hp hq f) (.cons (dn _) .nil);have Bq:=Bq (l:=l) (g:=230) (fs:=[]) (cs:=[.pt (aY p q f)]) (p:=fun r=> !(n7 f.aU r)) (.fn oS (.cons (.pt (Cd hp hq f)) .nil)) (fun x _=>ajV hp hq eJ bL);refine bl af9 C (Tr.s _) ?_;rw[af'];refine az ?_;refine ab ?_;refine aa (bJ (dD [(0,aY p q f,113)] eH (l:=[(1,aP l),(2,.pt (aY p q f))]) eH) (aj ?_));refine ab ?_;refine cl Bq ?_;refine ab ?_;refine aa (aI (d:=.s (.bool _)) rfl ?_);simp[qL,List.all_eq_not_any_not]
theorem Ht{r n:Int}:aB prog 176 [.agg (aY p q f),I r,I n] (B (yg f.aU f.cg r n)):=by
 have J:∀ a∈[D.agg (aY p q f),I r,I n],Tr a:=.cons (j9 hp hq f) (.cons (.s _) (.cons (.s _) .nil));refine mq TE.he J fun M=>?_;obtain⟨U,X,l3,l4⟩:=I6 (M _ (List.mem_cons_self ..));unfold maxLen at*
 have eZ:=eZ (f:=f) (r:=r) hp hq eJ bL;refine bl TE J (Tr.s _) ?_;rw[aga];have mn:=mn (n:=n) (a:=0) (b:=f.cg.length - 1);by_cases hh:0<=n/\n<f.cg.length
 .obtain⟨i,rfl⟩:=jH hh.1;have af:i<f.cg.length:=by omega
  have hx:f.cg[i]? =some f.cg[i]:=by simp[af]
  generalize f.cg[i]=x at hx;have C:jo (i:Int) 0 (f.cg.length - 1)=true:=kQ.2 oG;rw[C] at mn;refine ws ?_;refine ab ?_;refine aa (eA PA ?_);refine cw ?_;refine cl mn ?_;refine SS ?_;refine bt rfl rfl (fg (vs:=aY _ _ _) rfl rfl V.h V.h rfl) (fun hc=>⟨ak,(fh V.h V.h (by first|(simp;done)|omega|exact bF rfl))⟩) ?_;refine SS ?_;refine gc eZ ?_;refine bw ?_;refine cz cJ ?_;refine aI (d:=.s (.bool _)) rfl ?_;simp[yg,C,Jt hx]
 .have C:jo n 0 (f.cg.length - 1)=false:=ZP.2 oG;rw[C] at mn;refine ws ?_;refine ab ?_;refine aa (eA PA ?_);refine cw ?_;refine cl mn ?_;refine SS ?_;(iterate 10 refine z fun _ _=>?_);refine ab ?_;refine cz cJ ?_;refine aI (d:=.s (.bool _)) rfl ?_;simp[yg,C]
end
section
variable{p q:D}{f:ap}(hp:Tr p)(hq:Tr q)(eJ:p.one=true)(bL:q.one=true)
include hp hq eJ bL
theorem DK{r want kd:Int}:aB prog 227 [.agg (aY p q f),I r,I want,U8 kd] (B (o2 f.aU r want kd)):=by
 have J:∀ a∈[D.agg (aY p q f),I r,I want,U8 kd],Tr a:=.cons (j9 hp hq f) (.cons (.s _) (.cons (.s _) (.cons (.s _) .nil)));have eZ:=eZ (f:=f) (r:=r) hp hq eJ bL;refine bl agb J (Tr.s _) ?_;rw[agc];refine ws ?_;refine ab ?_;refine er ?_;refine aw (fg (vs:=aY _ _ _) rfl rfl V.h V.h rfl) ak (fh V.h V.h (by first|(simp;done)|omega|exact bF rfl)) ?_;refine SS ?_;refine cl eZ ?_;refine SS ?_;refine aa (aF (aj ?_));refine SS ?_;refine aa (wZ (aj ?_));refine ab ?_;refine aa (aO rfl (fun h0=>?_) fun h0=>?_)
 .have h0:want=0:=by simpa using h0
  refine ws ?_;refine ax ?_;refine aa (bH (eB (bE (aI (d:=.s (.bool _)) rfl ?_))));simp[o2,h0]
 have h0:¬ want=0:=by simpa using h0
 refine ws ?_;refine ab ?_;refine aa (aO rfl (fun h1=>?_) fun h1=>?_)
 .have h1:want=1:=by simpa using h1
  refine ws ?_;refine ax ?_;refine aa (bH (eB (bE (aI (d:=.s (.bool _)) rfl ?_))));simp[o2,h1]
 have h1:¬ want=1:=by simpa using h1
 refine ws ?_;refine ab ?_;refine aa (aO rfl (fun h2=>?_) fun h2=>?_)
 .have h2:want=2:=by simpa using h2
  refine ws ?_;refine ax ?_;refine aa (bH (eB (bE (aI (d:=.s (.bool _)) rfl ?_))));simp[o2,h2]
 have h2:¬ want=2:=by simpa using h2
 refine ws ?_;refine ab ?_;refine aa (aO rfl (fun C=>?_) fun C=>?_)
 .have C:want=3:=by simpa using C
  refine ws ?_;refine iu ?_;refine aa (bH (eB (bE (aI (d:=.s (.bool _)) rfl ?_))));simp[o2,C,n7,ib]
 have C:¬ want=3:=by simpa using C
 refine vt (aj ?_);refine dJ ?_;refine aa (aI (d:=.s (.bool _)) rfl ?_);simp[o2,h0,h1,h2,C,ib,bne]
theorem Ba{x:cU}{s:Shape}:aB prog 170 [.agg (aY p q f),.agg (ct x),.agg (jt s)] (B (vi f.aU x s)):=by
 have M:∀ a∈[D.agg (aY p q f),.agg (ct x),.agg (jt s)],Tr a:=.cons (j9 hp hq f) (.cons (.agg (xi x)) (.cons (.agg (PB s)) .nil));have eZ:=fun r=>eZ (f:=f) (r:=r) hp hq eJ bL;have DK:= @DK p q f hp hq eJ bL;have hC:=hC (f:=f) hp hq eJ bL (l:=x.args);have J:=mn (n:=x.n) (a:=s.low) (b:=s.high);refine bl agd M (Tr.s _) ?_;rw[age];refine az ?_;refine ab ?_;refine eI (r6 (cs:=jt _) rfl) ak (by first|rfl|exact rL eJ bL|exact nF _|exact tU rB) ?_;refine SS ?_;refine aa (bJ (dD [(0,aY p q f,113),(1,ct x,54),(2,jt s,237)] eH (l:=[(3,.pt (aY p q f)),(4,.pt (ct x)),(5,.pt (jt s))]) eH) (aj ?_));have C:=eZ;have eZ:=eZ x.to;refine ax ?_;refine cl eZ ?_;refine SS ?_;refine aa ?_;refine iz (fun s'=>aJ prog s' ⟨ay [(3,.pt (aY p q f)),(4,.pt (ct x)),(5,.pt (jt s)),(7,U8 (zU f.aU x s))],fun _=>none,3⟩) (aj ?_) fun s' hg=>⟨_,hg,?_⟩
 .refine dJ ?_;refine aa (aO rfl (fun h=>sd ?_) fun h=>cI ?_)
  .have h:s.to=0\/s.to=1:=by simpa[ib] using h
   have eZ:=C x.a;refine ax ?_;refine cl eZ ?_;refine SS ?_;refine aa ?_;show aJ _ _ _;refine au (l:=[(3,_),(4,_),(5,_),(7,_)]) ⟨rfl,rfl,rfl,?_,trivial⟩;simp only[zU,if_pos h];rfl
  .have h:¬ (s.to=0\/s.to=1):=by simpa[ib] using h
   show aJ _ _ _;refine au (l:=[(3,_),(4,_),(5,_),(7,_)]) ⟨rfl,rfl,rfl,?_,trivial⟩;simp only[zU,if_neg h];rfl
 refine ws ?_;refine bx ?_;refine aa ?_;refine iz (fun s'=>aJ prog s' ⟨ay [(3,.pt (aY p q f)),(4,.pt (ct x)),(5,.pt (jt s)),(7,U8 (zU f.aU x s)),(8,B (wY f.aU x s))],fun _=>none,3⟩) (aj ?_) fun s' hg=>⟨_,hg,?_⟩
 .refine ab ?_;refine aa (pz (aj ?_));refine ab ?_;refine aa (aO rfl (fun h=>n2 ?_) fun h=>aj ?_)
  .have h:s.args=5:=by simpa using h
   have mn:=mn (n:=x.args.length) (a:=1) (b:=6);refine ax ?_;refine cl mn ?_;refine ba ?_;refine gc hC ?_;refine ab ?_;refine aa ?_;refine au ⟨rfl,rfl,rfl,rfl,?_,trivial⟩;show D.s (.bool _)=_;simp[wY,h]
  .have U:¬ s.args=5:=by simpa using h
   refine ab ?_;refine aa (aO rfl (fun h=>n2 ?_) fun h=>Ji ?_)
   .have h:s.args=6:=by simpa using h
    refine dJ ?_;refine gc hC ?_;refine ab ?_;refine aa ?_;refine au ⟨rfl,rfl,rfl,rfl,?_,trivial⟩;show D.s (.bool _)=_;simp[wY,h,ib]
   .have X:¬ s.args=6:=by simpa using h
    refine au ⟨rfl,rfl,rfl,rfl,?_,trivial⟩;show D.s (.bool _)=_;simp[wY,U,X,ib]
 refine ws ?_;refine bx ?_;refine cl DK ?_;refine iu ?_;refine gc DK ?_;refine dJ ?_;refine gc DK ?_;refine bw ?_;refine ab ?_;refine gc mn ?_;refine ab ?_;refine aa (aI (d:=.s (.bool _)) rfl ?_);simp[vi,Bool.and_assoc]
end
theorem L8{x:cU}:aB prog 231 [.agg (ct x)] (B (Gn x)):=by
 have C:∀ a∈[D.agg (ct x)],Tr a:=.cons (.agg (xi x)) .nil;refine bl agh C (Tr.s _) ?_;rw[agi];refine ws ?_;refine ab ?_;refine er ?_;refine bw ?_;refine bw ?_;refine bw ?_;refine ax ?_;refine aa (aI (d:=.s (.bool _)) rfl ?_);simp only[Gn,ib];cases decide (x.op=0)<;>cases decide (x.to=0)<;>cases decide (x.a=0)<;>cases decide (x.b=0)<;>cases decide (x.n=0)<;>rfl
theorem L9{x:Argus.End}:aB prog 173 [.agg (bD x)] (B (vP x)):=by
 have C:∀ a∈[D.agg (bD x)],Tr a:=.cons (.agg (qJ x)) .nil;have L8:=L8 (x:=x.ins);refine bl agj C (Tr.s _) ?_;rw[agk];refine ws ?_;refine ab ?_;refine er ?_;refine bw ?_;refine bw ?_;refine dJ ?_;refine bt rfl rfl (Kb rfl rfl) (fun hc=>⟨ak,trivial⟩) ?_;refine bw ?_;refine bw ?_;refine ab ?_;refine bt rfl rfl (fg (vs:=ct _) rfl rfl V.h V.h rfl) (fun hc=>⟨ak,(fh V.h V.h (by first|(simp;done)|omega|exact bF rfl))⟩) ?_;refine gc L8 ?_;refine ab ?_;refine aa (aI (d:=.s (.bool _)) rfl ?_);have:decide (x.name.toList=[])=x.name.toList.isEmpty:=by cases x.name.toList<;>rfl
 simp[vP,ib,Bool.and_assoc,this]
theorem ajW{w v:iE}:aB prog 229 [.agg (gP v),.pt (gP w)] (B (v.name.toList==w.name.toList)):=by
 have C:∀ a∈[D.agg (gP v),.pt (gP w)],Tr a:=.cons (.agg (Ff v)) (.cons (.pt (Ff w)) .nil);refine bl agl C (Tr.s _) ?_;rw[agm];refine ws ?_;refine eI (r6 (cs:=gP _) rfl) ak (by first|rfl|exact rL eJ bL|exact nF _|exact tU rB) ?_;refine SS ?_;refine er ?_;refine cw ?_;exact aa (aI rfl rfl)
section
variable{p q:D}{f:ap}(hp:Tr p)(hq:Tr q)(eJ:p.one=true)(bL:q.one=true)
include hp hq eJ bL
theorem sJ{x:Argus.End}:aB prog 171 [.agg (aY p q f),.agg (bD x)] (B (nY f x)):=by
 have J:∀ a∈[D.agg (aY p q f),.agg (bD x)],Tr a:=.cons (j9 hp hq f) (.cons (.agg (qJ x)) .nil);refine mq TF.he J fun U=>?_;have hlen:x.aR.length<=maxLen:=((U _ (List.mem_cons_of_mem _ (List.mem_cons_self ..))).agg (lC x.aR) (by simp[bD])).sl.1;unfold maxLen at hlen;have jE:= @jE p q f hp hq eJ bL;refine bl TF J (Tr.s _) ?_;rw[agn];refine az ?_;refine ax ?_;refine aa (bJ (dD [(0,aY p q f,113),(1,bD x,57)] eH (l:=[(2,.pt (aY p q f)),(3,.pt (bD x))]) eH) (aF (az ?_)));refine ba ?_
 refine aa (cn (fun s=>∃ n,aJ prog s ⟨ay [(2,.pt (aY p q f)),(3,.pt (bD x))],fun _=>none,n⟩/\∀ (j:Nat) y,x.aR[j]? =some y->qY f x.aR j y=true) (cy (α:=Nat) (fun k=>⟨ay [(2,.pt (aY p q f)),(3,.pt (bD x)),(8,lC x.aR),(9,I x.aR.length),(10,I k)],fun _=>none,2+k⟩)
  (fun k=>k<=x.aR.length/\∀ j y,j<k->x.aR[j]? =some y->qY f x.aR j y=true) (fun k=>x.aR.length - k) 0 (au eH) ⟨oG,fun j y hj=>by omega⟩ ?_) ?_)
 .rintro k ⟨hk,hinv⟩;refine SS ?_;refine aa ⟨_,rfl,fun h=>?_,fun h=>?_⟩
  .have af:k<x.aR.length:=by simpa using h
   have hx:x.aR[k]? =some x.aR[k]:=by simp[af]
   generalize x.aR[k]=w at hx;refine az ?_;refine cw ?_;refine aa (bJ (dD [(2+k,gP w,79)] ⟨ah _ _ _,trivial⟩ (l:=[(2,.pt (aY p q f)),(3,.pt (bD x)),(5,I k),(6,.pt (gP w)),(8,lC x.aR),(9,I x.aR.length),(10,I k)]) ⟨rfl,rfl,rfl,lU (sz:=prog.cellsOf 79),rfl,rfl,rfl,trivial⟩) (aj ?_));have DH:=DH (s:=w.name);have Dx:=Dx (l:=x.aR.take k) (g:=229) (fs:=[]) (cs:=[.pt (gP w)]) (p:=fun v=>v.name.toList==w.name.toList) (.fn oS (.cons (.pt (Ff w)) .nil)) (fun v _=>ajW);unfold lC at Dx;rw[<- acB IT hk] at Dx;refine ab ?_;refine cl DH ?_;refine bx ?_;refine gc jE ?_;refine cw ?_;refine bt rfl rfl (JC rfl V.h V.h rfl rfl rfl) (fun hc=>⟨ak,⟨V.h,oG,oG,oG⟩⟩) ?_;refine bt rfl rfl (Kd rfl rfl) (fun hc=>⟨ak,trivial⟩) ?_;refine gc Dx ?_;refine SS ?_;have hb:((isName w.name&&(ek f w.to&& !(x.aR.take k).any fun v=>v.name.toList==w.name.toList)))=qY f x.aR k w:=rfl;refine aa (aO rfl (fun hp=>?_) fun hp=>?_)
   .refine ws ?_;refine SS ?_;refine aa (bH (cm (bE (aI (d:=.s (.bool _)) rfl ?_))))
    have C:qY f x.aR k w=false:=by
     rw[<- hb];simp only[ek];revert hp;generalize isName w.name=a;generalize jo w.to 0 (f.blocks.length - 1)=b;generalize (List.any _ _)=c;cases a<;>cases b<;>cases c<;>simp
    simp[nY,WQ hx C]
   .refine cT ?_
    have C:qY f x.aR k w=true:=by
     rw[<- hb];simp only[ek];revert hp;generalize isName w.name=a;generalize jo w.to 0 (f.blocks.length - 1)=b;generalize (List.any _ _)=c;cases a<;>cases b<;>cases c<;>simp
    refine ab ?_;refine aa (bi (k+1) (au eH) ⟨oG,fun j y hj hy=>?_⟩ oG);by_cases e:j=k
    .subst e;rw[hx] at hy;cases hy;exact C
    .exact hinv j y oG hy
  .have bq:¬ k<x.aR.length:=by simpa using h
   exact⟨2+k,.forget _ _ _ _ fun t=>py (l:=[(2,.pt (aY p q f)),(3,.pt (bD x))]) ⟨rfl,rfl,trivial⟩ t,fun j y hy=>hinv j y (by have:=(bC.1 hy).1;omega) hy⟩
 .rintro s ⟨n,hg,M⟩;refine⟨_,hg,aj ?_⟩;refine bw ?_;refine ax ?_;refine gc jE ?_;refine ax ?_;refine aa (aI (d:=.s (.bool _)) rfl ?_);have X:=Xq M;simp[nY,ek,X,ib]
end
abbrev P0:D:=.im (qd n8)
abbrev Q0:D:=.im (qd nk)
theorem ajX:aB prog 162 [] (.aL [P0,Q0]):=by
 refine bl ago Tr.nil (.aL (.cons (AK _) (.cons (AK _) .nil))) ?_;rw[agp];refine ws ?_;refine aw (jO (v:=.s (.map none)) rfl) ak trivial ?_;refine aw (jO (v:=.s (.map none)) rfl) ak trivial ?_;refine er ?_;refine bw ?_;refine bw ?_;refine bw ?_;refine cw ?_;refine er ?_;refine bw ?_;refine bw ?_;refine ax ?_;refine aa (az ?_);refine ba ?_;refine aa (bJ (abq [(0,qd n8),(1,qd nk)] eH (l:=[(0,P0),(1,Q0)]) eH) ?_);exact gl rfl rfl rfl
abbrev qZ(f:ap):D:=.agg (aY P0 Q0 f)
theorem L7{f:ap}:aB prog 123 [.agg (aX f)] (qZ f):=by
 have C:∀ a∈[D.agg (aX f)],Tr a:=.cons (.agg (na f)) .nil;refine bl agq C (j9 (AK _) (AK _) f) ?_;rw[agr];refine ws ?_;refine ab ?_;refine er ?_;refine cl ajX ?_;refine SS ?_;refine aw (pw (v:=.im _) rfl rfl) ak (by first|decide|simp) ?_;refine aw (pw (v:=.im _) rfl rfl) ak (by first|decide|simp) ?_;refine aw (jO (v:=.im _) rfl) ak trivial ?_;refine aw (jO (v:=.im _) rfl) ak trivial ?_;refine er ?_;refine aw (fg (vs:=aX _) rfl rfl V.h V.h rfl) ak (fh V.h V.h (by first|(simp;done)|omega|exact bF rfl)) ?_;refine ax ?_;refine bN (fq (cs':=aY _ _ _) rfl rfl rfl rfl) ak (bX V.h V.h (by first|(simp;done)|exact⟨rfl,bF rfl⟩|(simp;omega)) (by rfl)) ?_;refine aa (r9 (gN rfl rfl UF UG rfl t113 oS) ?_);rfl
theorem lY:Tr P0:=AK _
theorem lZ:Tr Q0:=AK _
section
variable{p q:D}{f:ap}(hp:Tr p)(hq:Tr q)(eJ:p.one=true)(bL:q.one=true)
include hp hq eJ bL
theorem ajY{r kd:Int}:aB prog 177 [I r,.pt (aY p q f),.pt [U8 kd]] (B !(dm (dv f.aU r) kd)):=by
 have C:∀ a∈[I r,.pt (aY p q f),.pt [U8 kd]],Tr a:=.cons (.s _) (.cons (.pt (Cd hp hq f)) (.cons (.pt (.cons (.s _) .nil)) .nil));have eZ:=eZ (f:=f) (r:=r) hp hq eJ bL;refine bl ags C (Tr.s _) ?_;rw[agt];refine ws ?_;refine SS ?_;refine aa (eA ZQ ?_);refine ab ?_;refine cl eZ ?_;refine ax ?_;refine cz cJ ?_;refine aI (d:=.s (.bool _)) rfl ?_;rfl
end
theorem Hr{f:ap}{b ahead:Int}{x:cU}{phis:Bool}:aB prog 131 [qZ f,I b,.agg (ct x),B phis,I ahead] (B (kY f b x phis ahead)):=by
 have U:∀ a∈[qZ f,I b,.agg (ct x),B phis,I ahead],Tr a:=.cons (j9 lY lZ f) (.cons (.s _) (.cons (.agg (xi x)) (.cons (.s _) (.cons (.s _) .nil))));have eZ:= @eZ P0 Q0 f lY lZ rfl rfl;have Ht:= @Ht P0 Q0 f lY lZ rfl rfl;have hC:= @hC P0 Q0 f lY lZ rfl rfl;have Ba:= @Ba P0 Q0 f lY lZ rfl rfl;refine bl agu U (Tr.s _) ?_;rw[agv];refine az ?_;refine ax ?_;refine aa (bJ (dD [(0,aY P0 Q0 f,113),(1,ct x,54)] eH (l:=[(1,I b),(3,B phis),(4,I ahead),(5,.pt (aY P0 Q0 f)),(7,.pt (ct x))]) eH) (aF (aj ?_)));refine ab ?_;refine aa (wZ (aj ?_));refine ab ?_;refine aa (aO rfl (fun h0=>?_) fun h0=>?_)
 .have h0:x.op=16:=by simpa using h0
  refine ws ?_;refine iu ?_;refine gc eZ ?_;refine bw ?_;refine dJ ?_;refine ab ?_;refine aa (bH (eB (bE (aI (d:=.s (.bool _)) rfl ?_))));simp[kY,h0,dm,tO,ib,Bool.and_assoc]
 have h0:¬ x.op=16:=by simpa using h0
 refine ws ?_;refine ab ?_;refine aa (aO rfl (fun h1=>?_) fun h1=>?_)
 .have h1:x.op=17:=by simpa using h1
  refine ws ?_;refine bw ?_;refine bw ?_;refine ab ?_;refine gc Ht ?_;refine ab ?_;refine aa (bH (eB (bE (aI (d:=.s (.bool _)) rfl ?_))));simp[kY,h1,dm,tO,ib,Bool.and_assoc]
 have h1:¬ x.op=17:=by simpa using h1
 refine ws ?_;refine ab ?_;refine aa (aO rfl (fun h2=>?_) fun h2=>?_)
 .have h2:x.op=18:=by simpa using h2
  refine ws ?_;refine bw ?_;refine bw ?_;refine ab ?_;refine gc Ht ?_;refine ab ?_;refine aa (bH (eB (bE (aI (d:=.s (.bool _)) rfl ?_))));simp[kY,h2,dm,tO,ib,Bool.and_assoc]
 have h2:¬ x.op=18:=by simpa using h2
 refine ws ?_;refine ab ?_;refine aa (aO rfl (fun C=>?_) fun C=>?_)
 .have C:x.op=19:=by simpa using C
  refine az ?_;refine ax ?_;refine cl eZ ?_;refine ab ?_;refine aa (bJ (dD [(2,[U8 (dv f.aU x.to)],5)] eH (l:=[(1,I b),(3,B phis),(4,I ahead),(5,.pt (aY P0 Q0 f)),(7,.pt (ct x)),(11,.pt [U8 (dv f.aU x.to)])]) eH) (aj ?_));have Bq:=Bq (l:=x.args) (g:=177) (fs:=[]) (cs:=[.pt (aY P0 Q0 f),.pt [U8 (dv f.aU x.to)]]) (p:=fun r=> !(dm (dv f.aU r) (dv f.aU x.to))) (.fn oS (.cons (.pt (Cd lY lZ f)) (.cons (.pt (.cons (.s _) .nil)) .nil))) (fun r _=>ajY lY lZ rfl rfl);refine ax ?_;refine cl Bq ?_;refine SS ?_;refine er ?_;by_cases hb:phis=true/\0<b
  .obtain⟨rfl,hb⟩:=hb;have vW:decide (0<b)=true:=by simpa using hb
   have hC:=hC (l:=[x.to]);have M:∀ {m:Mem},m 3=some (.cells [I x.to] 3)->jj prog [3] m [qZ f,.rs 3 0 1] [qZ f,aP [x.to]]:=fun hm=>⟨cH (j9 lY lZ f),Az hm oS (by rw[c3];rfl) (.cons (.s _) .nil),trivial⟩
   refine dJ ?_;refine ab ?_;refine se hC rfl rfl rfl rfl (M rfl) ak ?_;refine bw ?_;refine bw ?_;refine dJ ?_;refine ab ?_;refine aa (bH (eB (bE (aI (d:=.s (.bool _)) rfl ?_))));simp[kY,C,hb,dm,tO,ib,Bool.and_assoc,qL]
  .have hf:kY f b x phis ahead=false:=by
    cases phis with
    |false=>simp[kY,C]
    |true=>simp[kY,C,show ¬ 0<b by simpa using hb]
   have hf:D.s (.bool false)=B (kY f b x phis ahead):=by rw[hf]
   cases phis with
   |false=>
    refine ab ?_;(iterate 2 refine z fun _ _=>?_);refine ab ?_;(iterate 5 refine z fun _ _=>?_);refine ab ?_;(iterate 3 refine z fun _ _=>?_);refine ab ?_;(iterate 3 refine z fun _ _=>?_);refine ab ?_;(iterate 3 refine z fun _ _=>?_);refine ab ?_;(iterate 5 refine z fun _ _=>?_);refine ab ?_;(iterate 2 refine z fun _ _=>?_);refine ab ?_;exact aa (bH (eB (bE (aI (d:=.s (.bool _)) rfl hf))))
   |true=>
    have vW:decide (0<b)=false:=by simpa using hb
    refine cw ?_;(iterate 5 refine z fun _ _=>?_);refine ab ?_;(iterate 3 refine z fun _ _=>?_);refine ab ?_;(iterate 3 refine z fun _ _=>?_);refine ab ?_;(iterate 3 refine z fun _ _=>?_);refine ab ?_;(iterate 5 refine z fun _ _=>?_);refine ab ?_;(iterate 2 refine z fun _ _=>?_);refine ab ?_;exact aa (bH (eB (bE (aI (d:=.s (.bool _)) rfl hf))))
 have C:¬ x.op=19:=by simpa using C
 refine vt (aj ?_);have X:fy prog 111 true (cM (.int .u8 x.op) (qd n8))=.aL [.agg (jt ((ju n8 x.op).getD z7)),.s (.bool (ju n8 x.op).isSome)]:=Sy rfl _ _ (by rw[Lb];unfold lQ;rw[L',Ma];rfl);have J:=RJ (P:=prog) (kt:=5) u5 n8;refine ba ?_;refine aw (zG rfl rfl V.h X) ak ⟨V.h,by kernel_rfl,J⟩ ?_;refine SS ?_;refine aw (pw (v:=.agg (jt _)) rfl rfl) ak (by first|decide|simp) ?_;refine ab ?_;refine bN (fq (cs':=jt _) rfl rfl rfl rfl) ak (bX V.h V.h (by first|(simp;done)|exact⟨rfl,bF rfl⟩|(simp;omega)) (by rfl)) ?_;refine SS ?_;refine er ?_;refine ax ?_;refine bt rfl rfl (j4 (vs:=ct _) rfl V.h V.h rfl) (fun hc=>⟨ak,(j7 V.h V.h oS)⟩) ?_;refine bt rfl rfl (fg (vs:=jt _) rfl rfl V.h V.h rfl) (fun hc=>⟨ak,(fh V.h V.h (by first|(simp;done)|omega|exact bF rfl))⟩) ?_;refine gc Ba ?_;refine ab ?_;refine aa (aI (d:=.s (.bool _)) rfl ?_);simp[kY,h0,h1,h2,C]
def TG(f:ap)(x:Argus.End)(s:St):Prop:=∃ cells n,aJ prog s ⟨ay [(2,.pt (aY P0 Q0 f)),(3,.pt (bD x)),(5,.rp 2 0),(6,B (eL f x).1)],up (fun _=>none) 2 (some (.cells cells 57)),n⟩/\cells.length=15/\∀ m,jj prog [2] m cells (bD (eL f x).2)
theorem vR{l:List Int}{r:Int}:qL l [r]=n7 l r:=by simp[qL]
theorem mN{f:ap}{x r:Argus.End}{env:Env}{m:Mem}{nx:Nat}{cells:List D}{ok:Bool}(hr:eL f x=(ok,r))(he:kW [(2,.pt (aY P0 Q0 f)),(3,.pt (bD x)),(5,.rp 2 0),(6,B ok)] env)(hm:m 2=some (.cells cells 57))(hl:cells.length=15)
 (hs:∀ m,jj prog [2] m cells (bD r)):TG f x ⟨env,m,nx⟩:=by
 refine⟨cells,nx,?_,hl,?_⟩
 .rw[hr];exact QF he (aaB hm)
 .rw[hr];exact hs
theorem Hq{f:ap}{x:Argus.End}:aB prog 129 [qZ f,.agg (bD x)] (B (jb f x)):=by
 have bg:∀ a∈[qZ f,.agg (bD x)],Tr a:=.cons (j9 lY lZ f) (.cons (.agg (qJ x)) .nil);have jE:= @jE P0 Q0 f lY lZ rfl rfl;have eZ:= @eZ P0 Q0 f lY lZ rfl rfl;have hC:= @hC P0 Q0 f lY lZ rfl rfl;have Ba:= @Ba P0 Q0 f lY lZ rfl rfl;have sJ:= @sJ P0 Q0 f lY lZ rfl rfl;refine bl agw bg (Tr.s _) ?_;rw[agx];refine az ?_;refine ax ?_;refine aa (bJ (dD [(0,aY P0 Q0 f,113),(1,bD x,57)] eH (l:=[(2,.pt (aY P0 Q0 f)),(3,.pt (bD x))]) eH) (aj ?_));refine ab ?_;refine bN (fq (cs':=bD _) rfl rfl rfl rfl) ak (bX V.h V.h (by first|(simp;done)|exact⟨rfl,bF rfl⟩|(simp;omega)) (by rfl)) ?_;refine SS ?_;refine er ?_;refine ab ?_;refine aa ?_;refine iz (TG f x) (aj ?_) fun s hs=>?_
 .refine ab ?_;refine aa (pz (aj ?_));refine ab ?_;refine aa (aO rfl (fun h=>?_) fun h=>?_)
  .have h:x.kind=1:=by simpa using h
   refine n2 ?_;refine ax ?_;refine cl jE ?_;refine ax ?_;refine aa ?_;exact mN (r:={ x with kind:=0,to:=0 }) (by simp[eL,h,dm,ib,Bool.and_assoc,ek]) ⟨rfl,rfl,rfl,rfl,trivial⟩ rfl rfl (fun m=>by repeat' (first|exact trivial|exact cH (Tr.s _)|exact cH (dn _)|exact cH (iU _)|exact mO|refine And.intro ?_ ?_))
  have h1:¬ x.kind=1:=by simpa using h
  clear h;refine ws ?_;refine ab ?_;refine aa (aO rfl (fun h=>?_) fun h=>?_)
  .have h:x.kind=2:=by simpa using h
   refine n2 ?_;refine ax ?_;refine cl eZ ?_;refine bx ?_;refine gc jE ?_;refine bx ?_;refine gc jE ?_;refine dJ ?_;refine aa ?_;exact mN (r:={ x with kind:=0,a:=0,to:=0,gL:=0 }) (by simp[eL,h,dm,ib,Bool.and_assoc,ek]) ⟨rfl,rfl,rfl,rfl,trivial⟩ rfl rfl (fun m=>by repeat' (first|exact trivial|exact cH (Tr.s _)|exact cH (dn _)|exact cH (iU _)|exact mO|refine And.intro ?_ ?_))
  have h2:¬ x.kind=2:=by simpa using h
  clear h;refine ws ?_;refine ab ?_;refine aa (aO rfl (fun h=>?_) fun h=>?_)
  .have h:x.kind=3:=by simpa using h
   refine ws ?_;refine cw ?_;refine er ?_;refine dJ ?_;refine ab ?_;refine aa (aO rfl (fun hr=>?_) fun hr=>?_)
   .have hr:f.result≠0/\f.iter=false:=by simpa[bne,ib] using hr
    refine Qh Ym ?_;refine ax ?_;refine cl eZ ?_;refine bx ?_;refine cz cJ ?_;exact mN (r:={ x with kind:=0,a:=0 }) (by simp[eL,h,dm,ib,Bool.and_assoc,hr.1,hr.2]) ⟨rfl,rfl,rfl,rfl,trivial⟩ rfl rfl (fun m=>by repeat' (first|exact trivial|exact cH (Tr.s _)|exact cH (dn _)|exact cH (iU _)|exact mO|refine And.intro ?_ ?_))
   .have hr:¬ (f.result≠0/\f.iter=false):=by simpa[bne,ib] using hr
    refine Ji ?_;exact mN (r:={ x with kind:=0,a:=0 }) (by simp only[eL,h];simp only[if_neg hr];simp[dm,ib]) ⟨rfl,rfl,rfl,rfl,trivial⟩ rfl rfl (fun m=>by repeat' (first|exact trivial|exact cH (Tr.s _)|exact cH (dn _)|exact cH (iU _)|exact mO|refine And.intro ?_ ?_))
  have h3:¬ x.kind=3:=by simpa using h
  clear h;refine ws ?_;refine ab ?_;refine aa (aO rfl (fun h=>?_) fun h=>?_)
  .have h:x.kind=4:=by simpa using h
   refine n2 ?_;refine ab ?_;refine cl DH ?_;refine ax ?_;refine aa ?_;exact mN (r:={ x with kind:=0,name:=.empty }) (by simp[eL,h,dm,ib,Bool.and_assoc]) ⟨rfl,rfl,rfl,rfl,trivial⟩ rfl rfl (fun m=>by repeat' (first|exact trivial|exact cH (Tr.s _)|exact cH (dn _)|exact cH (iU _)|exact mO|refine And.intro ?_ ?_))
  have h4:¬ x.kind=4:=by simpa using h
  clear h;refine ws ?_;refine ab ?_;refine aa (aO rfl (fun h=>?_) fun h=>?_)
  .have h:x.kind=5:=by simpa using h
   refine ws ?_;have kg:fy prog 111 true (cM (.int .u8 x.ins.op) (qd nk))=.aL [.agg (jt ((ju nk x.ins.op).getD z7)),.s (.bool (ju nk x.ins.op).isSome)]:=Sy rfl _ _ (by rw[Lb];unfold lQ;rw[L',Ma];rfl);have H5:=RJ (P:=prog) (kt:=5) u5 nk;refine bx ?_;refine aw (zG rfl rfl V.h kg) ak ⟨V.h,by kernel_rfl,H5⟩ ?_;refine SS ?_;refine aw (pw (v:=.agg (jt _)) rfl rfl) ak (by first|decide|simp) ?_;refine ab ?_;refine bN (fq (cs':=jt _) rfl rfl rfl rfl) ak (bX V.h V.h (by first|(simp;done)|exact⟨rfl,bF rfl⟩|(simp;omega)) (by rfl)) ?_;refine SS ?_;refine er ?_;refine ba ?_;refine bt rfl rfl (j4 (vs:=ct _) rfl V.h V.h rfl) (fun hc=>⟨ak,(j7 V.h V.h oS)⟩) ?_;refine bt rfl rfl (fg (vs:=jt _) rfl rfl V.h V.h rfl) (fun hc=>⟨ak,(fh V.h V.h (by first|(simp;done)|omega|exact bF rfl))⟩) ?_;refine gc Ba ?_;refine bx ?_;refine gc jE ?_;refine ba ?_;refine gc sJ ?_;refine ab ?_;refine aa (n2 ?_);refine bw ?_;refine aa ?_;exact mN (r:={ x with kind:=0,ins:=xF,to:=0,aR:=[],others:= -1 }) (by simp[eL,h,dm,ib,Bool.and_assoc,ek]) ⟨rfl,rfl,rfl,rfl,trivial⟩ rfl rfl (fun m=>by repeat' (first|exact trivial|exact cH (Tr.s _)|exact cH (dn _)|exact cH (iU _)|exact mO|refine And.intro ?_ ?_))
  have h5:¬ x.kind=5:=by simpa using h
  clear h;refine ws ?_;refine ab ?_;refine aa (aO rfl (fun h=>?_) fun h=>?_)
  .have h:x.kind=6:=by simpa using h
   refine ws ?_;have rj:=rj (s:=x.name);have agy:=hC (l:=[x.a]);have hC:=hC (l:=x.args);have X:∀ {m:Mem},m 3=some (.cells [I x.a] 3)->jj prog [3] m [qZ f,.rs 3 0 1] [qZ f,aP [x.a]]:=fun hm=>⟨cH (j9 lY lZ f),Az hm oS (by rw[c3];rfl) (.cons (.s _) .nil),trivial⟩
   cases C:n6 x.name with
   |false=>
    rw[C] at rj;refine ab ?_;refine cl rj ?_;refine dJ ?_;refine ab ?_;refine gc hC ?_;refine bw ?_;(iterate 3 refine z fun _ _=>?_);refine bx ?_;refine gc jE ?_;refine ba ?_;refine gc sJ ?_;refine ab ?_;refine aa (n2 ?_);refine bw ?_;refine ax ?_;refine aa ?_;exact mN (r:={ x with kind:=0,name:=.empty,args:=[],a:=0,to:=0,aR:=[],others:= -1 }) (by simp[eL,h,dm,ib,Bool.and_assoc,ek,C]) ⟨rfl,rfl,rfl,rfl,trivial⟩ rfl rfl (fun m=>by repeat' (first|exact trivial|exact cH (Tr.s _)|exact cH (dn _)|exact cH (iU _)|exact mO|refine And.intro ?_ ?_))
   |true=>
    rw[C] at rj;by_cases J:(x.args.length:Int)<=6
    rotate_left
    .have TZ:decide ((x.args.length:Int)<=6)=false:=by simpa using J
     refine ab ?_;refine cl rj ?_;refine dJ ?_;refine ab ?_;refine gc hC ?_;refine bw ?_;(iterate 3 refine z fun _ _=>?_);refine bx ?_;refine gc jE ?_;refine ba ?_;refine gc sJ ?_;refine ab ?_;refine aa (n2 ?_);refine bw ?_;refine ax ?_;refine aa ?_;exact mN (r:={ x with kind:=0,name:=.empty,args:=[],a:=0,to:=0,aR:=[],others:= -1 }) (by simp[eL,h,dm,ib,Bool.and_assoc,ek,C,J]) ⟨rfl,rfl,rfl,rfl,trivial⟩ rfl rfl (fun m=>by repeat' (first|exact trivial|exact cH (Tr.s _)|exact cH (dn _)|exact cH (iU _)|exact mO|refine And.intro ?_ ?_))
    have TZ:decide ((x.args.length:Int)<=6)=true:=by simpa using J
    cases M:qL f.aU x.args with
    |false=>
     rw[M] at hC;refine ab ?_;refine cl rj ?_;refine dJ ?_;refine ab ?_;refine gc hC ?_;refine bw ?_;(iterate 3 refine z fun _ _=>?_);refine bx ?_;refine gc jE ?_;refine ba ?_;refine gc sJ ?_;refine ab ?_;refine aa (n2 ?_);refine bw ?_;refine ax ?_;refine aa ?_;exact mN (r:={ x with kind:=0,name:=.empty,args:=[],a:=0,to:=0,aR:=[],others:= -1 }) (by simp[eL,h,dm,ib,Bool.and_assoc,ek,C,J,M]) ⟨rfl,rfl,rfl,rfl,trivial⟩ rfl rfl (fun m=>by repeat' (first|exact trivial|exact cH (Tr.s _)|exact cH (dn _)|exact cH (iU _)|exact mO|refine And.intro ?_ ?_))
    |true=>
     rw[M] at hC;by_cases U:x.a= -1
     .have nG:(x.a== -1)=true:=by simpa using U
      refine ab ?_;refine cl rj ?_;refine dJ ?_;refine ab ?_;refine gc hC ?_;refine ba ?_;refine bt rfl rfl (Ai rfl rfl nG) (fun hc=>⟨ak,rfl⟩) ?_;refine ba ?_;iterate 2 refine z fun _ _=>?_
      refine B0 rfl rfl rfl rfl (by first|exact fun _=>trivial|exact fun _=>rfl|exact fun hc=>hc) (by first|exact fun _=>trivial|exact fun _=>rfl|exact fun hc=>hc) ?_;refine bx ?_;refine gc jE ?_;refine ba ?_;refine gc sJ ?_;refine ab ?_;refine aa (n2 ?_);refine bw ?_;refine ax ?_;refine aa ?_;exact mN (r:={ x with kind:=0,name:=.empty,args:=[],a:=0,to:=0,aR:=[],others:= -1 }) (by simp[eL,h,dm,ib,Bool.and_assoc,ek,C,J,M,U]) ⟨rfl,rfl,rfl,rfl,trivial⟩ rfl rfl (fun m=>by repeat' (first|exact trivial|exact cH (Tr.s _)|exact cH (dn _)|exact cH (iU _)|exact mO|refine And.intro ?_ ?_))
     .have nG:(x.a== -1)=false:=by simpa using U
      refine ab ?_;refine cl rj ?_;refine dJ ?_;refine ab ?_;refine gc hC ?_;refine ba ?_;refine bt rfl rfl (Ai rfl rfl nG) (fun hc=>⟨ak,rfl⟩) ?_;refine bx ?_;refine se agy rfl rfl rfl rfl (X rfl) ak ?_;refine cw ?_;refine gc jE ?_;refine ba ?_;refine gc sJ ?_;refine ab ?_;refine aa (n2 ?_);refine bw ?_;refine ax ?_;refine aa ?_;exact mN (r:={ x with kind:=0,name:=.empty,args:=[],a:=0,to:=0,aR:=[],others:= -1 }) (by simp[eL,h,dm,ib,Bool.and_assoc,ek,C,J,M,U,vR]) ⟨rfl,rfl,rfl,rfl,trivial⟩ rfl rfl (fun m=>by repeat' (first|exact trivial|exact cH (Tr.s _)|exact cH (dn _)|exact cH (iU _)|exact mO|refine And.intro ?_ ?_))
  have h6:¬ x.kind=6:=by simpa using h
  clear h;refine ws ?_;refine ab ?_;refine aa (aO rfl (fun h=>?_) fun h=>?_)
  .have h:x.kind=7:=by simpa using h
   refine ws ?_;refine ab ?_;refine cl rj ?_;refine dJ ?_;refine ab ?_;refine gc hC ?_;refine bx ?_;refine gc eZ ?_;refine cw ?_;refine gc jE ?_;refine ab ?_;refine aa (n2 ?_);refine dJ ?_;refine aa ?_;exact mN (r:={ x with kind:=0,name:=.empty,args:=[],a:=0,to:=0 }) (by simp[eL,h,dm,ib,Bool.and_assoc,ek]) ⟨rfl,rfl,rfl,rfl,trivial⟩ rfl rfl (fun m=>by repeat' (first|exact trivial|exact cH (Tr.s _)|exact cH (dn _)|exact cH (iU _)|exact mO|refine And.intro ?_ ?_))
  have h7:¬ x.kind=7:=by simpa using h
  clear h;refine ws ?_;refine ab ?_;refine aa (aO rfl (fun h=>?_) fun h=>?_)
  .have h:x.kind=8:=by simpa using h
   refine ws ?_;have hC:=hC (l:=[x.b]);have La:∀ {m:Mem},m 3=some (.cells [I x.b] 3)->jj prog [3] m [qZ f,.rs 3 0 1] [qZ f,aP [x.b]]:=fun hm=>⟨cH (j9 lY lZ f),Az hm oS (by rw[c3];rfl) (.cons (.s _) .nil),trivial⟩
   by_cases C:dv f.aU x.a=3
   .have nG:(dv f.aU x.a==3)=true:=by simpa using C
    refine ax ?_;refine cl eZ ?_;refine cw ?_;refine se hC rfl rfl rfl rfl (La rfl) ak ?_;refine bx ?_;refine gc jE ?_;refine bx ?_;refine gc jE ?_;refine ba ?_;refine gc sJ ?_;refine ab ?_;refine aa (n2 ?_);refine bw ?_;refine ax ?_;refine aa ?_;exact mN (r:={ x with kind:=0,a:=0,b:=0,to:=0,gL:=0,aR:=[],others:= -1 }) (by simp[eL,h,dm,ib,Bool.and_assoc,ek,C,vR]) ⟨rfl,rfl,rfl,rfl,trivial⟩ rfl rfl (fun m=>by repeat' (first|exact trivial|exact cH (Tr.s _)|exact cH (dn _)|exact cH (iU _)|exact mO|refine And.intro ?_ ?_))
   .have nG:(dv f.aU x.a==3)=false:=by simpa using C
    refine ax ?_;refine cl eZ ?_;refine bx ?_;(iterate 2 refine z fun _ _=>?_);refine bx ?_;refine gc jE ?_;refine bx ?_;refine gc jE ?_;refine ba ?_;refine gc sJ ?_;refine ab ?_;refine aa (n2 ?_);refine bw ?_;refine ax ?_;refine aa ?_;exact mN (r:={ x with kind:=0,a:=0,b:=0,to:=0,gL:=0,aR:=[],others:= -1 }) (by simp[eL,h,dm,ib,Bool.and_assoc,ek,C]) ⟨rfl,rfl,rfl,rfl,trivial⟩ rfl rfl (fun m=>by repeat' (first|exact trivial|exact cH (Tr.s _)|exact cH (dn _)|exact cH (iU _)|exact mO|refine And.intro ?_ ?_))
  have h8:¬ x.kind=8:=by simpa using h
  clear h;refine ws ?_;refine ab ?_;refine aa (aO rfl (fun h=>?_) fun h=>?_)
  .have h:x.kind=9:=by simpa using h
   refine Qh Yn ?_;refine iu ?_;refine gc eZ ?_;refine bw ?_;refine gc jE ?_;refine cw ?_;refine cz cJ ?_;exact mN (r:={ x with kind:=0,a:=0,to:=0 }) (by simp[eL,h,dm,ib,Bool.and_assoc,ek]) ⟨rfl,rfl,rfl,rfl,trivial⟩ rfl rfl (fun m=>by repeat' (first|exact trivial|exact cH (Tr.s _)|exact cH (dn _)|exact cH (iU _)|exact mO|refine And.intro ?_ ?_))
  .have h9:¬ x.kind=9:=by simpa using h
   refine Ji ?_;exact mN (r:={ x with kind:=0 }) (by simp[eL,h1,h2,h3,h4,h5,h6,h7,h8,h9]) ⟨rfl,rfl,rfl,rfl,trivial⟩ rfl rfl (fun m=>by repeat' (first|exact trivial|exact cH (Tr.s _)|exact cH (dn _)|exact cH (iU _)|exact mO|refine And.intro ?_ ?_))
 .obtain⟨cells,n,hg,hl,hs⟩:=hs;refine⟨_,hg,aj ?_⟩;have gw:(cells.drop 0).take 15=cells:=by rw[List.drop_zero,dt oG]
  have L9:=L9 (x:=(eL f x).2);have agz:∀ {m:Mem},m 2=m 2->jj prog [2] m [.agg ((cells.drop 0).take 15)] [.agg (bD (eL f x).2)]:=fun {m} _=>⟨adH (by rw[gw];exact hs m),trivial⟩
  have he:jb f x=((eL f x).1&&vP (eL f x).2):=rfl;generalize (eL f x).1=ok at he;cases ok with
  |true=>
   refine ax ?_;refine se L9 rfl rfl rfl rfl (agz rfl) ak ?_;refine ab ?_;refine aa (aI (d:=.s (.bool _)) rfl ?_);rw[he];simp
  |false=>
   refine ab ?_;(iterate 2 refine z fun _ _=>?_);refine ab ?_;refine aa (aI (d:=.s (.bool _)) rfl ?_);rw[he];simp
theorem ug{n:Int}(hn: -1000000<=n/\n<=1000000):aB prog 182 [I n] (I (mY n)):=by
 refine bl agA (by simp[Tr.s]) (Tr.s _) ?_;rw[agB];refine ws ?_;refine SS ?_;refine er ?_;refine ax ?_;exact aa (aI rfl rfl)
theorem AR{x:cU}:aB prog 235 [.agg (ct x)] (I (j8 x)):=by
 have bg:∀ a∈[D.agg (ct x)],Tr a:=.cons (.agg (xi x)) .nil;refine bl agC bg (Tr.s _) ?_;rw[agD];refine az ?_;refine ab ?_;refine aa (bJ (dD [(0,ct x,54)] eH (l:=[(1,.pt (ct x))]) eH) (aF (aj ?_)));refine ab ?_;refine aa (wZ ?_);refine iz (fun s=>aJ prog s ⟨ay [(1,.pt (ct x)),(4,U8 x.op),(5,B (bO tv x.op))],fun _=>none,1⟩) (aj ?_) fun s hg=>⟨_,hg,?_⟩
 .refine ab ?_;refine aa (aO rfl (fun h=>cI ?_) fun e1=>aj ?_)
  .have h:x.op=1:=by simpa using h
   refine au ⟨rfl,rfl,?_,trivial⟩;show D.s (.bool (x.op==1))=_;rw[h];rfl
  refine ab ?_;refine aa (aO rfl (fun h=>cI ?_) fun e2=>aj ?_)
  .have h:x.op=2:=by simpa using h
   refine au ⟨rfl,rfl,?_,trivial⟩;show D.s (.bool (x.op==2))=_;rw[h];rfl
  refine ab ?_;refine aa (aO rfl (fun h=>cI ?_) fun e3=>aj ?_)
  .have h:x.op=3:=by simpa using h
   refine au ⟨rfl,rfl,?_,trivial⟩;show D.s (.bool (x.op==3))=_;rw[h];rfl
  refine ab ?_;refine aa (aO rfl (fun h=>cI ?_) fun e4=>aj ?_)
  .have h:x.op=4:=by simpa using h
   refine au ⟨rfl,rfl,?_,trivial⟩;show D.s (.bool (x.op==4))=_;rw[h];rfl
  refine ab ?_;refine aa (aO rfl (fun h=>cI ?_) fun e5=>aj ?_)
  .have h:x.op=5:=by simpa using h
   refine au ⟨rfl,rfl,?_,trivial⟩;show D.s (.bool (x.op==5))=_;rw[h];rfl
  refine ab ?_;refine aa (aO rfl (fun h=>cI ?_) fun e6=>aj ?_)
  .have h:x.op=6:=by simpa using h
   refine au ⟨rfl,rfl,?_,trivial⟩;show D.s (.bool (x.op==6))=_;rw[h];rfl
  refine ab ?_;refine aa (aO rfl (fun h=>cI ?_) fun e7=>aj ?_)
  .have h:x.op=7:=by simpa using h
   refine au ⟨rfl,rfl,?_,trivial⟩;show D.s (.bool (x.op==7))=_;rw[h];rfl
  refine ab ?_;refine aa (aO rfl (fun h=>cI ?_) fun e8=>aj ?_)
  .have h:x.op=8:=by simpa using h
   refine au ⟨rfl,rfl,?_,trivial⟩;show D.s (.bool (x.op==8))=_;rw[h];rfl
  refine ab ?_;refine aa (aO rfl (fun h=>cI ?_) fun e9=>aj ?_)
  .have h:x.op=9:=by simpa using h
   refine au ⟨rfl,rfl,?_,trivial⟩;show D.s (.bool (x.op==9))=_;rw[h];rfl
  refine ab ?_;refine aa (aO rfl (fun h=>cI ?_) fun C=>aj ?_)
  .have h:x.op=10:=by simpa using h
   refine au ⟨rfl,rfl,?_,trivial⟩;show D.s (.bool (x.op==10))=_;rw[h];rfl
  refine ab ?_;refine aa (aO rfl (fun h=>cI ?_) fun M=>aj ?_)
  .have h:x.op=11:=by simpa using h
   refine au ⟨rfl,rfl,?_,trivial⟩;show D.s (.bool (x.op==11))=_;rw[h];rfl
  refine ab ?_;refine aa (aO rfl (fun h=>cI ?_) fun U=>aj ?_)
  .have h:x.op=13:=by simpa using h
   refine au ⟨rfl,rfl,?_,trivial⟩;show D.s (.bool (x.op==13))=_;rw[h];rfl
  refine ab ?_;refine aa (aO rfl (fun h=>cI ?_) fun X=>aj ?_)
  .have h:x.op=14:=by simpa using h
   refine au ⟨rfl,rfl,?_,trivial⟩;show D.s (.bool (x.op==14))=_;rw[h];rfl
  refine ab ?_;refine aa (aO rfl (fun h=>cI ?_) fun NG=>sd ?_)
  .have h:x.op=17:=by simpa using h
   refine au ⟨rfl,rfl,?_,trivial⟩;show D.s (.bool (x.op==17))=_;rw[h];rfl
  refine ab ?_;refine aa ?_;refine au ⟨rfl,rfl,?_,trivial⟩;show D.s (.bool (x.op==19))=_;simp[bO,tv,e1,e2,e3,e4,e5,e6,e7,e8,e9,C,M,U,X,NG]
 refine aO rfl (fun h1=>?_) fun h1=>?_
 .refine ws ?_;refine ax ?_;refine aa (bH (eB (bE (aI (d:=I x.to) rfl ?_))));simp[j8,h1]
 refine iz (fun s=>aJ prog s ⟨ay [(1,.pt (ct x)),(4,U8 x.op),(23,B (bO xe x.op))],fun _=>none,1⟩) (aj ?_) fun s hg=>⟨_,hg,?_⟩
 .refine ab ?_;refine aa (aO rfl (fun h=>cI ?_) fun NH=>aj ?_)
  .have h:x.op=30:=by simpa using h
   refine au ⟨rfl,rfl,?_,trivial⟩;show D.s (.bool (x.op==30))=_;rw[h];rfl
  refine ab ?_;refine aa (aO rfl (fun h=>cI ?_) fun NI=>aj ?_)
  .have h:x.op=31:=by simpa using h
   refine au ⟨rfl,rfl,?_,trivial⟩;show D.s (.bool (x.op==31))=_;rw[h];rfl
  refine ab ?_;refine aa (aO rfl (fun h=>cI ?_) fun NJ=>aj ?_)
  .have h:x.op=32:=by simpa using h
   refine au ⟨rfl,rfl,?_,trivial⟩;show D.s (.bool (x.op==32))=_;rw[h];rfl
  refine ab ?_;refine aa (aO rfl (fun h=>cI ?_) fun NK=>aj ?_)
  .have h:x.op=33:=by simpa using h
   refine au ⟨rfl,rfl,?_,trivial⟩;show D.s (.bool (x.op==33))=_;rw[h];rfl
  refine ab ?_;refine aa (aO rfl (fun h=>cI ?_) fun rE=>aj ?_)
  .have h:x.op=34:=by simpa using h
   refine au ⟨rfl,rfl,?_,trivial⟩;show D.s (.bool (x.op==34))=_;rw[h];rfl
  refine ab ?_;refine aa (aO rfl (fun h=>cI ?_) fun J=>sd ?_)
  .have h:x.op=36:=by simpa using h
   refine au ⟨rfl,rfl,?_,trivial⟩;show D.s (.bool (x.op==36))=_;rw[h];rfl
  refine ab ?_;refine aa ?_;refine au ⟨rfl,rfl,?_,trivial⟩;show D.s (.bool (x.op==37))=_;simp[bO,xe,NH,NI,NJ,NK,rE,J]
 refine aO rfl (fun h2=>?_) fun h2=>?_
 .refine ws ?_;refine ax ?_;refine aa (bH (eB (bE (aI (d:=I x.to) rfl ?_))));simp[j8,h2]
 refine vt (aj ?_);refine SS ?_;refine aa (aI (d:=I (-1)) rfl ?_);simp[j8,h1,h2]
theorem L2{x:Argus.End}:aB prog 186 [.agg (bD x)] (I (jN x)):=by
 have J:∀ a∈[D.agg (bD x)],Tr a:=.cons (.agg (qJ x)) .nil;have AR:=AR (x:=x.ins);refine bl agE J (Tr.s _) ?_;rw[agF];refine az ?_;refine ab ?_;refine aa (bJ (dD [(0,bD x,57)] eH (l:=[(1,.pt (bD x))]) eH) (aF (aj ?_)));refine ab ?_;refine aa (wZ (aj ?_));refine ab ?_;refine aa (aO rfl (fun h1=>?_) fun h1=>?_)
 .have h1:x.kind=5:=by simpa using h1
  refine ws ?_;refine ab ?_;refine cl AR ?_;refine SS ?_;refine aa (bH (eB (bE (aI (d:=I (j8 x.ins)) rfl ?_))));simp[jN,h1]
 have h1:¬ x.kind=5:=by simpa using h1
 refine iz (fun s=>aJ prog s ⟨ay [(1,.pt (bD x)),(4,U8 x.kind),(10,B (bO [6,7] x.kind))],fun _=>none,1⟩) (aj ?_) fun s hg=>⟨_,hg,?_⟩
 .refine ab ?_;refine aa (aO rfl (fun h=>cI ?_) fun e6=>sd ?_)
  .have h:x.kind=6:=by simpa using h
   refine au ⟨rfl,rfl,?_,trivial⟩;show D.s (.bool (x.kind==6))=_;rw[h];rfl
  refine ab ?_;refine aa ?_;refine au ⟨rfl,rfl,?_,trivial⟩;show D.s (.bool (x.kind==7))=_;simp[bO,e6]
 refine aO rfl (fun h2=>?_) fun h2=>?_
 .refine ws ?_;refine ax ?_;refine aa (bH (eB (bE (aI (d:=I x.a) rfl ?_))));simp[jN,h1,h2]
 refine ws ?_;refine ab ?_;refine aa (aO rfl (fun C=>?_) fun C=>?_)
 .have C:x.kind=8:=by simpa using C
  refine ws ?_;refine ax ?_;refine aa (bH (eB (bE (aI (d:=I x.b) rfl ?_))));simp[jN,h2,C];simp[bO]
 have C:¬ x.kind=8:=by simpa using C
 refine vt (aj ?_);refine SS ?_;refine aa (aI (d:=I (-1)) rfl ?_);simp[jN,h1,h2,C]
theorem rF{l:List Int}(hl:l.length<=100000):aB prog 93 [aP l] (aP l):=by
 have J:∀ a∈[aP l],Tr a:=.cons (dn _) .nil;refine bl ajZ J (dn _) ?_;rw[aj0];have M:(l.map I).take (l.length*1)=l.map I:=dt oS
 have last:AW prog cY true (.seq (.region 3 (Z xG 3) false) .ret) (gV prog [.tmp 2] fun d x=>d=aP l) ⟨ay [(0,aP l)],fun _=>none,0⟩:=by
  refine az ?_;refine ab ?_;refine ji (iX rfl rfl rfl V.h V.h (qD M) rfl) ak ⟨V.h,rfl,(by first|omega|exact bF rfl|(simp;done)|(simp;omega)),oC,(by first|rfl|(simp;done)|(simp;omega)),(by unfold maxLen;first|omega|(simp;omega)),(by rw[b3];first|omega|(simp;omega)),(by first|(simp;done)|(simp;omega))⟩ ?_;refine SS ?_;refine aa (bJ (dD [(1,l.map I,3)] eH (l:=[(2,aP l)]) ⟨?_,trivial⟩) (aI rfl rfl));show Bl _ [(1,l.map I,3)] (.rs 1 0 (0+l.length))=.sl (l.map I) l.length;rw[Nat.zero_add];exact vO c3 (dt oS)
 refine ws ?_;refine SS ?_;refine aa ?_;refine iz (fun s=>aJ prog s ⟨ay [(0,aP l)],fun _=>none,0⟩) (aj ?_) fun s hg=>⟨_,hg,last⟩
 cases l with
 |nil=>
  refine SS ?_;refine aw (Gj rfl) ak V.h ?_;refine aa (Rt rfl (az ?_) (cI (au eH)));refine SS ?_;exact aa (bJ (w9 (n0:=2) rfl) (bH (bE (aI rfl rfl))))
 |cons a l=>
  have C:(a::l).length≠0:=by simp
  refine SS ?_;refine aw (Gk rfl C) ak V.h ?_;exact aa (aO rfl (fun h=>oH) fun h=>cI (au eH))
theorem A7{x:cU}(hx:x.op=10\/x.op=38->x.args.length<=1000):aB prog 181 [.agg (ct x)] (aP (ed x)):=by
 have bg:∀ a∈[D.agg (ct x)],Tr a:=.cons (.agg (xi x)) .nil;refine bl agG bg (dn _) ?_;rw[agH];refine az ?_;refine ab ?_;refine aa (bJ (dD [(0,ct x,54)] eH (l:=[(1,.pt (ct x))]) eH) (aF (aj ?_)));refine ab ?_;refine aa (wZ ?_);refine iz (fun s=>aJ prog s ⟨ay [(1,.pt (ct x)),(4,U8 x.op),(5,B (bO tF x.op))],fun _=>none,1⟩) (aj ?_) fun s hg=>⟨_,hg,?_⟩
 .refine ab ?_;refine aa (aO rfl (fun h=>cI ?_) fun e2=>aj ?_)
  .have h:x.op=2:=by simpa using h
   refine au ⟨rfl,rfl,?_,trivial⟩;show D.s (.bool (x.op==2))=_;rw[h];rfl
  refine ab ?_;refine aa (aO rfl (fun h=>cI ?_) fun e8=>aj ?_)
  .have h:x.op=8:=by simpa using h
   refine au ⟨rfl,rfl,?_,trivial⟩;show D.s (.bool (x.op==8))=_;rw[h];rfl
  refine ab ?_;refine aa (aO rfl (fun h=>cI ?_) fun ND=>aj ?_)
  .have h:x.op=11:=by simpa using h
   refine au ⟨rfl,rfl,?_,trivial⟩;show D.s (.bool (x.op==11))=_;rw[h];rfl
  refine ab ?_;refine aa (aO rfl (fun h=>cI ?_) fun NE=>aj ?_)
  .have h:x.op=13:=by simpa using h
   refine au ⟨rfl,rfl,?_,trivial⟩;show D.s (.bool (x.op==13))=_;rw[h];rfl
  refine ab ?_;refine aa (aO rfl (fun h=>cI ?_) fun NF=>aj ?_)
  .have h:x.op=14:=by simpa using h
   refine au ⟨rfl,rfl,?_,trivial⟩;show D.s (.bool (x.op==14))=_;rw[h];rfl
  refine ab ?_;refine aa (aO rfl (fun h=>cI ?_) fun NL=>aj ?_)
  .have h:x.op=15:=by simpa using h
   refine au ⟨rfl,rfl,?_,trivial⟩;show D.s (.bool (x.op==15))=_;rw[h];rfl
  refine ab ?_;refine aa (aO rfl (fun h=>cI ?_) fun NM=>aj ?_)
  .have h:x.op=16:=by simpa using h
   refine au ⟨rfl,rfl,?_,trivial⟩;show D.s (.bool (x.op==16))=_;rw[h];rfl
  refine ab ?_;refine aa (aO rfl (fun h=>cI ?_) fun U=>sd ?_)
  .have h:x.op=18:=by simpa using h
   refine au ⟨rfl,rfl,?_,trivial⟩;show D.s (.bool (x.op==18))=_;rw[h];rfl
  refine ab ?_;refine aa ?_;refine au ⟨rfl,rfl,?_,trivial⟩;show D.s (.bool (x.op==36))=_;simp[bO,tF,e2,e8,ND,NE,NF,NL,NM,U]
 refine aO rfl (fun h1=>?_) fun h1=>?_
 .refine az ?_;refine ba ?_;refine aa (bJ (dD [(1,([x.a]).map I,3)] eH (l:=[(2,aP ([x.a]))]) ⟨vO c3 rfl,trivial⟩) (bH (eB (bE (aI (d:=aP ([x.a])) rfl ?_)))));exact congrArg aP (by unfold ed;rw[if_pos h1])
 refine iz (fun s=>aJ prog s ⟨ay [(1,.pt (ct x)),(4,U8 x.op),(18,B (bO xq x.op))],fun _=>none,1⟩) (aj ?_) fun s hg=>⟨_,hg,?_⟩
 .refine ab ?_;refine aa (aO rfl (fun h=>cI ?_) fun e3=>aj ?_)
  .have h:x.op=3:=by simpa using h
   refine au ⟨rfl,rfl,?_,trivial⟩;show D.s (.bool (x.op==3))=_;rw[h];rfl
  refine ab ?_;refine aa (aO rfl (fun h=>cI ?_) fun e4=>aj ?_)
  .have h:x.op=4:=by simpa using h
   refine au ⟨rfl,rfl,?_,trivial⟩;show D.s (.bool (x.op==4))=_;rw[h];rfl
  refine ab ?_;refine aa (aO rfl (fun h=>cI ?_) fun e5=>aj ?_)
  .have h:x.op=5:=by simpa using h
   refine au ⟨rfl,rfl,?_,trivial⟩;show D.s (.bool (x.op==5))=_;rw[h];rfl
  refine ab ?_;refine aa (aO rfl (fun h=>cI ?_) fun e6=>aj ?_)
  .have h:x.op=6:=by simpa using h
   refine au ⟨rfl,rfl,?_,trivial⟩;show D.s (.bool (x.op==6))=_;rw[h];rfl
  refine ab ?_;refine aa (aO rfl (fun h=>cI ?_) fun e7=>aj ?_)
  .have h:x.op=7:=by simpa using h
   refine au ⟨rfl,rfl,?_,trivial⟩;show D.s (.bool (x.op==7))=_;rw[h];rfl
  refine ab ?_;refine aa (aO rfl (fun h=>cI ?_) fun M=>aj ?_)
  .have h:x.op=12:=by simpa using h
   refine au ⟨rfl,rfl,?_,trivial⟩;show D.s (.bool (x.op==12))=_;rw[h];rfl
  refine ab ?_;refine aa (aO rfl (fun h=>cI ?_) fun NH=>aj ?_)
  .have h:x.op=30:=by simpa using h
   refine au ⟨rfl,rfl,?_,trivial⟩;show D.s (.bool (x.op==30))=_;rw[h];rfl
  refine ab ?_;refine aa (aO rfl (fun h=>cI ?_) fun NI=>aj ?_)
  .have h:x.op=31:=by simpa using h
   refine au ⟨rfl,rfl,?_,trivial⟩;show D.s (.bool (x.op==31))=_;rw[h];rfl
  refine ab ?_;refine aa (aO rfl (fun h=>cI ?_) fun NJ=>aj ?_)
  .have h:x.op=32:=by simpa using h
   refine au ⟨rfl,rfl,?_,trivial⟩;show D.s (.bool (x.op==32))=_;rw[h];rfl
  refine ab ?_;refine aa (aO rfl (fun h=>cI ?_) fun NK=>aj ?_)
  .have h:x.op=33:=by simpa using h
   refine au ⟨rfl,rfl,?_,trivial⟩;show D.s (.bool (x.op==33))=_;rw[h];rfl
  refine ab ?_;refine aa (aO rfl (fun h=>cI ?_) fun rE=>aj ?_)
  .have h:x.op=34:=by simpa using h
   refine au ⟨rfl,rfl,?_,trivial⟩;show D.s (.bool (x.op==34))=_;rw[h];rfl
  refine ab ?_;refine aa (aO rfl (fun h=>cI ?_) fun X=>sd ?_)
  .have h:x.op=35:=by simpa using h
   refine au ⟨rfl,rfl,?_,trivial⟩;show D.s (.bool (x.op==35))=_;rw[h];rfl
  refine ab ?_;refine aa ?_;refine au ⟨rfl,rfl,?_,trivial⟩;show D.s (.bool (x.op==37))=_;simp[bO,xq,e3,e4,e5,e6,e7,M,NH,NI,NJ,NK,rE,X]
 refine aO rfl (fun h2=>?_) fun h2=>?_
 .refine az ?_;refine cw ?_;refine aa (bJ (dD [(1,([x.a,x.b]).map I,3)] eH (l:=[(2,aP ([x.a,x.b]))]) ⟨vO c3 rfl,trivial⟩) (bH (eB (bE (aI (d:=aP ([x.a,x.b])) rfl ?_)))));exact congrArg aP (by unfold ed;rw[if_neg (by simp[h1]),if_pos h2])
 refine ws ?_;refine ab ?_;refine aa (aO rfl (fun C=>?_) fun C=>?_)
 .have C:x.op=10:=by simpa using C
  have rF:=rF (l:=x.args) (by have:=hx (.inl C);omega);refine ws ?_;refine ab ?_;refine cl rF ?_;refine SS ?_;refine aa (bH (eB (bE (aI (d:=aP x.args) rfl ?_))));exact congrArg aP (by unfold ed;rw[if_neg (by simp[h1]),if_neg (by simp[h2]),if_pos C])
 have C:¬ x.op=10:=by simpa using C
 refine ws ?_;refine ab ?_;refine aa (aO rfl (fun J=>?_) fun J=>?_)
 .have J:x.op=38:=by simpa using J
  have hl:=hx (.inr J);have iF:(x.args.map I).take (x.args.length*1)=x.args.map I:=dt oS;refine az ?_;refine iu ?_;refine ji (iX rfl rfl rfl V.h V.h (qD iF) rfl) ak ⟨V.h,rfl,(by first|omega|exact bF rfl|(simp;done)|(simp;omega)),oC,(by first|rfl|(simp;done)|(simp;omega)),(by unfold maxLen;first|omega|(simp;omega)),(by rw[b3];first|omega|(simp;omega)),(by first|(simp;done)|(simp;omega))⟩ ?_;refine SS ?_;refine aa (bJ (dD [(2,(x.a::x.b::x.args).map I,3)] eH (l:=[(2,aP (x.a::x.b::x.args))]) ⟨?_,trivial⟩) (bH (eB (bE (aI (d:=aP (x.a::x.b::x.args)) rfl ?_)))))
  .show Bl _ [(2,_,3)] (.rs 2 0 (2+x.args.length))=_;refine(vO c3 (es:=(x.a::x.b::x.args).map I) (dt oP)).trans ?_;rw[Nat.add_comm];rfl
  .exact congrArg aP (by unfold ed;rw[if_neg (by simp[h1]),if_neg (by simp[h2]),if_neg C,if_pos J])
 have J:¬ x.op=38:=by simpa using J
 refine vt (az ?_);refine SS ?_;refine aa (bJ (w9 (n0:=2) rfl) (aI (d:=aP []) rfl ?_));exact congrArg aP (by unfold ed;rw[if_neg (by simp[h1]),if_neg (by simp[h2]),if_neg C,if_neg J])
theorem L3{x:Argus.End}(hx:x.kind=5->x.ins.op=10\/x.ins.op=38->x.ins.args.length<=1000)(hy:x.kind=6\/x.kind=7->x.args.length<=1000):aB prog 184 [.agg (bD x)] (aP (dT x)):=by
 have M:∀ a∈[D.agg (bD x)],Tr a:=.cons (.agg (qJ x)) .nil;refine bl agI M (dn _) ?_;rw[agJ];refine az ?_;refine ab ?_;refine aa (bJ (dD [(0,bD x,57)] eH (l:=[(1,.pt (bD x))]) eH) (aF (aj ?_)));refine ab ?_;refine aa (wZ ?_);refine iz (fun s=>aJ prog s ⟨ay [(1,.pt (bD x)),(4,U8 x.kind),(5,B (bO [2,8,9] x.kind))],fun _=>none,1⟩) (aj ?_) fun s hg=>⟨_,hg,?_⟩
 .refine ab ?_;refine aa (aO rfl (fun h=>cI ?_) fun e2=>aj ?_)
  .have h:x.kind=2:=by simpa using h
   refine au ⟨rfl,rfl,?_,trivial⟩;show D.s (.bool (x.kind==2))=_;rw[h];rfl
  refine ab ?_;refine aa (aO rfl (fun h=>cI ?_) fun e8=>sd ?_)
  .have h:x.kind=8:=by simpa using h
   refine au ⟨rfl,rfl,?_,trivial⟩;show D.s (.bool (x.kind==8))=_;rw[h];rfl
  refine ab ?_;refine aa ?_;refine au ⟨rfl,rfl,?_,trivial⟩;show D.s (.bool (x.kind==9))=_;simp[bO,e2,e8]
 refine aO rfl (fun h1=>?_) fun h1=>?_
 .refine az ?_;refine ba ?_;refine aa (bJ (dD [(1,([x.a]).map I,3)] eH (l:=[(2,aP ([x.a]))]) ⟨vO c3 rfl,trivial⟩) (bH (eB (bE (aI (d:=aP ([x.a])) rfl ?_)))));exact congrArg aP (by unfold dT;rw[if_pos h1])
 refine ws ?_;refine ab ?_;refine aa (aO rfl (fun h2=>?_) fun h2=>?_)
 .have h2:x.kind=3:=by simpa using h2
  refine ws ?_;refine ax ?_;refine aa (aO rfl (fun C=>?_) fun C=>?_)
  .have C:¬ x.a= -1:=by simpa[bne,ib] using C
   refine az ?_;refine ba ?_;refine aa (bJ (dD [(1,([x.a]).map I,3)] eH (l:=[(2,aP ([x.a]))]) ⟨vO c3 rfl,trivial⟩) (bH (eB (bE (aI (d:=aP ([x.a])) rfl ?_)))));exact congrArg aP (by unfold dT;rw[if_neg (by simp[h1]),if_pos h2,if_pos C])
  .have C:x.a= -1:=by simpa[bne,ib] using C
   refine vt (az ?_);refine SS ?_;refine aa (bJ (w9 (n0:=2) rfl) (aI (d:=aP []) rfl ?_));exact congrArg aP (by unfold dT;rw[if_neg (by simp[h1]),if_pos h2,if_neg (by simp[C])])
 have h2:¬ x.kind=3:=by simpa using h2
 refine ws ?_;refine ab ?_;refine aa (aO rfl (fun C=>?_) fun C=>?_)
 .have C:x.kind=5:=by simpa using C
  have A7:=A7 (x:=x.ins) (hx C);refine ws ?_;refine ab ?_;refine cl A7 ?_;refine SS ?_;refine aa (bH (eB (bE (aI (d:=aP (ed x.ins)) rfl ?_))));exact congrArg aP (by unfold dT;rw[if_neg (by simp[h1]),if_neg h2,if_pos C])
 have C:¬ x.kind=5:=by simpa using C
 refine iz (fun s=>aJ prog s ⟨ay [(1,.pt (bD x)),(4,U8 x.kind),(25,B (bO [6,7] x.kind))],fun _=>none,1⟩) (aj ?_) fun s hg=>⟨_,hg,?_⟩
 .refine ab ?_;refine aa (aO rfl (fun h=>cI ?_) fun e6=>sd ?_)
  .have h:x.kind=6:=by simpa using h
   refine au ⟨rfl,rfl,?_,trivial⟩;show D.s (.bool (x.kind==6))=_;rw[h];rfl
  refine ab ?_;refine aa ?_;refine au ⟨rfl,rfl,?_,trivial⟩;show D.s (.bool (x.kind==7))=_;simp[bO,e6]
 refine aO rfl (fun J=>?_) fun J=>?_
 .have U:x.kind=6\/x.kind=7:=by simpa[bO] using J
  have rF:=rF (l:=x.args) (by have:=hy U;omega);refine ws ?_;refine ab ?_;refine cl rF ?_;refine SS ?_;refine aa (bH (eB (bE (aI (d:=aP x.args) rfl ?_))));exact congrArg aP (by unfold dT;rw[if_neg (by simp[h1]),if_neg h2,if_neg C,if_pos J])
 refine vt (az ?_);refine SS ?_;refine aa (bJ (w9 (n0:=2) rfl) (aI (d:=aP []) rfl ?_));exact congrArg aP (by unfold dT;rw[if_neg (by simp[h1]),if_neg h2,if_neg C,if_neg (by simp[J])])
end Go.Proofs.Tryz.K
end
namespace Go.Abs
instance(d:D):Decidable d.ask:=match d with
 | .cq c _=>inferInstanceAs (Decidable (c=true))
 | .u | .s _ | .ub | .agg _ | .aL _ | .z | .sl _ _ | .sc _ _ | .pt _ | .rs _ _ _ | .rp _ _ | .mp _ | .im _ | .fn _ _ _=>isTrue trivial
structure eY where
 pre:Prop
 [dec:Decidable pre]
 val:D
 aQ:List (Nat×Option Row):=[]
 rd:List Nat:=[]
 new:Nat:=0
structure PD(α:Type) where
 p:Prop
 [dec:Decidable p]
 d:α
def eY.ir(e:eY):du:=⟨e.pre,e.val,e.aQ,e.rd,e.new⟩
def GI(op:BinOp)(x y:Value):Option (PD Value):=
 match op,x,y with
 | .shl,.int k a,.int _ b=>some ⟨0<=b,.int k (k.wrap (a*2 ^ (min b.toNat k.bits)))⟩
 | .shr,.int k a,.int _ b=>some ⟨0<=b,.int k (a.fdiv (2 ^ (min b.toNat k.bits)))⟩
 | .add,.int k a,.int k' b=>some ⟨k=k',.int k (k.wrap (a+b))⟩
 | .sub,.int k a,.int k' b=>some ⟨k=k',.int k (k.wrap (a - b))⟩
 | .mul,.int k a,.int k' b=>some ⟨k=k',.int k (k.wrap (a*b))⟩
 | .quo,.int k a,.int k' b=>some ⟨k=k'/\b≠0,.int k (k.wrap (a.tdiv b))⟩
 | .rem,.int k a,.int k' b=>some ⟨k=k'/\b≠0,.int k (a.tmod b)⟩
 | .and,.int k a,.int k' b=>some ⟨k=k',.int k (lA .and k a b)⟩
 | .or,.int k a,.int k' b=>some ⟨k=k',.int k (lA .or k a b)⟩
 | .xor,.int k a,.int k' b=>some ⟨k=k',.int k (lA .xor k a b)⟩
 | .andNot,.int k a,.int k' b=>some ⟨k=k',.int k (lA .andNot k a b)⟩
 | .eql,.int k a,.int k' b=>some ⟨k=k',.bool (a==b)⟩
 | .neq,.int k a,.int k' b=>some ⟨k=k',.bool (a !=b)⟩
 | .lss,.int k a,.int k' b=>some ⟨k=k',.bool (decide (a<b))⟩
 | .leq,.int k a,.int k' b=>some ⟨k=k',.bool (decide (a<=b))⟩
 | .gtr,.int k a,.int k' b=>some ⟨k=k',.bool (decide (b<a))⟩
 | .geq,.int k a,.int k' b=>some ⟨k=k',.bool (decide (b<=a))⟩
 | .eql,.string a,.string b=>some ⟨True,.bool (a.toList==b.toList)⟩
 | .neq,.string a,.string b=>some ⟨True,.bool !(a.toList==b.toList)⟩
 | .lss,.string a,.string b=>some ⟨True,.bool (Op.bytesLess a.toList b.toList)⟩
 | .geq,.string a,.string b=>some ⟨True,.bool !(Op.bytesLess a.toList b.toList)⟩
 |_,_,_=>none
def JE(P:Program)(op:BinOp)(t:TypeId)(xs ys:List D):Option (PD D):=
 match op,vD P t,om xs ys with
 | .eql,some ks,some q=>some ⟨q.1.map jz=ks/\P.eqGuardType P.depth t=false,.s (.bool (gJ q.1 q.2))⟩
 | .neq,some ks,some q=>some ⟨q.1.map jz=ks/\P.eqGuardType P.depth t=false,.s (.bool !(gJ q.1 q.2))⟩
 |_,_,_=>none
def KN(P:Program)(op:BinOp)(t:TypeId)(x y:D):Option (PD D):=
 match x,y with
 | .s (.bool a),.s (.bool b)=>match op with
  | .eql=>some ⟨wB P t=true,.s (.bool (a==b))⟩
  | .neq=>some ⟨wB P t=true,.s (.bool !(a==b))⟩
  |_=>none
 | .s a,.s b=>(GI op a b).map fun r=> @PD.mk _ r.p r.dec (.s r.d)
 | .agg xs,.agg ys=>JE P op t xs ys
 |_,_=>none
def GJ(P:Program)(m:Mem)(op:BinOp)(t:TypeId)(x:D)(y:Operand):Option eY:=
 match y,op,x with
 | .const (.slice none 0 0),.eql,.sl _ n=>some { pre:=bh P t=true,val:=if n=0 then .ub else .s (.bool false) }
 | .const (.pointer none),.eql,.rp i _=>match m i with
  |some _=>some { pre:=wC P t=true,val:=.s (.bool false),rd:=[i] }
  |none=>none
 | .const (.pointer none),.neq,.rp i _=>match m i with
  |some _=>some { pre:=wC P t=true,val:=.s (.bool true),rd:=[i] }
  |none=>none
 |_,_,_=>none
def KO(P:Program)(m:Mem)(t:TypeId):D->Option eY
 | .sl _ n=>some { pre:=bh P t=true,val:=.s (.int .i64 n) }
 | .rs i _ n=>match m i with
  |some _=>some { pre:=bh P t=true,val:=.s (.int .i64 n),rd:=[i] }
  |none=>none
 | .z=>some { pre:=bh P t=true,val:=.s (.int .i64 0) }
 | .s (.string b)=>some { pre:=fN P t=true,val:=.s (.int .i64 b.size) }
 | .agg _=>some { pre:=nM P t=true,val:=.s (.int .i64 (oi P t)) }
 |_=>none
def Ez(m:Mem)(sz:Nat):D->Option (PD (List Nat×Nat×List D))
 | .sl es n=>some ⟨n*sz<=es.length,([],n,es.take (n*sz))⟩
 | .z=>some ⟨True,([],0,[])⟩
 | .rs i off n=>match m i with
  |some (.cells cs _)=>some ⟨off+n*sz<=cs.length,([i],n,(cs.drop off).take (n*sz))⟩
  |_=>none
 |_=>none
def Jd(P:Program)(m:Mem)(nx:Nat)(t:TypeId)(s x:D):Option eY:=
 let e:=aD P t
 let sz:=P.cellsOf e
 match Ez m sz x with
 |none=>none
 |some (@PD.mk _ p _ (rd,k,news))=>
  match s with
  | .z=>some { pre:=bh P t=true/\p/\0<sz/\k<=maxLen/\k*P.bytesOf e<=140737488355328,val:=.rs nx 0 k,aQ:=[(nx,some (.cells news e))],rd:=rd,new:=1 }
  | .rs i off n=>match m i with
   |some (.cells cs e')=>some { pre:=bh P t=true/\e'=e/\p/\0<sz/\off+n*sz=cs.length/\n+k<=maxLen/\(n+k)*P.bytesOf e<=140737488355328/\i∉rd,val:=.rs nx 0 (n+k),aQ:=[(i,none),(nx,some (.cells (cs.drop off++news) e))],rd:=i::rd,new:=1 }
   |_=>none
  |_=>none
def Je(P:Program)(m:Mem)(t:TypeId)(x k:D)(ok:Bool):Option eY:=match pX k,x with
 |some key,.mp i=>match m i with
  |some (.map es)=>some { pre:=fK P t=true/\cE P (eE P t) key=true/\es.all (fun e=>cE P (eE P t) e.1)=true,val:=fy P t ok (cM key es),rd:=[i] }
  |_=>none
 |some key,.im es=>some { pre:=fK P t=true/\cE P (eE P t) key=true/\es.all (fun e=>cE P (eE P t) e.1)=true,val:=fy P t ok (cM key es) }
 |some key,.s (.map none)=>some { pre:=fK P t=true/\cE P (eE P t) key=true,val:=fy P t ok none }
 |_,_=>none
def E3(P:Program)(m:Mem)(t:TypeId)(x k v:D):Option eY:=match pX k,x with
 |some key,.mp i=>match m i with
  |some (.map es)=>some { pre:=fK P t=true/\cE P (eE P t) key=true/\es.all (fun e=>cE P (eE P t) e.1)=true,val:=.aL [],aQ:=[(i,some (.map (fX key v es)))],rd:=[i] }
  |_=>none
 |_,_=>none
def Jf(P:Program)(m:Mem)(t:TypeId)(x k:D):Option eY:=match pX k,x with
 |some key,.mp i=>match m i with
  |some (.map es)=>some { pre:=fK P t=true/\cE P (eE P t) key=true/\es.all (fun e=>cE P (eE P t) e.1)=true,val:=.aL [],aQ:=[(i,some (.map (sw key es)))],rd:=[i] }
  |_=>none
 |_,_=>none
def EM(P:Program)(m:Mem)(nx:Nat)(b:Builtin)(ts:Array TypeId)(args:List D):Option eY:=
 match b,args with
 | .len,[x]=>KO P m (ts.getD 0 0) x
 | .append,[s,x]=>if ts.getD 0 0=ts.getD 1 0 then Jd P m nx (ts.getD 0 0) s x else none
 | .min,[.s (.int k a),.s (.int k' b)]=>some { pre:=k=k',val:=.s (.int k (if b<a then b else a)) }
 | .clear,[.rs i off n]=>match m i with
  |some (.cells cs e)=>some { pre:=bh P (ts.getD 0 0)=true/\off+n*P.cellsOf e<=cs.length/\e=aD P (ts.getD 0 0),val:=.aL [],aQ:=[(i,some (.cells (gB cs off (dx n (a8 P e))) e))],rd:=[i] }
  |_=>none
 | .delete,[x,k]=>Jf P m (ts.getD 0 0) x k
 |_,_=>none
def JF(P:Program)(m:Mem)(t:TypeId)(x:D)(lo hi C:Option D):Option eY:=
 match x with
 | .sl es n=>match dW lo 0,dW hi n,C with
  |some l,some h,none=>some { pre:=bh P t=true/\0<=l/\l<=h/\h<=n,val:=.sl ((es.drop (l.toNat*P.cellsOf (aD P t))).take ((h - l).toNat*P.cellsOf (aD P t))) (h - l).toNat }
  |some l,some h,some d=>match d.int? with
   |some k=>some { pre:=bh P t=true/\hi.isSome=true/\0<=l/\l<=h/\h<=k/\k<=n,val:=.sl ((es.drop (l.toNat*P.cellsOf (aD P t))).take ((h - l).toNat*P.cellsOf (aD P t))) (h - l).toNat }
   |none=>none
  |_,_,_=>none
 | .rs i off n=>match m i with
  |some (.cells _ e)=>match dW lo 0,dW hi n,C with
   |some l,some h,none=>some { pre:=(bh P t=true/\P.cellsOf e=P.cellsOf (aD P t))/\0<=l/\l<=h/\h<=n,val:=.rs i (off+l.toNat*P.cellsOf (aD P t)) (h - l).toNat,rd:=[i] }
   |_,_,_=>none
  |_=>none
 | .s (.string b)=>match dW lo 0,dW hi b.size,C with
  |some l,some h,none=>some { pre:=fN P t=true/\0<=l/\l<=h/\h<=b.size,val:=.s (.string (b.extract l.toNat h.toNat)) }
  |_,_,_=>none
 |_=>none
def jC(P:Program)(o:Op)(ρ:Operand->D)(m:Mem)(nx:Nat):Option eY:=
 match o with
 | .move x=>some { pre:=True,val:=ρ x }
 | .assign x=>some { pre:=True,val:=ρ x }
 | .pick c a b=>match (ρ c).core.eX with
  |some t=>some { pre:=(t=true->(ρ a).ask/\(ρ a).core.eX.isSome=true)/\(t=false->(ρ b).ask/\(ρ b).core.eX.isSome=true),val:=.s (.bool (if t then(ρ a).core.eX.getD false else(ρ b).core.eX.getD false)) }
  |none=>none
 | .alloc t=>some { pre:=aG P t=true,val:=.rp nx 0,aQ:=[(nx,some (.cells (a8 P t) t))],new:=1 }
 | .box t x=>some { pre:=(ρ x).cells.all D.one=true,val:=.rp nx 0,aQ:=[(nx,some (.cells (ρ x).cells t))],new:=1 }
 | .build t ps=>match P.underlying t with
  |some (.struct fs)=>(gF (fun i=>(fs[i]?).map fun f=>(f.offset,P.cellsOf f.type)) (a8 P t) (ps.toList.map fun q=>(q.1,ρ q.2))).map fun cs=>{ pre:=aG P t=true/\fs.toList.all (fun f=>(P.info? f.type).isSome)=true,val:=.agg cs }
  |some (.array _ e)=>(gF (fun i=>some (i*P.cellsOf e,P.cellsOf e)) (a8 P t) (ps.toList.map fun q=>(q.1,ρ q.2))).map fun cs=>{ pre:=aG P t=true/\aG P e=true,val:=.agg cs }
  |_=>none
 | .buildSlice t n ps=>(gF (fun i=>some (i*P.cellsOf (aD P t),P.cellsOf (aD P t))) (dx n (a8 P (aD P t))) (ps.toList.map fun q=>(q.1,ρ q.2))).map fun cs=>
   { pre:=cs.all D.one=true/\n*P.cellsOf (aD P t)<=2 ^ 24/\bh P t=true/\n<=maxLen,val:=.rs nx 0 n,aQ:=[(nx,some (.cells cs (aD P t)))],new:=1 }
 | .load t a=>match ρ a with
  | .pt cs=>some { pre:=aG P t=true/\P.cellsOf t<=cs.length,val:=gE P t cs }
  | .rp i off=>match m i with
   |some (.cells cs _)=>some { pre:=aG P t=true/\off+P.cellsOf t<=cs.length,val:=gE P t (cs.drop off),rd:=[i] }
   |_=>none
  |_=>none
 | .store t a x=>match ρ a with
  | .rp i off=>match m i with
   |some (.cells cs e)=>some { pre:=aG P t=true/\(ρ x).cells.length=P.cellsOf t/\off+P.cellsOf t<=cs.length/\(ρ x).cells.all D.one=true,val:=.aL [],aQ:=[(i,some (.cells (gB cs off (ρ x).cells) e))],rd:=[i] }
   |_=>none
  |_=>none
 | .nilCheck x=>match ρ x with
  | .pt cs=>some { pre:=True,val:=.pt cs }
  | .rp i off=>match m i with
   |some _=>some { pre:=True,val:=.rp i off,rd:=[i] }
   |none=>none
  |_=>none
 | .binOp op t x y _=>match GJ P m op t (ρ x) y with
  |some e=>some e
  |none=>(KN P op t (ρ x) (ρ y)).map fun r=> @eY.mk r.p r.dec r.d [] [] 0
 | .unOp op _ x=>match ρ x with
  | .s v=>(yO op v).map fun r=>{ pre:=True,val:=.s r }
  |_=>none
 | .convert src dst x=>match P.underlying dst,ρ x with
  |some (.int k),.s (.int _ n)=>some { pre:=aG P src=true,val:=.s (.int k (k.wrap n)) }
  |some (.slice e),.s (.string b)=>match P.underlying e with
   |some (.int .u8)=>some { pre:=fN P src=true/\b.size<=maxLen,val:=.sl (b.data.toList.map fun c=>.s (.int .u8 c.toNat)) b.size }
   |_=>none
  |_,_=>none
 | .makeFunc f fs cs=>some { pre:=True,val:=.fn f (fs.toList.map ρ) (cs.toList.map ρ) }
 | .makeMap _ r=>match r with
  |none=>some { pre:=True,val:=.mp nx,aQ:=[(nx,some (.map []))],new:=1 }
  |some _=>none
 | .makeSlice t l c=>match ρ l,ρ c with
  | .s (.int .i64 n),.s (.int .i64 k)=>some { pre:=0<=n/\n=k/\n<=9223372036854775807/\P.bytesOf (aD P t)*n<=281474976710656/\bh P t=true,val:=.rs nx 0 n.toNat,aQ:=[(nx,some (.cells (dx n.toNat (a8 P (aD P t))) (aD P t)))],new:=1 }
  |_,_=>none
 | .lookup t x k ok=>Je P m t (ρ x) (ρ k) ok
 | .mapUpdate t x k v=>E3 P m t (ρ x) (ρ k) (ρ v)
 | .insert t x k v=>E3 P m t (ρ x) (ρ k) (ρ v)
 | .slice t x lo hi C=>JF P m t (ρ x) (lo.map ρ) (hi.map ρ) (C.map ρ)
 | .fieldAddr t x k=>match bV P t k,ρ x with
  |some (off,ft),.pt cs=>some { pre:=0<P.cellsOf ft,val:=.pt (cs.drop off) }
  |some (off,ft),.rp i o=>match m i with
   |some _=>some { pre:=0<P.cellsOf ft,val:=.rp i (o+off),rd:=[i] }
   |none=>none
  |_,_=>none
 | .field t x k=>match bV P t k,ρ x with
  |some (off,ft),.agg cs=>some { pre:=aG P ft=true/\off+P.cellsOf ft<=cs.length,val:=gE P ft (cs.drop off) }
  |_,_=>none
 | .indexAddr t x i=>match ρ x,ρ i with
  | .sl es n,.s (.int _ k)=>some { pre:=bh P t=true/\0<=k/\k<n/\(k.toNat+1)*P.cellsOf (aD P t)<=es.length,val:=.pt (es.drop (k.toNat*P.cellsOf (aD P t))) }
  | .rs j off n,.s (.int _ k)=>match m j with
   |some _=>some { pre:=bh P t=true/\0<=k/\k<n,val:=.rp j (off+k.toNat*P.cellsOf (aD P t)),rd:=[j] }
   |none=>none
  | .rp j off,.s (.int _ k)=>match m j with
   |some _=>some { pre:=nM P t=true/\0<=k/\k<oi P t,val:=.rp j (off+k.toNat*P.cellsOf (aD P t)),rd:=[j] }
   |none=>none
  |_,_=>none
 | .index t x i=>match ρ x,ρ i with
  | .s (.string b),.s (.int _ k)=>some { pre:=fN P t=true/\0<=k/\k<b.size,val:=.s (.int .u8 (b.data.toList.getD k.toNat 0).toNat) }
  | .agg cs,.s (.int _ k)=>some { pre:=nM P t=true/\0<=k/\k<oi P t/\(k.toNat+1)*P.cellsOf (aD P t)<=cs.length,val:=gE P (aD P t) (cs.drop (k.toNat*P.cellsOf (aD P t))) }
  |_,_=>none
 | .extract x k=>match ρ x with
  | .aL cs=>some { pre:=k<cs.length,val:=cs.getD k .u }
  |_=>none
 | .call c=>match c.callee with
  | .builtin b=>if c.argTypes.size=c.args.size then EM P m nx b c.argTypes (c.args.toList.map ρ) else none
  |_=>none
 |_=>none
theorem aag(op:BinOp)(x y:Value):q6 op x y=(GI op x y).map fun r=>(r.p,r.d):=by
 cases op<;>cases x<;>first|rfl|(cases y<;>rfl)
theorem XC(P:Program)(op:BinOp)(t:TypeId)(xs ys:List D):xv P op t xs ys=(JE P op t xs ys).map fun r=>(r.p,r.d):=by
 unfold xv JE;cases op<;>first|rfl|skip
 all_goals cases vD P t<;>first|rfl|skip
 all_goals cases om xs ys<;>rfl
theorem aah(P:Program)(op:BinOp)(t:TypeId)(x y:D):vS P op t x y=(KN P op t x y).map fun r=>(r.p,r.d):=by
 have hs:∀ a b,(q6 op a b).map (fun r=>(r.1,D.s r.2))=((GI op a b).map fun r=> @PD.mk _ r.p r.dec (D.s r.d)).map fun r=>(r.p,r.d):=fun a b=>by
  rw[aag];cases GI op a b<;>rfl
 cases x with
 |s a=>
  cases y with
  |s b=>
   cases a with
   |bool a=>
    cases b with
    |bool b=>cases op<;>rfl
    |_=>exact hs _ _
   |_=>exact hs _ _
  |_=>cases a<;>rfl
 |agg xs=>
  cases y with
  |agg ys=>exact XC P op t xs ys
  |_=>rfl
 |_=>rfl
theorem aai(P:Program)(m:Mem)(op:BinOp)(t:TypeId)(x:D)(y:Operand):mH P m op t x y=(GJ P m op t x y).map eY.ir:=by
 unfold mH GJ;split<;>split<;>simp_all[eY.ir]
 all_goals split<;>simp_all[eY.ir]
theorem aaj(P:Program)(m:Mem)(t:TypeId)(x:D):nB P m t x=(KO P m t x).map eY.ir:=by
 unfold nB KO;split<;>first|rfl|skip
 all_goals split<;>simp_all[eY.ir]
theorem Wo(m:Mem)(sz:Nat)(x:D):jq m sz x=(Ez m sz x).map fun r=>(r.p,r.d):=by
 unfold jq Ez;split<;>first|rfl|skip
 all_goals split<;>simp_all
theorem W2(P:Program)(m:Mem)(nx:Nat)(t:TypeId)(s x:D):qI P m nx t s x=(Jd P m nx t s x).map eY.ir:=by
 unfold qI Jd;simp only[Wo];cases Ez m (P.cellsOf (aD P t)) x with
 |none=>rfl
 |some r=>
  obtain⟨p,rd,k,news⟩:=r;simp only[Option.map_some];split<;>first|rfl|skip
  all_goals split<;>simp_all[eY.ir]
theorem W3(P:Program)(m:Mem)(t:TypeId)(x k:D)(ok:Bool):n1 P m t x k ok=(Je P m t x k ok).map eY.ir:=by
 unfold n1 Je;split<;>first|rfl|skip
 all_goals split<;>simp_all[eY.ir]
theorem N8(P:Program)(m:Mem)(t:TypeId)(x k v:D):nd P m t x k v=(E3 P m t x k v).map eY.ir:=by
 unfold nd E3;split<;>first|rfl|skip
 all_goals split<;>simp_all[eY.ir]
theorem W4(P:Program)(m:Mem)(t:TypeId)(x k:D):rQ P m t x k=(Jf P m t x k).map eY.ir:=by
 unfold rQ Jf;split<;>first|rfl|skip
 all_goals split<;>simp_all[eY.ir]
theorem WH(P:Program)(m:Mem)(nx:Nat)(b:Builtin)(ts:Array TypeId)(args:List D):fE P m nx b ts args=(EM P m nx b ts args).map eY.ir:=by
 cases b with
 |len=>
  match args with
  |[]=>rfl
  |[x]=>exact aaj _ _ _ _
  |_::_::_=>rfl
 |append=>
  match args with
  |[]=>rfl
  |[x]=>rfl
  |[s,x]=>
   simp only[fE,EM];split
   .exact W2 _ _ _ _ _ _
   .rfl
  |_::_::_::_=>rfl
 |min=>
  match args with
  |[]=>rfl
  |[x]=>
   cases x with
   |s a=>cases a<;>rfl
   |_=>rfl
  |[x,y]=>
   cases x with
   |s a=>
    cases a with
    |int k a=>
     cases y with
     |s b=>cases b<;>rfl
     |_=>rfl
    |_=>rfl
   |_=>rfl
  |x::y::_::_=>
   cases x with
   |s a=>
    cases a with
    |int k a=>
     cases y with
     |s b=>cases b<;>rfl
     |_=>rfl
    |_=>rfl
   |_=>rfl
 |clear=>
  match args with
  |[]=>rfl
  |[x]=>
   cases x with
   |rs i off n=>
    simp only[fE,EM];cases m i with
    |none=>rfl
    |some r=>cases r<;>rfl
   |_=>rfl
  |x::_::_=>cases x<;>rfl
 |delete=>
  match args with
  |[]=>rfl
  |[x]=>rfl
  |[x,k]=>exact W4 _ _ _ _ _
  |_::_::_::_=>rfl
 |_=>rfl
theorem XD(P:Program)(m:Mem)(t:TypeId)(x:D)(lo hi C:Option D):mw P m t x lo hi C=(JF P m t x lo hi C).map eY.ir:=by
 unfold mw JF;cases x with
 |sl es n=>
  simp only;cases dW lo 0<;>first|rfl|skip
  cases dW hi n<;>first|rfl|skip
  cases C with
  |none=>rfl
  |some d=>
   simp only;cases d.int? <;>rfl
 |rs i off n=>
  simp only;cases m i with
  |none=>rfl
  |some r=>
   cases r<;>first|rfl|skip
   simp only;cases dW lo 0<;>first|rfl|skip
   cases dW hi n<;>first|rfl|skip
   cases C<;>rfl
 |s v=>
  cases v<;>first|rfl|skip
  simp only;cases dW lo 0<;>first|rfl|skip
  rename_i b _;cases dW hi b.size<;>first|rfl|skip
  cases C<;>rfl
 |_=>rfl
theorem Q5(P:Program)(o:Op)(ρ:Operand->D)(m:Mem)(nx:Nat):bf P o ρ m nx=(jC P o ρ m nx).map eY.ir:=by
 cases o with
 |call c=>
  simp only[bf,jC];cases c.callee with
  |builtin b=>
   simp only;split
   .exact WH _ _ _ _ _ _
   .rfl
  |_=>rfl
 |binOp op t x y _=>
  simp only[bf,jC,aai,aah];cases GJ P m op t (ρ x) y with
  |some e=>rfl
  |none=>
   cases KN P op t (ρ x) (ρ y) with
   |some r=>rfl
   |none=>rfl
 |lookup t x k ok=>exact W3 _ _ _ _ _ _
 |mapUpdate t x k v=>exact N8 _ _ _ _ _ _
 |insert t x k v=>exact N8 _ _ _ _ _ _
 |slice t x lo hi J=>exact XD _ _ _ _ _ _ _
 |build t ps=>
  simp only[bf,jC];cases P.underlying t with
  |none=>rfl
  |some u=>
   cases u with
   |struct fs=>simp only;cases gF _ _ _<;>rfl
   |array n e=>simp only;cases gF _ _ _<;>rfl
   |_=>rfl
 |buildSlice t n ps=>
  simp only[bf,jC];cases gF _ _ _<;>rfl
 |unOp op t x=>
  simp only[bf,jC];cases ρ x with
  |s v=>simp only;cases yO op v<;>rfl
  |_=>rfl
 |load t a=>
  simp only[bf,jC];cases ρ a with
  |rp i off=>simp only;cases m i with
   |none=>rfl
   |some r=>cases r<;>rfl
  |_=>rfl
 |store t a x=>
  simp only[bf,jC];cases ρ a with
  |rp i off=>simp only;cases m i with
   |none=>rfl
   |some r=>cases r<;>rfl
  |_=>rfl
 |pick c a b=>
  simp only[bf,jC];cases (ρ c).core.eX <;>rfl
 |nilCheck x=>
  simp only[bf,jC];cases ρ x with
  |rp i off=>simp only;cases m i<;>rfl
  |_=>rfl
 |makeMap t r=>cases r<;>rfl
 |makeSlice t l c=>
  simp only[bf,jC];cases ρ l with
  |s v=>
   cases v with
   |int k n=>
    cases k with
    |i64=>
     cases ρ c with
     |s v=>cases v with
      |int k n=>cases k<;>rfl
      |_=>rfl
     |_=>rfl
    |_=>rfl
   |_=>rfl
  |_=>rfl
 |convert src dst x=>
  simp only[bf,jC];cases P.underlying dst with
  |none=>rfl
  |some u=>
   cases u with
   |int k=>cases ρ x with
    |s v=>cases v<;>rfl
    |_=>rfl
   |slice e=>cases ρ x with
    |s v=>cases v with
     |string b=>
      simp only;cases P.underlying e with
      |none=>rfl
      |some u=>
       cases u with
       |int k=>cases k<;>rfl
       |_=>rfl
     |_=>rfl
    |_=>rfl
   |_=>rfl
 |fieldAddr t x k=>
  simp only[bf,jC];cases bV P t k with
  |none=>rfl
  |some q=>
   obtain⟨off,C⟩:=q;cases ρ x with
   |rp i o=>simp only;cases m i<;>rfl
   |_=>rfl
 |field t x k=>
  simp only[bf,jC];cases bV P t k with
  |none=>rfl
  |some q=>
   obtain⟨off,C⟩:=q;cases ρ x<;>rfl
 |indexAddr t x i=>
  simp only[bf,jC];cases ρ x with
  |sl es n=>cases ρ i with
   |s v=>cases v<;>rfl
   |_=>rfl
  |rs j off n=>cases ρ i with
   |s v=>cases v with
    |int k n=>simp only;cases m j<;>rfl
    |_=>rfl
   |_=>rfl
  |rp j off=>cases ρ i with
   |s v=>cases v with
    |int k n=>simp only;cases m j<;>rfl
    |_=>rfl
   |_=>rfl
  |_=>rfl
 |index t x i=>
  simp only[bf,jC];cases ρ x with
  |s v=>cases v with
   |string b=>cases ρ i with
    |s v=>cases v<;>rfl
    |_=>rfl
   |_=>rfl
  |agg cs=>cases ρ i with
   |s v=>cases v<;>rfl
   |_=>rfl
  |_=>rfl
 |extract x k=>
  simp only[bf,jC];cases ρ x<;>rfl
 |_=>rfl
inductive T(α:Type) where
 |leaf
 |node (v:Option α) (l r:T α)
def T.get{α:Type}:T α->Nat->Option α
 | .leaf,_=>none
 | .node v l r,i=>bif Nat.beq i 0 then v else bif Nat.beq (i % 2) 1 then l.get (i / 2) else r.get (i / 2 - 1)
def T.set{α:Type}:Nat->T α->Nat->Option α->T α
 |0,t,_,_=>t
 |f+1,.leaf,i,v=>bif Nat.beq i 0 then .node v .leaf .leaf else bif Nat.beq (i % 2) 1 then .node none (T.set f .leaf (i / 2) v) .leaf else .node none .leaf (T.set f .leaf (i / 2 - 1) v)
 |f+1,.node v0 l r,i,v=>bif Nat.beq i 0 then .node v l r else bif Nat.beq (i % 2) 1 then .node v0 (T.set f l (i / 2) v) r else .node v0 l (T.set f r (i / 2 - 1) v)
theorem T.tl{α:Type}(v:Option α)(l r:T α)(i:Nat):(T.node v l r).get i=if i=0 then v else if i % 2=1 then l.get (i / 2) else r.get (i / 2 - 1):=by
 simp only[T.get,Bool.cond_eq_ite,Nat.beq_eq]
theorem T.Ck{α:Type}(v:Option α):∀ (f:Nat) (t:T α) (i j:Nat),i+1<2 ^ f->(T.set f t i v).get j=if j=i then v else t.get j
 |0,t,i,j,h=>by simp at h
 |f+1,t,i,j,h=>by
  have h2:2 ^ (f+1)=2*2 ^ f:=by rw[Nat.pow_succ];omega
  have U:i % 2=1->i / 2+1<2 ^ f:=fun _=>by omega
  have X:i≠0->i % 2≠1->i / 2 - 1+1<2 ^ f:=fun _ _=>by omega
  have M:∀ k,(T.leaf:T α).get k=none:=fun k=>rfl;cases t with
  |leaf=>
   simp only[T.set,Bool.cond_eq_ite,Nat.beq_eq];by_cases h0:i=0
   .subst h0;simp only[if_true,T.tl,M];by_cases hj:j=0<;>simp[hj]
   .rw[if_neg h0];by_cases h1:i % 2=1
    .rw[if_pos h1,T.tl,T.Ck v f _ _ _ (U h1)];simp only[M];by_cases hj:j=i
     .subst hj;simp[h0,h1]
     .rw[if_neg hj];by_cases J:j=0
      .rw[if_pos J]
      .rw[if_neg J];by_cases C:j % 2=1
       .rw[if_pos C,if_neg oG]
       .rw[if_neg C]
    .rw[if_neg h1,T.tl,T.Ck v f _ _ _ (X h0 h1)];simp only[M];by_cases hj:j=i
     .subst hj;simp[h0,h1]
     .rw[if_neg hj];by_cases J:j=0
      .rw[if_pos J]
      .rw[if_neg J];by_cases C:j % 2=1
       .rw[if_pos C]
       .rw[if_neg C,if_neg oG]
  |node v0 l r=>
   simp only[T.set,Bool.cond_eq_ite,Nat.beq_eq];by_cases h0:i=0
   .subst h0;simp only[if_true,T.tl];by_cases hj:j=0<;>simp[hj]
   .rw[if_neg h0];by_cases h1:i % 2=1
    .rw[if_pos h1,T.tl,T.tl,T.Ck v f _ _ _ (U h1)];by_cases hj:j=i
     .subst hj;simp[h0,h1]
     .rw[if_neg hj];by_cases J:j=0
      .rw[if_pos J,if_pos J]
      .rw[if_neg J,if_neg J];by_cases C:j % 2=1
       .rw[if_pos C,if_pos C,if_neg oG]
       .rw[if_neg C,if_neg C]
    .rw[if_neg h1,T.tl,T.tl,T.Ck v f _ _ _ (X h0 h1)];by_cases hj:j=i
     .subst hj;simp[h0,h1]
     .rw[if_neg hj];by_cases J:j=0
      .rw[if_pos J,if_pos J]
      .rw[if_neg J,if_neg J];by_cases C:j % 2=1
       .rw[if_pos C,if_pos C]
       .rw[if_neg C,if_neg C,if_neg oG]
def T.put{α:Type}(t:T α)(i:Nat)(v:Option α):Option (T α):=bif Nat.blt i 1000000 then some (T.set 20 t i v) else none
theorem T.Q6{α:Type}{t C:T α}{i:Nat}{v:Option α}(h:t.put i v=some C)(j:Nat):C.get j=if j=i then v else t.get j:=by
 unfold T.put at h;cases hb:Nat.blt i 1000000 with
 |false=>rw[hb] at h;cases h
 |true=>
  rw[hb] at h;simp only[cond_true,aH] at h;subst h;have:i<1000000:=by simpa using hb
  exact T.Ck v 20 t i j oG
structure cP where
 env:T D
 mem:T Row
 nx:Nat
def dz(t:T D):Env:=fun i=>(t.get i).getD .u
def fY(t:T Row):Mem:=fun i=>t.get i
def cP.st(c:cP):St:=⟨dz c.env,fY c.mem,c.nx⟩
theorem Jg{t C:T D}{i:Nat}{d:D}(h:t.put i (some d)=some C):dz C=up (dz t) i d:=by
 funext j;simp only[dz,T.Q6 h,B5];split<;>rfl
theorem P6{t C:T Row}{i:Nat}{r:Option Row}(h:t.put i r=some C):fY C=up (fY t) i r:=by
 funext j;simp only[fY,T.Q6 h,B5]
def AN(t:T D):Option Nat->D->Option (T D)
 |none,_=>some t
 |some i,d=>t.put i (some d)
def Dt(m:T Row):List (Nat×Option Row)->Option (T Row)
 |[]=>some m
 |(i,r)::us=>match m.put i r with
  |some m'=>Dt m' us
  |none=>none
theorem JG{t C:T D}{dst:Option Nat}{d:D}(h:AN t dst d=some C)(m:Mem)(nx:Nat):(⟨dz C,m,nx⟩:St)=St.put ⟨dz t,m,nx⟩ dst d:=by
 cases dst with
 |none=>simp only[AN,aH] at h;subst h;rfl
 |some i=>simp only[AN] at h;simp only[St.put,Jg h]
theorem P7:∀ {us:List (Nat×Option Row)} {m m':T Row},Dt m us=some m'->fY m'=cC (fY m) us
 |[],m,m',h=>by simp only[Dt,aH] at h;subst h;rfl
 |(i,r)::us,m,m',h=>by
  simp only[Dt] at h;cases hp:m.put i r with
  |none=>rw[hp] at h;cases h
  |some C=>
   rw[hp] at h;simp only at h;rw[P7 h,P6 hp];rfl
def qj:Nat->D->Bool
 |0,_=>false
 |n+1,d=>match d with
  | .rs .. | .rp .. | .mp _ | .sc .. =>false
  | .cq _ d=>qj n d
  | .agg cs | .aL cs | .pt cs | .sl cs _=>cs.all (qj n)
  | .fn _ fs cs=>fs.all (qj n)&&cs.all (qj n)
  | .im es=>es.all fun x=>qj n x.2
  |_=>true
section
variable{P:Program}{F:Nat->Prop}{β:aC}{w:World}
theorem pD:∀ {n:Nat} {d:D},qj n d=true->Tr d
 |0,_,h=>by cases h
 |n+1,d,h=>by
  cases d with
  |rs=>cases h
  |rp=>cases h
  |mp=>cases h
  |sc=>cases h
  |cq c d=>exact .cq (pD h)
  |agg cs=>exact .agg fun d hd=>pD (bQ.1 h d hd)
  |aL cs=>exact .aL fun d hd=>pD (bQ.1 h d hd)
  |sl cs n=>exact .sl fun d hd=>pD (bQ.1 h d hd)
  |pt cs=>exact .pt fun d hd=>pD (bQ.1 h d hd)
  |fn f fs cs=>
   simp only[qj,bc] at h;exact .fn (fun d hd=>pD (bQ.1 h.1 d hd)) fun d hd=>pD (bQ.1 h.2 d hd)
  |im es=>exact .im fun x hx=>pD (bQ.1 h x hx)
  |s v=>exact .s v
  |ub=>exact .ub
  |u=>exact .u
  |z=>exact .z
def gW{α β:Type}(f:α->Option (β×List Nat)):List α->Option (List β×List Nat)
 |[]=>some ([],[])
 |x::xs=>match f x with
  |none=>none
  |some y=>match gW f xs with
   |none=>none
   |some ys=>some (y.1::ys.1,y.2++ys.2)
theorem EN{α β:Type}{f:α->Option (β×List Nat)}:∀ {xs:List α} {ys:List β} {r:List Nat},gW f xs=some (ys,r)->
 ys.length=xs.length/\(∀ (k:Nat) (y:β),ys[k]? =some y->∃ x r',xs[k]? =some x/\f x=some (y,r')/\∀ i∈r',i∈r)
 |[],ys,r,h=>by simp only[gW,aH,bP] at h;obtain⟨rfl,rfl⟩:=h;simp
 |x::xs,ys,r,h=>by
  simp only[gW] at h;cases hx:f x with
  |none=>rw[hx] at h;cases h
  |some y=>
   rw[hx] at h;simp only at h;cases C:gW f xs with
   |none=>rw[C] at h;cases h
   |some J=>
    rw[C] at h;simp only[aH,bP] at h;obtain⟨rfl,rfl⟩:=h;obtain⟨h1,h2⟩:=EN (ys:=J.1) (r:=J.2) C;refine⟨by simp[h1],fun k z hz=>?_⟩;cases k with
    |zero=>
     simp only[List.getElem?_cons_zero,aH] at hz;subst hz;exact⟨x,y.2,rfl,hx,fun i hi=>by simp[hi]⟩
    |succ k=>
     obtain⟨x',r',M,U,X⟩:=h2 k z (by simpa using hz);exact⟨x',r',by simpa using M,U,fun i hi=>by simp[X i hi]⟩
def cB(P:Program)(m:Mem):Nat->D->Option (D×List Nat)
 |0,_=>none
 |n+1,d=>match d with
  | .mp i=>match m i with
   |some (.map es)=>(gW (fun x=>(cB P m n x.2).map fun y=>((x.1,y.1),y.2)) es).map fun x=>(.im x.1,i::x.2)
   |_=>none
  | .im es=>(gW (fun x=>(cB P m n x.2).map fun y=>((x.1,y.1),y.2)) es).map fun x=>(.im x.1,x.2)
  | .rs i off k=>match m i with
   |some (.cells cs e)=>(gW (cB P m n) ((cs.drop off).take (k*P.cellsOf e))).map fun x=>(.sl x.1 k,i::x.2)
   |_=>none
  | .rp i off=>match m i with
   |some (.cells cs _)=>(gW (cB P m n) (cs.drop off)).map fun x=>(.pt x.1,i::x.2)
   |_=>none
  | .cq true d=>(cB P m n d).map fun x=>(.cq true x.1,x.2)
  | .cq false _=>some (.cq false .u,[])
  | .agg cs=>(gW (cB P m n) cs).map fun x=>(.agg x.1,x.2)
  | .aL cs=>(gW (cB P m n) cs).map fun x=>(.aL x.1,x.2)
  | .sl cs k=>(gW (cB P m n) cs).map fun x=>(.sl x.1 k,x.2)
  | .pt cs=>(gW (cB P m n) cs).map fun x=>(.pt x.1,x.2)
  | .fn f fs cs=>match gW (cB P m n) fs with
   |none=>none
   |some x=>(gW (cB P m n) cs).map fun y=>(.fn f x.1 y.1,x.2++y.2)
  | .s v=>some (.s v,[])
  | .ub=>some (.ub,[])
  | .u=>some (.u,[])
  | .z=>some (.z,[])
  | .sc .. =>none
theorem qF{α β:Type}{f:α->Option (β×List Nat)}{xs:List α}{ys:List β}{r:List Nat}(h:gW f xs=some (ys,r)){p:β->Prop}(hp:∀ x y r',f x=some (y,r')->p y):∀ y∈ys,p y:=fun y hy=>by
 obtain⟨k,hk⟩:=dw hy;obtain⟨x,r',_,h2,_⟩:=(EN h).2 k y hk;exact hp x y r' h2
theorem Fs{m:Mem}:∀ {n:Nat} {d d':D} {r:List Nat},cB P m n d=some (d',r)->Tr d'
 |0,_,_,_,h=>by cases h
 |n+1,d,d',r,h=>by
  have ih:∀ x y r',cB P m n x=some (y,r')->Tr y:=fun x y r' h=>Fs h
  have C:∀ (x:Value×D) (y:Value×D) r',(cB P m n x.2).map (fun y=>((x.1,y.1),y.2))=some (y,r')->Tr y.2:=fun x y r' h=>by
   simp only[cO,bP] at h;obtain⟨z,hz,rfl,_⟩:=h;exact Fs (r:=z.2) hz
  cases d with
  |sc=>cases h
  |mp i=>
   simp only[cB] at h;split at h
   .simp only[cO,bP] at h;obtain⟨x,hx,rfl,_⟩:=h;exact .im (qF (ys:=x.1) (r:=x.2) hx C)
   .cases h
  |im es=>
   simp only[cB,cO,bP] at h;obtain⟨x,hx,rfl,_⟩:=h;exact .im (qF (ys:=x.1) (r:=x.2) hx C)
  |rs i off k=>
   simp only[cB] at h;split at h
   .simp only[cO,bP] at h;obtain⟨x,hx,rfl,_⟩:=h;exact .sl (qF (ys:=x.1) (r:=x.2) hx ih)
   .cases h
  |rp i off=>
   simp only[cB] at h;split at h
   .simp only[cO,bP] at h;obtain⟨x,hx,rfl,_⟩:=h;exact .pt (qF (ys:=x.1) (r:=x.2) hx ih)
   .cases h
  |cq c d=>
   cases c with
   |true=>
    simp only[cB,cO,bP] at h;obtain⟨x,hx,rfl,_⟩:=h;exact .cq (Fs (r:=x.2) hx)
   |false=>simp only[cB,aH,bP] at h;obtain⟨rfl,_⟩:=h;exact .cq .u
  |agg cs=>
   simp only[cB,cO,bP] at h;obtain⟨x,hx,rfl,_⟩:=h;exact .agg (qF (ys:=x.1) (r:=x.2) hx ih)
  |aL cs=>
   simp only[cB,cO,bP] at h;obtain⟨x,hx,rfl,_⟩:=h;exact .aL (qF (ys:=x.1) (r:=x.2) hx ih)
  |sl cs k=>
   simp only[cB,cO,bP] at h;obtain⟨x,hx,rfl,_⟩:=h;exact .sl (qF (ys:=x.1) (r:=x.2) hx ih)
  |pt cs=>
   simp only[cB,cO,bP] at h;obtain⟨x,hx,rfl,_⟩:=h;exact .pt (qF (ys:=x.1) (r:=x.2) hx ih)
  |fn f fs cs=>
   simp only[cB] at h;cases hx:gW (cB P m n) fs with
   |none=>rw[hx] at h;cases h
   |some x=>
    rw[hx] at h;simp only[cO,bP] at h;obtain⟨y,hy,rfl,_⟩:=h;exact .fn (qF (ys:=x.1) (r:=x.2) hx ih) (qF (ys:=y.1) (r:=y.2) hy ih)
  |s v=>simp only[cB,aH,bP] at h;obtain⟨rfl,_⟩:=h;exact .s v
  |ub=>simp only[cB,aH,bP] at h;obtain⟨rfl,_⟩:=h;exact .ub
  |u=>simp only[cB,aH,bP] at h;obtain⟨rfl,_⟩:=h;exact .u
  |z=>simp only[cB,aH,bP] at h;obtain⟨rfl,_⟩:=h;exact .z
def Looks(P:Program)(F:Nat->Prop)(β:aC)(w:World)(m:Mem)(rds:List Nat):Prop:=∀ i∈rds,∀ r,m i=some r->∃ p,β i=some p/\cu P F β w r p/\∀ b,p.bG=some b->¬ F b
theorem zy(b:Nat):gz.free b:=fun i p hp=>by cases hp
theorem CE{m:Mem}:∀ {n:Nat} {d d':D} {r:List Nat},cB P m n d=some (d',r)->Looks P F β w m r->∀ {v:Value},R F β w d v->R F gz w d' v
 |0,_,_,_,h,_,_,_=>by cases h
 |n+1,d,d',r,h,hl,v,hv=>by
  have many:∀ {xs ys:List D} {r':List Nat},gW (cB P m n) xs=some (ys,r')->(∀ i∈r',i∈r)->ys.length=xs.length/\∀ (k:Nat) (d:D) (u:Value),ys[k]? =some d->(∀ M,xs[k]? =some M->R F β w M u)->R F gz w d u:=fun h hr=>by
   obtain⟨h1,h2⟩:=EN h;refine⟨h1,fun k d u hd hu=>?_⟩;obtain⟨x,r2,C,J,X⟩:=h2 k d hd;exact CE J (fun i hi=>hl i (hr i (X i hi))) (hu x C)
  have look:∀ {i:Nat} {cs:List D} {e:TypeId},i∈r->m i=some (.cells cs e)->∃ p,β i=some p/\cu P F β w (.cells cs e) p/\∀ b,p.bG=some b->¬ F b:=fun hi hm=>hl _ hi _ hm
  have TV:∀ {es ys:List (Value×D)} {r':List Nat} {ms:Array MapEntry},gW (fun x=>(cB P m n x.2).map fun y=>((x.1,y.1),y.2)) es=some (ys,r')->(∀ i∈r',i∈r)->ms.size=es.length->(es.map (·.1)).Nodup->
   (∀ (k:Nat) (x:Value×D) (m:MapEntry),es[k]? =some x->ms[k]? =some m->m.key=x.1/\R F β w x.2 m.val)->
   ms.size=ys.length/\(ys.map (·.1)).Nodup/\(∀ (k:Nat) (x:Value×D) (m:MapEntry),ys[k]? =some x->ms[k]? =some m->m.key=x.1)/\∀ (k:Nat) (x:Value×D) (m:MapEntry),ys[k]? =some x->ms[k]? =some m->R F gz w x.2 m.val:=fun {es ys r' ms} h hr bA dY hh=>by
   obtain⟨h1,h2⟩:=EN h
   have key:∀ (k:Nat) (y:Value×D),ys[k]? =some y->∃ x r2,es[k]? =some x/\y.1=x.1/\cB P m n x.2=some (y.2,r2)/\∀ i∈r2,i∈r':=fun k y hy=>by
    obtain⟨x,r2,C,J,X⟩:=h2 k y hy;simp only[cO,bP] at J;obtain⟨z,hz,rfl,rfl⟩:=J;exact⟨x,z.2,C,rfl,hz,X⟩
   have keys:ys.map (·.1)=es.map (·.1):=by
    refine List.ext_getElem? fun k=>?_;simp only[List.getElem?_map];cases hy:ys[k]? with
    |some y=>
     obtain⟨x,_,C,J,_⟩:=key k y hy;simp[C,J]
    |none=>
     have:es[k]? =none:=by
      rw[List.getElem?_eq_none_iff] at hy ⊢;omega
     simp[this]
   refine⟨by rw[h1];exact bA,by rw[keys];exact dY,fun k y mm hy fc=>?_,fun k y mm hy fc=>?_⟩
   .obtain⟨x,r2,C,J,_⟩:=key k y hy;rw[J];exact(hh k x mm C fc).1
   .obtain⟨x,r2,C,_,X,g4⟩:=key k y hy;exact CE X (fun i hi=>hl i (hr i (g4 i hi))) (hh k x mm C fc).2
  cases d with
  |sc=>cases h
  |mp i=>
   simp only[cB] at h;split at h
   .rename_i es hm;simp only[cO,bP] at h;obtain⟨x,hx,rfl,rfl⟩:=h;obtain⟨p,hp,ao,oA⟩:=hl i (List.mem_cons_self ..) _ hm;cases hv with
    |yN _ _ h1 _=>rw[h1] at hp;cases hp;exact absurd rfl ao.live
    |mp _ b h1=>
     rw[h1] at hp;cases hp;cases ao with
     |map _ _ ms clock C J X g4=>
      obtain⟨k1,k2,k3,k4⟩:=TV (ys:=x.1) (r':=x.2) hx (fun i hi=>List.mem_cons_of_mem _ hi) J X g4;exact .im x.1 b ms clock (oA b rfl) (zy b) C k1 k2 k3 k4
   .cases h
  |im es=>
   simp only[cB,cO,bP] at h;obtain⟨x,hx,rfl,rfl⟩:=h;cases hv with
   |im _ b ms clock hf hb hc J X g4 g5=>
    obtain⟨k1,k2,k3,k4⟩:=TV (ys:=x.1) (r':=x.2) hx (fun _ h=>h) J X (fun k x m hx hm=>⟨g4 k x m hx hm,g5 k x m hx hm⟩);exact .im x.1 b ms clock hf (zy b) hc k1 k2 k3 k4
  |rs i off k=>
   simp only[cB] at h;split at h
   .rename_i cs e hm;simp only[cO,bP] at h;obtain⟨x,hx,rfl,rfl⟩:=h;obtain⟨p,hp,ao,oA⟩:=look (List.mem_cons_self ..) hm;obtain⟨C,J⟩:=many (ys:=x.1) (r':=x.2) hx (fun i hi=>List.mem_cons_of_mem _ hi)
    have nil:(cs.drop off).take (k*P.cellsOf e)=[]->x.1=[]:=fun e=>by
     rw[e] at C;exact List.eq_nil_of_length_eq_zero (by simpa using C)
    cases hv with
    |kF _ _ _ _ h1 _=>
     rw[h1] at hp;cases hp;exact absurd rfl ao.live
    |iH _ a h1=>
     rw[h1] at hp;cases hp;cases ao;rw[nil oS];exact .gf a 0
    |jF _ _ a b o len room sz h1=>
     rw[nil oS];exact .gf a 0
    |rs _ _ _ cap b o len room sz h1 hn de h2 h3=>
     rw[h1] at hp;cases hp;obtain⟨dp,hl,bA,_⟩:=ao.rd;obtain⟨us,u1,u2⟩:=(dp.drop off).take (k*P.cellsOf e)
     have af:b<w.heap.size:=by
      cases ao with
      |cells _ _ _ _ _ _ c hb=>exact(Array.getElem?_eq_some_iff.1 hb).1
     exact .sl x.1 k b (o+off) cap us (oA b rfl) (zy b) af hn de (fun j hj=>u1 j (by rw[<- C];exact hj)) fun j d hd=>J j d _ hd fun M U=>u2 j M U
   .cases h
  |rp i off=>
   simp only[cB] at h;split at h
   .rename_i cs e hm;simp only[cO,bP] at h;obtain⟨x,hx,rfl,rfl⟩:=h;obtain⟨p,hp,ao,oA⟩:=look (List.mem_cons_self ..) hm;obtain⟨C,J⟩:=many (ys:=x.1) (r':=x.2) hx (fun i hi=>List.mem_cons_of_mem _ hi);cases hv with
    |qe _ _ _ h1 _=>
     rw[h1] at hp;cases hp;exact absurd rfl ao.live
    |rp _ _ b o len room sz h1=>
     rw[h1] at hp;cases hp;obtain⟨dp,hl,bA,_⟩:=ao.rd;obtain⟨us,u1,u2⟩:=dp.drop off
     have af:b<w.heap.size:=by
      cases ao with
      |cells _ _ _ _ _ _ c hb=>exact(Array.getElem?_eq_some_iff.1 hb).1
     exact .pt x.1 b (o+off) us (oA b rfl) (zy b) af (fun j hj=>u1 j (by rw[<- C];exact hj)) fun j d hd=>J j d _ hd fun M U=>u2 j M U
   .cases h
  |cq c d=>
   cases hv with
   |cq _ _ _ h1 h2=>
   cases c with
   |true=>
    simp only[cB,cO,bP] at h;obtain⟨x,hx,rfl,rfl⟩:=h;exact .cq true _ v (fun _=>CE (r:=x.2) hx hl (h1 rfl)) oS
   |false=>simp only[cB,aH,bP] at h;obtain⟨rfl,_⟩:=h;exact .cq false _ v oS h2
  |agg cs=>
   simp only[cB,cO,bP] at h;obtain⟨x,hx,rfl,rfl⟩:=h;obtain⟨vs,rfl,ow,hh⟩:=hv.rP;obtain⟨C,J⟩:=many (ys:=x.1) (r':=x.2) hx (fun _ h=>h);exact .agg _ vs (by rw[C];exact ow) fun k d u hd hu=>J k d u hd fun M U=>hh k M u U hu
  |aL cs=>
   simp only[cB,cO,bP] at h;obtain⟨x,hx,rfl,rfl⟩:=h;obtain⟨vs,rfl,ow,hh⟩:=hv.Cg;obtain⟨C,J⟩:=many (ys:=x.1) (r':=x.2) hx (fun _ h=>h);exact .aL _ vs (by rw[C];exact ow) fun k d u hd hu=>J k d u hd fun M U=>hh k M u U hu
  |sl cs k=>
   simp only[cB,cO,bP] at h;obtain⟨x,hx,rfl,rfl⟩:=h;obtain⟨C,J⟩:=many (ys:=x.1) (r':=x.2) hx (fun _ h=>h);cases hv with
   |gf a cap=>
    have:x.1=[]:=List.eq_nil_of_length_eq_zero (by simpa using C);rw[this];exact .gf a cap
   |sl _ _ b o cap us hf hb af oh de hc hh=>
    exact .sl _ k b o cap us hf (zy b) af oh de (fun j hj=>hc j (by rw[<- C];exact hj)) fun j d hd=>J j d _ hd fun M U=>hh j M U
  |pt cs=>
   simp only[cB,cO,bP] at h;obtain⟨x,hx,rfl,rfl⟩:=h;obtain⟨C,J⟩:=many (ys:=x.1) (r':=x.2) hx (fun _ h=>h);cases hv with
   |pt _ b o us hf hb af hc hh=>
    exact .pt _ b o us hf (zy b) af (fun j hj=>hc j (by rw[<- C];exact hj)) fun j d hd=>J j d _ hd fun M U=>hh j M U
  |fn f fs cs=>
   simp only[cB] at h;cases hx:gW (cB P m n) fs with
   |none=>rw[hx] at h;cases h
   |some x=>
    rw[hx] at h;simp only[cO,bP] at h;obtain⟨y,hy,rfl,rfl⟩:=h;obtain⟨C,J⟩:=many (ys:=x.1) (r':=x.2) hx (fun _ h=>List.mem_append_left _ h);obtain⟨k1,k2⟩:=many (ys:=y.1) (r':=y.2) hy (fun _ h=>List.mem_append_right _ h);cases hv with
    |fn _ _ _ us vs yK ow h1 h2=>
     exact .fn f _ _ us vs (by rw[C];exact yK) (by rw[k1];exact ow) (fun k d u hd hu=>J k d u hd fun M U=>h1 k M u U hu) fun k d u hd hu=>k2 k d u hd fun M U=>h2 k M u U hu
  |s v=>simp only[cB,aH,bP] at h;obtain⟨rfl,_⟩:=h;obtain⟨rfl,h⟩:=hv.cV;exact .s _ h
  |ub=>simp only[cB,aH,bP] at h;obtain⟨rfl,_⟩:=h;obtain⟨b,rfl⟩:=hv.F8;exact .ub b
  |u=>simp only[cB,aH,bP] at h;obtain⟨rfl,_⟩:=h;exact .u v
  |z=>simp only[cB,aH,bP] at h;obtain⟨rfl,_⟩:=h;obtain⟨a,rfl⟩:=hv.tQ;exact .z a
end
section
variable(P:Program)
def vF(env:Env)(o:Op):Bool:=match o with
 | .pick c _ _=>decide (opd env c).ask
 |o=>o.operands.toList.all fun x=>decide (opd env x).ask
theorem IA{env:Env}{o:Op}(h:vF env o=true):asks env o:=by
 unfold vF at h;unfold asks;cases o<;>first|exact of_decide_eq_true h|exact fun x hx=>of_decide_eq_true (bQ.1 h x hx)
abbrev sq:=FuncId->List D->Bool->T Row->Nat->Option (D×T Row×Nat×List Nat×List Nat)
def Ft(call:sq)(f:FuncId)(args:List D)(dr:Bool)(o:Oper)(c:cP):Option (cP×List Nat×List Nat):=
 bif vF (dz c.env) o.op then match call f args dr c.mem c.nx with
  |some (r,m,nx,rd,wr)=>match AN c.env o.dst r with
   |some env=>some (⟨env,m,nx⟩,rd,wr)
   |none=>none
  |none=>none
 else none
def G9(e:eY)(o:Oper)(c:cP):Option (cP×List Nat×List Nat):=
 bif vF (dz c.env) o.op then match e.dec with
  |isTrue _=>match Dt c.mem e.aQ with
   |some m=>match AN c.env o.dst e.val with
    |some env=>some (⟨env,m,c.nx+e.new⟩,e.rd,e.aQ.map (·.1))
    |none=>none
   |none=>none
  |isFalse _=>none
 else none
def vG(o:Oper)(d:D)(rd:List Nat)(c:cP):Option (cP×List Nat×List Nat):=match AN c.env o.dst d with
 |some env=>some (⟨env,c.mem,c.nx⟩,rd,[])
 |none=>none
def Mu(call:sq)(ops:Array Oper)(dr:Bool)(o:Oper)(c:cP):Option (cP×List Nat×List Nat):=
 match o.guard with
 |none=>match dF (a6 (dz c.env) o.op) o.op with
  |some (f,args)=>Ft call f args dr o c
  |none=>match kV (a6 (dz c.env) o.op) o.op with
   |some _=>none
   |none=>match jC P o.op (a6 (dz c.env) o.op) (fY c.mem) c.nx with
    |some e=>G9 e o c
    |none=>none
 |some (j,b)=>match ((ops[j]?).bind (·.dst)).bind fun t=>jQ (dz c.env t) b with
  |none=>none
  |some g=>match dF (a6 (dz c.env) o.op) o.op with
   |some (f,args)=>bif g then Ft call f args dr o c else vG o tS [] c
   |none=>match kV (a6 (dz c.env) o.op) o.op with
    |some _=>bif g then none else vG o tS [] c
    |none=>match jC P o.op (a6 (dz c.env) o.op) (fY c.mem) c.nx with
     |some e=>bif e.aQ.isEmpty&&Nat.beq e.new 0 then
      bif g then bif vF (dz c.env) o.op then match e.dec with
       |isTrue _=>vG o (.cq true e.val) e.rd c
       |isFalse _=>none
      else none
      else vG o (.cq false e.val) e.rd c
      else bif g then G9 e o c else vG o tS [] c
     |none=>bif g then none else vG o tS [] c
def AO(call:sq)(ops:Array Oper)(dr:Bool):List Oper->cP->jJ->Option (cP×jJ)
 |[],c,tr=>some (c,tr)
 |o::os,c,tr=>match Mu P call ops dr o c with
  |some (c',rd,wr)=>AO call ops dr os c' (tr++[(rd,wr)])
  |none=>none
def Gf(tr:jJ)(i j:Nat):Bool:=
 let a:=tr.getD i ([],[])
 let b:=tr.getD j ([],[])
 (a.2.all fun x=> !(b.1.any (Nat.beq x))&& !(b.2.any (Nat.beq x)))&&b.2.all fun x=> !(a.1.any (Nat.beq x))
theorem aak{tr:jJ}{i j:Nat}(h:Gf tr i j=true):pC tr i j:=by
 unfold Gf at h;simp only[bc,bQ,Bool.not_eq_true',List.any_eq_false,Nat.beq_eq] at h;obtain⟨h1,h2⟩:=h;exact⟨fun x hx=>⟨fun hb=>(h1 x hx).1 x hb rfl,fun hb=>(h1 x hx).2 x hb rfl⟩,fun x hx ha=>h2 x hx x ha rfl⟩
def JH(call:sq)(ops:Array Oper)(dr:Bool)(c:cP):Option cP:=
 bif dr then match bT ops with
  |some cf=>match AO P call ops true ops.toList c [] with
   |some (c',tr)=>bif cf.all fun q=>Gf tr q.1 q.2 then some c' else none
   |none=>none
  |none=>none
 else match AO P call ops false ops.toList c [] with
  |some (c',_)=>some c'
  |none=>none
def CF(call:sq):Prop:=∀ f args dr m nx r m' C rd wr,call f args dr m nx=some (r,m',C,rd,wr)->∀ env (K:D->Mem->Nat->List Nat->List Nat->Prop),K r (fY m') C rd wr->r5 P dr ⟨env,fY m,nx⟩ f args K
end
section
variable{P:Program}
theorem Ow{call:sq}(hc:CF P call){f:FuncId}{args:List D}{dr:Bool}{o:Oper}{c:cP}{C:cP}{rd wr:List Nat}(h:Ft call f args dr o c=some (C,rd,wr)){K:St->List Nat->List Nat->Prop}(J:K C.st rd wr):
 asks c.st.env o.op/\r5 P dr c.st f args fun r m nx rd wr=>K (St.put ⟨c.st.env,m,nx⟩ o.dst r) rd wr:=by
 unfold Ft at h;cases ha:vF (dz c.env) o.op with
 |false=>rw[ha] at h;cases h
 |true=>
  rw[ha] at h;simp only[cond_true] at h;refine⟨IA ha,?_⟩;split at h
  .rename_i r m nx Mv U M;split at h
   .rename_i env X;simp only[aH,bP] at h;obtain⟨rfl,rfl,rfl⟩:=h;refine hc _ _ _ _ _ _ _ _ _ _ M _ _ ?_;have:=JG X (fY m) nx;simp only[cP.st] at J ⊢;rw[<- this];exact J
   .cases h
  .cases h
theorem zH{o:Oper}{d:D}{rd C wr:List Nat}{c J:cP}(h:vG o d rd c=some (J,C,wr)):J.st=St.put c.st o.dst d/\C=rd/\wr=[]:=by
 unfold vG at h;split at h
 .rename_i env M;simp only[aH,bP] at h;obtain⟨rfl,rfl,rfl⟩:=h;exact⟨JG M (fY c.mem) c.nx,rfl,rfl⟩
 .cases h
theorem P8{e:eY}{o:Oper}{c C:cP}{rd wr:List Nat}(h:G9 e o c=some (C,rd,wr)){K:St->List Nat->List Nat->Prop}(J:K C.st rd wr):
 asks c.st.env o.op/\e.pre/\K (St.put ⟨c.st.env,cC c.st.mem e.aQ,c.st.nx+e.new⟩ o.dst e.val) e.rd (e.aQ.map (·.1)):=by
 unfold G9 at h;cases ha:vF (dz c.env) o.op with
 |false=>rw[ha] at h;cases h
 |true=>
  rw[ha] at h;simp only[cond_true] at h;refine⟨IA ha,?_⟩;split at h
  .rename_i hp _;refine⟨hp,?_⟩;split at h
   .rename_i m hm;split at h
    .rename_i env M;simp only[aH,bP] at h;obtain⟨rfl,rfl,rfl⟩:=h;have:=JG M (fY m) (c.nx+e.new);simp only[cP.st] at J ⊢;rw[<- P7 hm, <- this];exact J
    .cases h
   .cases h
  .cases h
theorem Pd{o:Op}{ρ:Operand->D}{m:Mem}{nx:Nat}{e:eY}(h:jC P o ρ m nx=some e):bf P o ρ m nx=some e.ir:=by rw[Q5,h];rfl
theorem YM{o:Op}{ρ:Operand->D}{m:Mem}{nx:Nat}(h:jC P o ρ m nx=none):bf P o ρ m nx=none:=by rw[Q5,h];rfl
theorem ac8{call:sq}(mB:CF P call){ops:Array Oper}{dr:Bool}{o:Oper}{c c':cP}{rd wr:List Nat}(h:Mu P call ops dr o c=some (c',rd,wr)){K:St->List Nat->List Nat->Prop}(C:K c'.st rd wr):
 iK P cY ops dr o c.st K:=by
 unfold Mu at h;unfold iK;split at h
 .rename_i hg;simp only[hg];split at h
  .rename_i f args hc;obtain⟨h1,h2⟩:=Ow mB h C;refine⟨h1,?_⟩;simp only[cP.st] at h2 ⊢;rw[hc];exact h2
  .rename_i hc;split at h
   .cases h
   .rename_i hy;split at h
    .rename_i e he;obtain⟨h1,h2,h3⟩:=P8 h C;refine⟨h1,?_⟩;have:=Pd he;simp only[cP.st] at h2 h3 ⊢;rw[hc];simp only;rw[hy];simp only;rw[this];exact⟨h2,h3⟩
    .cases h
 .rename_i j b hg;simp only[hg];split at h
  .cases h
  .rename_i g hgc;have U:(((ops[j]?).bind (·.dst)).bind fun t=>jQ (c.st.env t) b)=some g:=hgc;rw[U];simp only;split at h
   .rename_i f args hc;have rv:dF (a6 c.st.env o.op) o.op=some (f,args):=hc;rw[rv];simp only;cases g with
    |true=>
     simp only[cond_true] at h;exact .inr ⟨fun _=>Ow mB h C,oS⟩
    |false=>
     simp only[cond_false] at h;obtain⟨h1,rfl,rfl⟩:=zH h;exact .inr ⟨oS,fun _=>h1▸C⟩
   .rename_i hc;have rv:dF (a6 c.st.env o.op) o.op=none:=hc;rw[rv];simp only;split at h
    .rename_i y hy;have M:kV (a6 c.st.env o.op) o.op=some y:=hy;rw[M];obtain⟨l,args⟩:=y;cases g with
     |true=>simp at h
     |false=>
      simp only[cond_false] at h;obtain⟨h1,rfl,rfl⟩:=zH h;exact⟨oS,fun _=>h1▸C⟩
    .rename_i hy;have M:kV (a6 c.st.env o.op) o.op=none:=hy;rw[M];simp only;split at h
     .rename_i e he;have X:bf P o.op (a6 c.st.env o.op) c.st.mem c.st.nx=some e.ir:=Pd he;rw[X];cases J:(e.aQ.isEmpty&&Nat.beq e.new 0) with
      |true=>
       have hb:(e.ir.aQ.isEmpty&&e.ir.new==0)=true:=by
        have:∀ a:Nat,(a==0)=Nat.beq a 0:=fun a=>by cases a<;>rfl
        simp only[eY.ir,this];exact J
       simp only[hb,if_true];rw[J] at h;simp only[cond_true] at h;cases g with
       |true=>
        simp only[cond_true] at h;cases ha:vF (dz c.env) o.op with
        |false=>rw[ha] at h;cases h
        |true=>
         rw[ha] at h;simp only[cond_true] at h;split at h
         .rename_i hp _;obtain⟨h1,rfl,rfl⟩:=zH h;exact⟨fun _=>⟨IA ha,hp⟩,h1▸C⟩
         .cases h
       |false=>
        simp only[cond_false] at h;obtain⟨h1,rfl,rfl⟩:=zH h;exact⟨oS,h1▸C⟩
      |false=>
       have hb:(e.ir.aQ.isEmpty&&e.ir.new==0)=false:=by
        have:∀ a:Nat,(a==0)=Nat.beq a 0:=fun a=>by cases a<;>rfl
        simp only[eY.ir,this];exact J
       simp only[hb,Bool.false_eq_true,if_false];rw[J] at h;simp only[cond_false] at h;cases g with
       |true=>
        simp only[cond_true] at h;exact⟨fun _=>P8 h C,oS⟩
       |false=>
        simp only[cond_false] at h;obtain⟨h1,rfl,rfl⟩:=zH h;exact⟨oS,fun _=>h1▸C⟩
     .rename_i he;have X:bf P o.op (a6 c.st.env o.op) c.st.mem c.st.nx=none:=YM he;rw[X];simp only;cases g with
      |true=>simp at h
      |false=>
       simp only[cond_false] at h;obtain⟨h1,rfl,rfl⟩:=zH h;exact⟨rfl,h1▸C⟩
theorem Jh{call:sq}(M:CF P call){ops:Array Oper}{dr:Bool}{cf:List (Nat×Nat)}{Q:Exit->St->Prop}:∀ (os:List Oper) (c C:cP) (tr J:jJ),AO P call ops dr os c tr=some (C,J)->(∀ q∈cf,pC J q.1 q.2)->Q .normal C.st->
 aq P cY ops dr cf Q os c.st tr
 |[],c,C,tr,J,h,jG,hQ=>by
  simp only[AO,aH,bP] at h;obtain⟨rfl,rfl⟩:=h;exact⟨jG,hQ⟩
 |o::os,c,C,tr,J,h,jG,hQ=>by
  simp only[AO] at h;split at h
  .rename_i c1 rd wr h1;exact .inl<| ac8 M h1 (Jh M os c1 C _ J h jG hQ)
  .cases h
theorem XE{call:sq}(U:CF P call){ops:Array Oper}{dr:Bool}{c J:cP}(h:JH P call ops dr c=some J){id:Nat}{rf:Bool}{Q:Exit->St->Prop}(M:Q .normal J.st):AW P cY rf (.region id ops dr) Q c.st:=by
 unfold JH at h;cases dr with
 |true=>
  simp only[cond_true] at h;split at h
  .rename_i cf X;split at h
   .rename_i c1 tr h1;cases C:cf.all fun q=>Gf tr q.1 q.2 with
    |false=>rw[C] at h;cases h
    |true=>
     rw[C] at h;simp only[cond_true,aH] at h;subst h
     show match bT ops with
      |some cf=>CB P cY ops cf Q c.st
      |none=>False
     rw[X];exact .inl<| Jh U _ _ _ _ _ h1 (fun q hq=>aak (bQ.1 C q hq)) M
   .cases h
  .cases h
 |false=>
  simp only[cond_false] at h;split at h
  .rename_i c1 tr h1;simp only[aH] at h;subst h;exact Jh (cf:=[]) U _ _ _ _ _ h1 oS M
  .cases h
end
structure Ctx where
 me:FuncId->Option (Func×Code)
 iter:FuncId->List D->List D->Option (List (List D))
 known:FuncId->List D->Option D
structure Ctx.Ok(P:Program)(x:Ctx):Prop where
 mix:P.follows .mixedOrders=true
 me:∀ f fn c,x.me f=some (fn,c)->ld P f fn c
 iter:∀ f fs cs xs,x.iter f fs cs=some xs->vT P f fs cs xs/\∀ y∈xs,∀ d∈y,Tr d
 known:∀ f args r,x.known f args=some r->aB P f args r
def Af:Nat->List D->T D->Option (T D)
 |_,[],t=>some t
 |k,d::ds,t=>match t.put k (some d) with
  |some C=>Af (k+1) ds C
  |none=>none
theorem Ox:∀ {ds:List D} {k:Nat} {t C:T D},Af k ds t=some C->∀ j,dz C j=if k<=j/\j<k+ds.length then ds.getD (j - k) .u else dz t j
 |[],k,t,C,h,j=>by
  simp only[Af,aH] at h;subst h;rw[if_neg oS]
 |d::ds,k,t,C,h,j=>by
  simp only[Af] at h;split at h
  .rename_i t1 h1;rw[Ox h j,Jg h1];by_cases hj:j=k
   .subst hj;rw[if_neg oG,ah,if_pos oS];simp
   .rw[aA _ _ hj];by_cases af:k+1<=j/\j<k+1+ds.length
    .rw[if_pos af,if_pos oP];have:j - k=(j - (k+1))+1:=by omega
     rw[this];simp
    .rw[if_neg af,if_neg oP]
  .cases h
theorem XF{args:List D}{t:T D}(h:Af 0 args .leaf=some t):dz t=ig args:=by
 funext j;rw[Ox h j];unfold ig;split
 .simp
 .rename_i hj;have:args.length<=j:=by omega
  simp[dz,T.get,this]
def zV:T D->List Tmp->List D->Option (T D)
 |t,p::ps,d::ds=>match t.put p (some d) with
  |some C=>zV C ps ds
  |none=>none
 |t,_,_=>some t
theorem N9:∀ {ps:List Tmp} {ds:List D} {t C:T D},zV t ps ds=some C->dz C=ni (dz t) ps ds
 |[],ds,t,C,h=>by simp only[zV,aH] at h;subst h;rfl
 |_::_,[],t,C,h=>by simp only[zV,aH] at h;subst h;rfl
 |p::ps,d::ds,t,C,h=>by
  simp only[zV] at h;split at h
  .rename_i t1 h1;rw[N9 h,Jg h1];rfl
  .cases h
section
variable(P:Program)
def Lq(c:cP):ResultVar->Option D
 | .tmp t=>some (dz c.env t)
 | .cell a t=>match dz c.env a with
  | .rp i off=>match c.mem.get i with
   |some (.cells cs _)=>bif aG P t&&Nat.ble (off+P.cellsOf t) cs.length then some (gE P t (cs.drop off)) else none
   |_=>none
  | .pt cs=>bif aG P t&&Nat.ble (P.cellsOf t) cs.length then some (gE P t cs) else none
  |_=>none
def AP(c:cP):List ResultVar->Option (List D)
 |[]=>some []
 |r::rs=>match Lq P c r with
  |some d=>match AP c rs with
   |some ds=>some (d::ds)
   |none=>none
  |none=>none
def Du(x:Ctx)(C:Bool->Code->cP->Option (Exit×cP))(f:FuncId)(args:List D)(m:T Row)(nx:Nat):Option (D×T Row×Nat):=
 match x.me f with
 |none=>none
 |some (fn,c)=>bif Nat.ble args.length fn.ntmps then
  match Af 0 args .leaf with
  |none=>none
  |some t=>match C true c ⟨t,m,nx⟩ with
   |some (.normal,s)=>match AP P s fn.results.toList with
    |some ds=>some (pY ds,s.mem,s.nx)
    |none=>none
   |some (.ret,s)=>match AP P s fn.results.toList with
    |some ds=>some (pY ds,s.mem,s.nx)
    |none=>none
   |_=>none
  else none
def depth:Nat:=12
def Ay(x:Ctx)(C:Bool->Code->cP->Option (Exit×cP))(f:FuncId)(args:List D):Option (D ⊕ (List D×Nat×TypeId)):=
 match Du P x C f args .leaf 0 with
 |none=>none
 |some (d,m,_)=>match d with
  | .rs i 0 k=>match m.get i with
   |some (.cells es t)=>bif es.all (qj depth) then some (.inr (es,k,t)) else match cB P (fY m) depth (.rs i 0 k) with
    |some (r,_)=>some (.inl r)
    |none=>none
   |_=>none
  |d=>match cB P (fY m) depth d with
   |some (r,_)=>some (.inl r)
   |none=>none
def KP(x:Ctx)(C:Bool->Code->cP->Option (Exit×cP)):sq:=fun f args dr m nx=>
 match x.known f args with
 |some r=>some (r,m,nx,[],[])
 |none=>bif args.all (qj depth) then match Ay P x C f args with
  |some (.inl r)=>some (r,m,nx,[],[])
  |some (.inr (es,k,t))=>match m.put nx (some (.cells es t)) with
   |some m'=>some (.rs nx 0 k,m',nx+1,[],[nx])
   |none=>none
  |none=>none
  else bif dr then match gW (cB P (fY m) depth) args with
   |none=>none
   |some (dV,rds)=>match x.known f dV with
    |some r=>bif r.gp then some (r,m,nx,rds,[]) else none
    |none=>match Ay P x C f dV with
     |some (.inl r)=>bif r.gp then some (r,m,nx,rds,[]) else none
     |_=>none
  else match Du P x C f args m nx with
   |some (d,m',ai)=>some (d,m',ai,[],[])
   |none=>none
def Cl(C:Bool->Code->cP->Option (Exit×cP))(env:T D)(ps:List Tmp)(assign body:Code):List (List D)->T Row->Nat->Option (Exit×T Row×Nat)
 |[],m,nx=>some (.normal,m,nx)
 |y::ys,m,nx=>match zV env ps y with
  |none=>none
  |some t=>match C false assign ⟨t,m,nx⟩ with
   |some (.normal,s)=>match C false body s with
    |some (.normal,s')=>Cl C env ps assign body ys s'.mem s'.nx
    |some (.ret,s')=>some (.ret,s'.mem,s'.nx)
    |some (.exit i,s')=>some (.exit i,s'.mem,s'.nx)
    |_=>none
   |_=>none
def pE(x:Ctx)(C:Bool->Code->cP->Option (Exit×cP))(rf:Bool)(c:Code)(s:cP):Option (Exit×cP):=match c with
 | .skip=>some (.normal,s)
 | .region _ ops dr=>match JH P (KP P x C) ops dr s with
  |some s'=>some (.normal,s')
  |none=>none
 | .seq a b=>match C rf a s with
  |some (.normal,s')=>C rf b s'
  |r=>r
 | .cond c a b=>bif decide (opd (dz s.env) c).ask then match (opd (dz s.env) c).core with
   | .s (.bool t)=>bif t then C rf a s else C rf b s
   |_=>none
  else none
 | .block id b=>match C rf b s with
  |some (.exit i,s')=>bif Nat.beq i id then some (.normal,s') else some (.exit i,s')
  |r=>r
 | .scope b=>match C rf b s with
  |some (.goto _,_)=>none
  |r=>r
 | .loop b=>match C rf b s with
  |some (.normal,s')=>C rf (.loop b) s'
  |r=>r
 | .rangeFunc g ps assign body=>bif rf&&decide (opd (dz s.env) g).ask then match (opd (dz s.env) g).core with
   | .fn (.func f) fs cs=>match x.iter f fs cs with
    |some ys=>bif ys.all fun y=>Nat.beq y.length ps.size then match Cl C s.env ps.toList assign body ys s.mem s.nx with
     |some (e,m,nx)=>some (e,⟨s.env,m,nx⟩)
     |none=>none
     else none
    |none=>none
   |_=>none
  else none
 | .exit id=>some (.exit id,s)
 | .label _=>some (.normal,s)
 | .ret=>some (.ret,s)
 |_=>none
def Bi(x:Ctx):Nat->Bool->Code->cP->Option (Exit×cP)
 |0=>fun _ _ _=>none
 |n+1=>pE P x (Bi x n)
end
section
variable{P:Program}{x:Ctx}
theorem Kf{c:cP}{K:List D->Prop}:∀ {rs:List ResultVar} {ds acc:List D},AP P c rs=some ds->K (acc++ds)->nD P c.st rs acc K
 |[],ds,acc,h,hK=>by
  simp only[AP,aH] at h;subst h;simpa[nD] using hK
 |r::rs,ds,acc,h,hK=>by
  simp only[AP] at h;split at h
  .rename_i d hd;split at h
   .rename_i U C;simp only[aH] at h;subst h
    have M:∃ p,nC P c.st r=some (p,d)/\p:=by
     cases r with
     |tmp t=>
      simp only[Lq,aH] at hd;exact⟨True,by simp only[nC,cP.st,hd],trivial⟩
     |cell a t=>
      simp only[Lq] at hd;simp only[nC,cP.st];split at hd
      .rename_i i off ha;rw[ha];simp only;split at hd
       .rename_i cs e hm;have J:fY c.mem i=some (.cells cs e):=hm;rw[J];simp only;cases hb:(aG P t&&Nat.ble (off+P.cellsOf t) cs.length) with
        |false=>rw[hb] at hd;cases hd
        |true=>
         rw[hb] at hd;simp only[cond_true,aH] at hd;simp only[bc,Nat.ble_eq] at hb;exact⟨_,by rw[hd],hb⟩
       .cases hd
      .rename_i cs ha;rw[ha];simp only;cases hb:(aG P t&&Nat.ble (P.cellsOf t) cs.length) with
       |false=>rw[hb] at hd;cases hd
       |true=>
        rw[hb] at hd;simp only[cond_true,aH] at hd;simp only[bc,Nat.ble_eq] at hb;exact⟨_,by rw[hd],hb⟩
      .cases hd
    obtain⟨p,h1,h2⟩:=M;simp only[nD,h1];exact⟨h2,Kf C (by simpa using hK)⟩
   .cases h
  .cases h
def Dv(P:Program)(C:Bool->Code->cP->Option (Exit×cP)):Prop:=∀ rf c s e s',C rf c s=some (e,s')->∀ Q:Exit->St->Prop,Q e s'.st->AW P cY rf c Q s.st
theorem Q7(hx:x.Ok P){M:Bool->Code->cP->Option (Exit×cP)}(X:Dv P M){f:FuncId}{args:List D}{m m':T Row}{nx J:Nat}{d:D}(h:Du P x M f args m nx=some (d,m',J)):
 ∃ fn c,ld P f fn c/\Nat.ble args.length fn.ntmps=true/\∀ K:D->St->Prop,(∀ env,K d ⟨env,fY m',J⟩)->AW P cY true c (gV P fn.results.toList K) ⟨ig args,fY m,nx⟩:=by
 unfold Du at h;split at h
 .cases h
 .rename_i fn c Lr;cases hb:Nat.ble args.length fn.ntmps with
  |false=>rw[hb] at h;cases h
  |true=>
   rw[hb] at h;simp only[cond_true] at h;split at h
   .cases h
   .rename_i t ht;refine⟨fn,c,hx.me f fn c Lr,hb,fun K U=>?_⟩;rw[<- XF ht];split at h
    .rename_i s hs;split at h
     .rename_i ds C;simp only[aH,bP] at h;obtain⟨rfl,rfl,rfl⟩:=h;exact X _ _ _ _ _ hs _ (Kf (K:=fun ds=>K (pY ds) s.st) C (U _))
     .cases h
    .rename_i s hs;split at h
     .rename_i ds C;simp only[aH,bP] at h;obtain⟨rfl,rfl,rfl⟩:=h;exact X _ _ _ _ _ hs _ (Kf (K:=fun ds=>K (pY ds) s.st) C (U _))
     .cases h
    .cases h
theorem XG(J:P.follows .mixedOrders=true){fn:Func}{f:FuncId}{c:Code}(hf:ld P f fn c){args:List D}(hn:Nat.ble args.length fn.ntmps=true)(ht:∀ a∈args,Tr a){d r:D}{m:Mem}{n:Nat}{rds:List Nat}(hd:cB P m n d=some (r,rds))
 (h:AW P cY true c (gV P fn.results.toList fun d' st=>d'=d/\st.mem=m) ⟨ig args,fun _=>none,0⟩):aB P f args r:=
 ⟨hf.he,ht,fun F w vs X hR=>(zM J hf.hf hf.hb hf.af hn h (fun _ _ _ _ _ h=>h.elim) (EL X) (fun _ _=>rfl) hR).mono fun e w' hp=>by
  obtain⟨v,d',st',β',h1,⟨rfl,rfl⟩,M,C,h5,U,h7,h8⟩:=hp
  exact⟨v,h1,CE hd (fun i _ r hr=>by
   obtain⟨p,hp,ao⟩:=C.row i r hr
   exact⟨p,hp,ao,fun b hb=>C.nf i p b hp hb⟩) M,Eu U⟩⟩
theorem ED(hx:x.Ok P){J:Bool->Code->cP->Option (Exit×cP)}(X:Dv P J){f:FuncId}{args:List D}(ht:∀ a∈args,Tr a):
 (∀ r,Ay P x J f args=some (.inl r)->aB P f args r)/\∀ es k t,Ay P x J f args=some (.inr (es,k,t))->ko P f args es k t:=by
 unfold Ay;cases U:Du P x J f args .leaf 0 with
 |none=>exact⟨fun r h=>oH,fun es k t h=>oH⟩
 |some q=>
  obtain⟨d,m,nx⟩:=q;obtain⟨fn,c,hf,hn,C⟩:=Q7 hx X U
  have deep:∀ d r rds,d=d->cB P (fY m) depth d=some (r,rds)->(∀ K:D->St->Prop,(∀ env,K d ⟨env,fY m,nx⟩)->AW P cY true c (gV P fn.results.toList K) ⟨ig args,fY .leaf,0⟩)->aB P f args r:=fun d r rds _ hd C=>
   XG hx.mix hf hn ht hd (C _ fun env=>⟨rfl,rfl⟩)
  simp only;split
  .rename_i i k;split
   .rename_i es t hm;cases M:es.all (qj depth) with
    |true=>
     simp only[cond_true];refine⟨fun r h=>(by simp at h),fun es' k' t' h=>?_⟩;simp only[aH,Sum.inr.injEq,bP] at h;obtain⟨rfl,rfl,rfl⟩:=h;exact P5 hx.mix hf hn ht (fun a ha=>pD (bQ.1 M a ha)) (C _ fun env=>⟨i,rfl,hm⟩)
    |false=>
     simp only[cond_false];split
     .rename_i r rds hd;exact⟨fun r' h=>(by simp only[aH,Sum.inl.injEq] at h;subst h;exact deep _ _ _ rfl hd C),fun es k t h=>(by simp at h)⟩
     .exact⟨fun r h=>oH,fun es k t h=>oH⟩
   .exact⟨fun r h=>oH,fun es k t h=>oH⟩
  .split
   .rename_i r rds hd;exact⟨fun r' h=>(by simp only[aH,Sum.inl.injEq] at h;subst h;exact deep _ _ _ rfl hd C),fun es k t h=>(by simp at h)⟩
   .exact⟨fun r h=>oH,fun es k t h=>oH⟩
theorem BM{m:Mem}{n:Nat}{rds:List Nat}:∀ {aS bs:List D} {r:List Nat},gW (cB P m n) aS=some (bs,r)->(∀ i∈r,i∈rds)->jj P rds m aS bs
 |[],bs,r,h,_=>by
  simp only[gW,aH,bP] at h;obtain⟨rfl,_⟩:=h;trivial
 |a::aS,bs,r,h,hr=>by
  simp only[gW] at h;split at h
  .cases h
  .rename_i y hy;split at h
   .cases h
   .rename_i ys C;simp only[aH,bP] at h;obtain⟨rfl,rfl⟩:=h;exact⟨fun F β w v hl hv=>CE (r:=y.2) hy (fun i hi=>hl i (hr i (List.mem_append_left _ hi))) hv,BM (r:=ys.2) C fun i hi=>hr i (List.mem_append_right _ hi)⟩
theorem aal(hx:x.Ok P){ev:Bool->Code->cP->Option (Exit×cP)}(U:Dv P ev):CF P (KP P x ev):=by
 intro f args dr m nx r m' ai rd wr h env K C;unfold KP at h;split at h
 .rename_i r' hk;simp only[aH,bP] at h;obtain⟨rfl,rfl,rfl,rfl,rfl⟩:=h;exact .inl ⟨_,hx.known _ _ _ hk,C⟩
 .cases M:args.all (qj depth) with
  |true=>
   rw[M] at h;simp only[cond_true] at h;obtain⟨h1,h2⟩:=ED hx U (f:=f) (args:=args) fun a ha=>pD (bQ.1 M a ha);split at h
   .rename_i r' hp;simp only[aH,bP] at h;obtain⟨rfl,rfl,rfl,rfl,rfl⟩:=h;exact .inl ⟨_,h1 _ hp,C⟩
   .rename_i es k t hp;split at h
    .rename_i m1 hm;simp only[aH,bP] at h;obtain⟨rfl,rfl,rfl,rfl,rfl⟩:=h;rw[P6 hm] at C;exact .inr (.inr (.inl ⟨es,k,t,h2 _ _ _ hp,C⟩))
    .cases h
   .cases h
  |false=>
   rw[M] at h;simp only[cond_false] at h;cases dr with
   |true=>
    simp only[cond_true] at h;split at h
    .cases h
    .rename_i J rds X;have bg:∀ a∈J,Tr a:=qF X fun x y r' h=>Fs h;have fA:jj P rds (fY m) args J:=BM X fun _ h=>h;split at h
     .rename_i r' hk;cases hs:r'.gp with
      |false=>rw[hs] at h;cases h
      |true=>
       rw[hs] at h;simp only[cond_true,aH,bP] at h;obtain⟨rfl,rfl,rfl,rfl,rfl⟩:=h;exact .inr (.inl ⟨J,_,_,fA,hx.known _ _ _ hk,hs,C⟩)
     .split at h
      .rename_i r' hp;cases hs:r'.gp with
       |false=>rw[hs] at h;cases h
       |true=>
        rw[hs] at h;simp only[cond_true,aH,bP] at h;obtain⟨rfl,rfl,rfl,rfl,rfl⟩:=h;exact .inr (.inl ⟨J,_,_,fA,(ED hx U bg).1 _ hp,hs,C⟩)
      .cases h
   |false=>
    simp only[cond_false] at h;split at h
    .rename_i d m1 bR df;simp only[aH,bP] at h;obtain⟨rfl,rfl,rfl,rfl,rfl⟩:=h;obtain⟨fn,c,hf,hn,yU⟩:=Q7 hx U df;exact .inr (.inr (.inr (.inl ⟨rfl,P4 hx.mix hf hn (yU (fun d st=>K d st.mem st.nx [] []) fun env=>C)⟩)))
    .cases h
theorem Oy{X:Bool->Code->cP->Option (Exit×cP)}(J:Dv P X){env:T D}{ps:List Tmp}{assign body:Code}{Q:Exit->St->Prop}:∀ {ys:List (List D)} {m m':T Row} {nx M:Nat} {e:Exit},Cl X env ps assign body ys m nx=some (e,m',M)->
 Q e ⟨dz env,fY m',M⟩->∃ I:Nat->Mem->Nat->Prop,I 0 (fY m) nx/\
  (∀ k m nx y,ys[k]? =some y->I k m nx->AW P cY false assign (Cj fun s=>AW P cY false body (xz (dz env) (I (k+1)) Q) s) ⟨ni (dz env) ps y,m,nx⟩)/\
  ∀ m nx,I ys.length m nx->Q .normal ⟨dz env,m,nx⟩
 |[],m,m',nx,M,e,h,hQ=>by
  simp only[Cl,aH,bP] at h;obtain⟨rfl,rfl,rfl⟩:=h;exact⟨fun _ a b=>a=fY m/\b=nx,⟨rfl,rfl⟩,fun k _ _ y hy=>by simp at hy,fun a b h=>by obtain⟨rfl,rfl⟩:=h;exact hQ⟩
 |y::ys,m,m',nx,M,e,h,hQ=>by
  simp only[Cl] at h;split at h
  .cases h
  .rename_i t ht;have yr:=N9 ht;split at h
   .rename_i s hs
    have done:∀ (I:Nat->Mem->Nat->Prop),AW P cY false body (xz (dz env) (I 0) Q) s.st->
     (∀ k m nx y,ys[k]? =some y->I k m nx->AW P cY false assign (Cj fun s=>AW P cY false body (xz (dz env) (I (k+1)) Q) s) ⟨ni (dz env) ps y,m,nx⟩)->
     (∀ m nx,I ys.length m nx->Q .normal ⟨dz env,m,nx⟩)->
     ∃ I:Nat->Mem->Nat->Prop,I 0 (fY m) nx/\
      (∀ k m nx z,(y::ys)[k]? =some z->I k m nx->AW P cY false assign (Cj fun s=>AW P cY false body (xz (dz env) (I (k+1)) Q) s) ⟨ni (dz env) ps z,m,nx⟩)/\
      ∀ m nx,I (y::ys).length m nx->Q .normal ⟨dz env,m,nx⟩:=fun I h1 h2 h3=>by
     refine⟨fun k a b=>match k with|0=>a=fY m/\b=nx|k+1=>I k a b,⟨rfl,rfl⟩,fun k a b z hz U=>?_,fun a b U=>h3 a b U⟩;cases k with
     |zero=>
      obtain⟨rfl,rfl⟩:=U;simp only[List.getElem?_cons_zero,aH] at hz;subst hz;rw[<- yr];exact J _ _ _ _ _ hs _ h1
     |succ k=>exact h2 k a b z (by simpa using hz) U
    split at h
    .rename_i s' C;obtain⟨I,g1,g2,g3⟩:=Oy J h hQ;exact done I (J _ _ _ _ _ C _ g1) g2 g3
    .rename_i s' C;simp only[aH,bP] at h;obtain⟨rfl,rfl,rfl⟩:=h;exact done (fun _ _ _=>False) (J _ _ _ _ _ C _ hQ) (fun _ _ _ _ _ h=>h.elim) fun _ _ h=>h.elim
    .rename_i i s' C;simp only[aH,bP] at h;obtain⟨rfl,rfl,rfl⟩:=h;exact done (fun _ _ _=>False) (J _ _ _ _ _ C _ hQ) (fun _ _ _ _ _ h=>h.elim) fun _ _ h=>h.elim
    .cases h
   .cases h
theorem R6(hx:x.Ok P):∀ n,Dv P (Bi P x n):=by
 intro n
 induction n using Nat.strongRecOn with
 |_ n ih=>
  cases n with
  |zero=>intro rf c s e s' h;cases h
  |succ n=>
   have J:=ih n (Nat.lt_succ_self n);intro rf c s e s' h Q C;simp only[Bi] at h;cases c with
   |skip=>
    simp only[pE,aH,bP] at h;obtain⟨rfl,rfl⟩:=h;exact C
   |ret=>
    simp only[pE,aH,bP] at h;obtain⟨rfl,rfl⟩:=h;exact C
   |label l=>
    simp only[pE,aH,bP] at h;obtain⟨rfl,rfl⟩:=h;exact C
   |exit id=>
    simp only[pE,aH,bP] at h;obtain⟨rfl,rfl⟩:=h;exact C
   |region id ops dr=>
    simp only[pE] at h;split at h
    .rename_i X h1;simp only[aH,bP] at h;obtain⟨rfl,rfl⟩:=h;exact XE (aal hx J) h1 C
    .cases h
   |seq a b=>
    simp only[pE] at h;split at h
    .rename_i X h1;exact J _ _ _ _ _ h1 _ ⟨_,.refl _,J _ _ _ _ _ h _ C⟩
    .rename_i U;refine J _ _ _ _ _ h _ ?_;cases e with
     |normal=>exact absurd h (U s')
     |_=>exact C
   |cond c a b=>
    simp only[pE] at h;cases M:decide (opd (dz s.env) c).ask with
    |false=>rw[M] at h;cases h
    |true=>
     rw[M] at h;simp only[cond_true] at h;refine⟨of_decide_eq_true M,?_⟩;split at h
     .rename_i t ht;have ht':(opd s.st.env c).core=.s (.bool t):=ht;rw[ht'];cases t with
      |true=>exact⟨fun _=>J _ _ _ _ _ h _ C,fun h=>by cases h⟩
      |false=>exact⟨fun h=>oH,fun _=>J _ _ _ _ _ h _ C⟩
     .cases h
   |block id b=>
    simp only[pE] at h;split at h
    .rename_i i X h1;refine J _ _ _ _ _ h1 (fv id Q) ?_;simp only[fv];cases hb:Nat.beq i id with
     |true=>
      rw[hb] at h;simp only[cond_true,aH,bP] at h;obtain⟨rfl,rfl⟩:=h;rw[if_pos (Nat.eq_of_beq_eq_true hb)];exact C
     |false=>
      rw[hb] at h;simp only[cond_false,aH,bP] at h;obtain⟨rfl,rfl⟩:=h;rw[if_neg (Nat.ne_of_beq_eq_false hb)];exact C
    .rename_i U;refine J _ _ _ _ _ h (fv id Q) ?_;cases e with
     |exit i=>exact absurd h (U i s')
     |_=>exact C
   |scope b=>
    simp only[pE] at h;split at h
    .cases h
    .rename_i U;refine J _ _ _ _ _ h (CA Q) ?_;cases e with
     |goto l=>exact absurd h (U l s')
     |_=>exact C
   |loop b=>
    refine P9 (fun j st=>j<=n+1/\∃ s,st=s.st/\Bi P x j rf (.loop b) s=some (e,s')) (j₀:=n+1) ⟨bd _,s,rfl,h⟩ ?_;rintro j st ⟨hj,s,rfl,hs⟩;cases j with
    |zero=>cases hs
    |succ j=>
     have UU:=ih j oG;simp only[Bi,pE] at hs;split at hs
     .rename_i X h1;exact UU _ _ _ _ _ h1 _ ⟨_,.refl _,j,Nat.lt_succ_self j,oG,X,rfl,hs⟩
     .rename_i U;refine UU _ _ _ _ _ hs _ ?_;cases e with
      |normal=>exact absurd hs (U s')
      |_=>exact C
   |rangeFunc g ps assign body=>
    simp only[pE] at h;cases M:(rf&&decide (opd (dz s.env) g).ask) with
    |false=>rw[M] at h;cases h
    |true=>
     rw[M] at h;simp only[cond_true] at h;simp only[bc] at M;split at h
     .rename_i f fs cs tR;split at h
      .rename_i ys Mx;cases bp:ys.all fun y=>Nat.beq y.length ps.size with
       |false=>rw[bp] at h;cases h
       |true=>
        rw[bp] at h;simp only[cond_true] at h;split at h
        .rename_i e1 m nx hr;simp only[aH,bP] at h;obtain⟨rfl,rfl⟩:=h;obtain⟨I,g1,g2,g3⟩:=Oy J hr C;obtain⟨k1,k2⟩:=hx.iter _ _ _ _ Mx;exact⟨M.1,of_decide_eq_true M.2,f,fs,cs,ys,I,tR,k1,fun y hy=>⟨Nat.eq_of_beq_eq_true (bQ.1 bp y hy),k2 y hy⟩,g1,g2,g3⟩
        .cases h
      .cases h
     .cases h
   |_=>cases h
theorem nW(hx:x.Ok P)(n:Nat){f:FuncId}{args:List D}{r:D}(ht:args.all (qj depth)=true)(h:Ay P x (Bi P x n) f args=some (.inl r)):aB P f args r:=
 (ED hx (R6 hx n) fun a ha=>pD (bQ.1 ht a ha)).1 r h
end
end Go.Abs
namespace Go.Proofs.Tryz.K
open Go.Abs
noncomputable def LF:T (Func×Code):=
 (.node none (.node none .leaf (.node none .leaf (.node none .leaf (.node none (.node none (.node none (.node none (.node (some (Tryz.f269,RO)) .leaf .leaf) .leaf) .leaf) .leaf) (.node none .leaf (.node none .leaf (.node (some (Tryz.f253,RM)) .leaf .leaf))))))) (.node none (.node none (.node none (.node none (.node none (.node none (.node none (.node (some (Tryz.f256,RN)) .leaf .leaf) .leaf) .leaf) .leaf) .leaf) .leaf) .leaf) (.node none (.node none (.node none .leaf (.node none .leaf (.node none (.node (some (Tryz.f178,RL)) .leaf .leaf) .leaf))) .leaf) .leaf)))
def Hu(p:Nat->Func×Code->Prop):(Nat->Nat)->T (Func×Code)->Prop
 |_,.leaf=>True
 |g,.node v l r=>(∀ a,v=some a->p (g 0) a)/\Hu p (fun i=>g (2*i+1)) l/\Hu p (fun i=>g (2*i+2)) r
theorem Jv{p:Nat->Func×Code->Prop}:∀ {t:T (Func×Code)} {g:Nat->Nat},Hu p g t->∀ i a,t.get i=some a->p (g i) a
 | .leaf,_,_,i,a,h=>by cases h
 | .node v l r,g,⟨h1,h2,h3⟩,i,a,h=>by
  rw[T.tl] at h;by_cases h0:i=0
  .subst h0;exact h1 a (by simpa using h)
  .rw[if_neg h0] at h;by_cases C:i % 2=1
   .rw[if_pos C] at h;have:=Jv h2 _ a h;have e:2*(i / 2)+1=i:=by omega
    simpa only[e] using this
   .rw[if_neg C] at h;have:=Jv h3 _ a h;have e:2*(i / 2 - 1)+2=i:=by omega
    simpa only[e] using this
theorem e0{p:Func×Code->Prop}:∀ a,(none:Option (Func×Code))=some a->p a:=fun _ h=>by cases h
theorem e1{i:Nat}{fn:Func}{c:Code}(h:ld prog i fn c):∀ a,some (fn,c)=some a->ld prog i a.1 a.2:=fun _ e=>by cases e;exact h
theorem acH:Hu (fun i a=>ld prog i a.1 a.2) (fun i=>i) LF:=
 ⟨e0,⟨e0,trivial,⟨e0,trivial,⟨e0,trivial,⟨e0,⟨e0,⟨e0,⟨e0,⟨e1 agQ,trivial,trivial⟩,trivial⟩,trivial⟩,trivial⟩,⟨e0,trivial,⟨e0,trivial,⟨e1 agO,trivial,trivial⟩⟩⟩⟩⟩⟩⟩,⟨e0,⟨e0,⟨e0,⟨e0,⟨e0,⟨e0,⟨e0,⟨e1 agP,trivial,trivial⟩,trivial⟩,trivial⟩,trivial⟩,trivial⟩,trivial⟩,trivial⟩,⟨e0,⟨e0,⟨e0,trivial,⟨e0,trivial,⟨e0,⟨e1 agN,trivial,trivial⟩,trivial⟩⟩⟩,trivial⟩,trivial⟩⟩⟩
theorem adj(f:FuncId)(fn:Func)(c:Code)(h:LF.get f=some (fn,c)):ld prog f fn c:=Jv acH f (fn,c) h
end Go.Proofs.Tryz.K
section
open Go Go.Abs Go.Proofs Go.Argus
namespace Go.Proofs.Tryz.K
noncomputable def cx0:Ctx:=⟨fun f=>LF.get f,fun _ _ _=>none,fun _ _=>none⟩
theorem n5:cx0.Ok prog:=⟨mixed,adj,fun _ _ _ _ h=>oH,fun _ _ _ h=>oH⟩
theorem B8{off:Nat}{vs cs:List D}(hv:vs.length=20)(hl:off+20<=cs.length)(C:vs.all D.one=true):aG prog 201=true/\vs.length=prog.cellsOf 201/\off+prog.cellsOf 201<=cs.length/\vs.all D.one=true:=by
 rw[q9];exact⟨t201,hv,hl,C⟩
theorem lj{w:List Int}{m:Nat}(U:w.length=20)(hm:m<1280):aB prog 135 [gq w,I m] (B (p0 w m)):=by
 have M:∀ a∈[gq w,I m],Tr a:=.cons (p6 _) (.cons (.s _) .nil);have hi:w[m / 64]? =some w[m / 64]:=a7 oG;have hg:w.getD (m / 64) 0=w[m / 64]:=by simp[dC,hi]
 have C:=S8 (m:=m) oG;have J:=S9 m;have kd:=mZ (f:=cL) hi;refine bl ael M (Tr.s _) ?_;rw[aem];refine ws ?_;refine ab ?_;refine er ?_;refine SS ?_;refine aw (Sf rfl rfl C) ak ⟨rfl,oG⟩ ?_;refine ax ?_;refine aw (Sg rfl rfl J) ak ⟨rfl,oG⟩ ?_;refine aw (adW rfl rfl) ak oG ?_;refine aw (SI rfl rfl) ak rfl ?_;refine ab ?_;refine aa (aI (d:=.s (.bool _)) rfl ?_);unfold p0;rw[hg];rfl
theorem p7{w:List Int}{n:Int}(X:w.length=20)(hn: -1000000<=n/\n<1280):aB prog 179 [gq w,I n] (gq (qV w n)):=by
 have U:∀ a∈[gq w,I n],Tr a:=.cons (p6 _) (.cons (.s _) .nil);refine bl aen U (p6 _) ?_;rw[aeo];refine ws ?_;refine ab ?_;refine aa (aF (aj ?_));by_cases h0:0<=n
 .obtain⟨m,rfl⟩:=jH h0;have hm:m<1280:=by omega
  have hi:w[m / 64]? =some w[m / 64]:=a7 oG;have hg:w.getD (m / 64) 0=w[m / 64]:=by simp[dC,hi]
  have J:=S8 (m:=m) oG;have M:=S9 m;have kd:=mZ (f:=cL) hi;have C:decide (0<=(m:Int))=true:=by simp
  refine SS ?_;refine aw (Aj rfl rfl C) ak rfl ?_;refine aa (GN (eA Y4 ?_));refine SS ?_;refine aw (Sf rfl rfl J) ak ⟨rfl,oG⟩ ?_;refine ax ?_;refine aw (Sg rfl rfl M) ak ⟨rfl,oG⟩ ?_;refine aw (adV rfl rfl) ak oG ?_;refine aw (ag2 rfl rfl) ak rfl ?_;refine ab ?_;refine cz cJ (aj ?_);refine ab ?_;refine aa (r9 (gN rfl rfl a201 q9 (nr (by first|rfl|simp;omega)) t201 oP) ?_);simp only[qV,h0,if_true,jZ,C0,hg,gq,List.map_set];rfl
 .have C:decide (0<=n)=false:=by simpa using h0
  refine SS ?_;refine aw (Aj rfl rfl C) ak rfl ?_;refine aa (qU (cx (aj ?_)));refine ab ?_;refine aa (r9 (gN rfl rfl a201 q9 (nr oP) t201 oP) ?_);simp only[qV,h0,if_false]
theorem Hd{w v:List Int}(M:w.length=20)(hv:v.length=20):aB prog 180 [gq w,gq v] (gq (mC w v)):=by
 have X:∀ a∈[gq w,gq v],Tr a:=.cons (p6 _) (.cons (p6 _) .nil);refine bl aep X (p6 _) ?_;rw[aeq];refine ws ?_;refine ax ?_;refine aa (aF (az ?_));refine SS ?_
 refine aa (cn (fun s=>aJ prog s ⟨ay [(2,.rp 0 0),(3,.rp 1 0),(4,.rp 2 0)],br [(0,.cells ((mC w v).map cL) 201),(1,.cells (v.map cL) 201),(2,.cells (replicate 20 (cL 0)) 201)],3⟩) (cy (α:=Nat)
  (fun k=>⟨ay [(2,.rp 0 0),(3,.rp 1 0),(4,.rp 2 0),(6,I k)],br [(0,.cells ((gS w v k).map cL) 201),(1,.cells (v.map cL) 201),(2,.cells (replicate 20 (cL 0)) 201)],3⟩)
  (fun k=>k<=20) (fun k=>20 - k) 0 (bZ eH eH) oG ?_) ?_)
 .intro k hk;refine SS ?_;refine aa ⟨_,rfl,fun h=>?_,fun h=>?_⟩
  .have af:k<20:=by have h:(k:Int)<20:=by simpa using h
                    omega
   have DN:(gS w v k).length=20:=by simp[M]
   have hi:(gS w v k)[k]? =some (gS w v k)[k]:=a7 oG;have hj:v[k]? =some v[k]:=a7 oG;have hg:(gS w v k).getD k 0=(gS w v k)[k]:=by simp[dC,hi]
   have C:v.getD k 0=v[k]:=by simp[dC,hj]
   have kd:=mZ (f:=cL) hi;have U:=mZ (f:=cL) hj;refine ws ?_;refine ab ?_;refine aa (Co Y5 ?_);refine bx ?_;refine aw (j5 rfl rfl U V.h) ak (j6 V.h V.h U) ?_;refine aw (SI rfl rfl) ak rfl ?_;refine ab ?_;refine cz cJ ?_;refine ab ?_;refine aa (bi (k+1) (bZ eH ⟨?_,rfl,rfl,trivial⟩) oG oG);rw[ah];simp only[gS,hg,C,List.map_set];rfl
  .have bq:¬ k<20:=by intro hh;simp at h;omega
   have:k=20:=by omega
   subst this;exact .forget _ _ _ _ fun t=>py (l:=[(2,.rp 0 0),(3,.rp 1 0),(4,.rp 2 0)]) ⟨rfl,rfl,rfl,trivial⟩ t
 .intro s hg;have J:(mC w v).length=20:=by simp[M]
  generalize mC w v=u at hg J ⊢;refine⟨_,hg,aj ?_⟩;refine ab ?_;refine aa (r9 (gN rfl rfl a201 q9 (nr oP) t201 oP) ?_);rfl
def ahO:Int:=18446744073709551615
theorem LI:aB prog 178 [] (gq (replicate 20 ahO)):=by
 exact nW n5 100 rfl kr
theorem Dy{w:List Int}{x:cU}(C:w.length=20)(hn:x.op=18->0<=x.n/\x.n<80)(ht:x.op≠18-> -1000000<=j8 x/\j8 x<1280):aB prog 183 [gq w,.agg (ct x)] (gq (qV w (if x.op=18 then mY x.n else j8 x))):=by
 have J:∀ a∈[gq w,.agg (ct x)],Tr a:=.cons (p6 _) (.cons (.agg (xi x)) .nil);refine bl aer J (p6 _) ?_;rw[aes];refine ws ?_;refine ax ?_;refine aa (aF (aj ?_));refine ax ?_;refine aa (cQ rfl (fun h=>?_) fun h=>cx (eA Y6 ?_))
 .have h:x.op=18:=by simpa using h
  have hx:=hn h;have ug:=ug (n:=x.n) oG;have p7:=p7 (w:=w) (n:=mY x.n) C (by unfold mY;omega);refine aF (eA Y7 ?_);refine ax ?_;refine cl ug ?_;refine cl p7 ?_;refine SS ?_;refine cz cJ (eQ (r9 (gN rfl rfl a201 q9 (nr oP) t201 oP) ?_));simp[h]
 .have h:x.op≠18:=by simpa using h
  have AR:=AR (x:=x);have p7:=p7 (w:=w) (n:=j8 x) C (ht h);refine SS ?_;refine aw (fg (vs:=ct _) rfl rfl V.h V.h rfl) ak (fh V.h V.h (by first|(simp;done)|omega|exact bF rfl)) ?_;refine cl AR ?_;refine cl p7 ?_;refine SS ?_;refine cz cJ (r9 (gN rfl rfl a201 q9 (nr oP) t201 oP) ?_);simp[h]
end Go.Proofs.Tryz.K
namespace Go.Argus
def mT(x:End):Bool:=decide (0<=x.others)&&bO [5,6,8] x.kind
def ez(x:End):List Int:=if bO [3,4] x.kind then [] else x.to::((if bO [2,8] x.kind then [x.gL] else [])++(x.aR.map (·.to)++(if mT x then [x.others] else [])))
def pq(x:End):Nat:=if bO [2,8] x.kind then 2 else 1
theorem aaL{x:End}(h:bO [3,4] x.kind=false):(ez x)[0]? =some x.to/\(bO [2,8] x.kind=true->(ez x)[1]? =some x.gL)/\(∀ (j:Nat) w,x.aR[j]? =some w->(ez x)[pq x+j]? =some w.to)/\
 (mT x=true->(ez x)[pq x+x.aR.length]? =some x.others)/\(ez x).length=pq x+x.aR.length+(if mT x then 1 else 0):=by
 unfold ez pq;generalize mT x=c;rw[if_neg (by simp[h])];cases h2:bO [2,8] x.kind with
 |true=>
  refine⟨rfl,fun _=>rfl,fun j w hj=>?_,fun hc=>?_,?_⟩
  .have:j<x.aR.length:=(bC.1 hj).1;simp only[if_true,List.singleton_append];rw[show 2+j=j+1+1 by omega,List.getElem?_cons_succ,List.getElem?_cons_succ,List.getElem?_append_left (by simpa using this)];simp[hj]
  .simp only[if_true,List.singleton_append];rw[show 2+x.aR.length=x.aR.length+1+1 by omega,List.getElem?_cons_succ,List.getElem?_cons_succ,List.getElem?_append_right oS];rw[if_pos hc];simp
  .cases c<;>simp<;>omega
 |false=>
  refine⟨rfl,fun h=>oH,fun j w hj=>?_,fun hc=>?_,?_⟩
  .have:j<x.aR.length:=(bC.1 hj).1;simp only[Bool.false_eq_true,if_false,List.nil_append];rw[show 1+j=j+1 by omega,List.getElem?_cons_succ,List.getElem?_append_left (by simpa using this)];simp[hj]
  .simp only[Bool.false_eq_true,if_false,List.nil_append];rw[show 1+x.aR.length=x.aR.length+1 by omega,List.getElem?_cons_succ,List.getElem?_append_right oS];rw[if_pos hc];simp
  .cases c<;>simp<;>omega
def Km(x:End)(b:Int):Bool:=dm x.to b&&dm ((ez x).count b:Nat) 1
theorem JT(x:End):(ez x).length<=x.aR.length+3:=by
 unfold ez;split
 .simp
 .simp only[List.length_cons,List.length_append,List.length_map];split<;>split<;>simp<;>omega
end Go.Argus
namespace Go.Abs
theorem xD{P:Program}{Y:eg}{rf:Bool}{Q:Exit->St->Prop}{st:St}[dy Y]{ops:Array Oper}{i:Nat}(h:aq P Y ops false [] (eT (Q .normal)) ops.toList st []):AW P Y rf (.region i ops false) Q st:=lB (rf:=rf) (id:=i) (aq.iD h fun _ h=>h)
section
variable{P:Program}{env:Env}{m:Mem}{nx:Nat}{x y:Operand}{t p:TypeId}{k:IntKind}{n n':Int}
theorem Se(hx:(opd env x).core=.s (.int .i64 n))(hy:(opd env y).core=.s (.int .i64 n')){r:Int}(hd:n - n'=r/\ -9223372036854775808<=r/\r<=9223372036854775807):Ef P (.binOp .sub t x y p) env m nx ⟨IntKind.i64=IntKind.i64,.s (.int .i64 r),[],[],0⟩:=by
 obtain⟨rfl,h⟩:=hd;exact KI hx hy h
theorem mu{j i l:Nat}{e:TypeId}{r:Row}(hx:(opd env x).core=.rs j 0 l)(hy:(opd env y).core=.s (.int k (i:Int)))(hm:m j=some r)(he:aD P t=e)(hs:P.cellsOf e=1):
 Ef P (.indexAddr t x y) env m nx ⟨bh P t=true/\i<l,.rp j i,[],[j],0⟩:=by
 have h:=Gb (P:=P) (env:=env) (m:=m) (nx:=nx) (t:=t) hx hy hm he hs;have h1:0+((i:Int)).toNat*1=i:=by simp
 have h2:(bh P t=true/\(0:Int)<=(i:Int)/\(i:Int)<l)=(bh P t=true/\i<l):=by
  apply propext;constructor
  .rintro⟨a,_,b⟩;exact⟨a,oG⟩
  .rintro⟨a,b⟩;exact⟨a,oG,oG⟩
 rw[h1,h2] at h;exact h
theorem tY{α:Type}(f:Nat->α)(i:Nat)(a b:α):up (up f i a) i b=up f i b:=by
 funext j;simp only[up];split<;>rfl
variable{Y:eg}{rf:Bool}{Q:Exit->St->Prop}{st:St}{id fU i1 i3:Nat}{rc ri:Array Oper}{body:Code}{α:Type}{cf:List (Nat×Nat)}{u:Nat}
theorem adu[dy Y](hi:bT rc=some cf)(S:α->St)(J:α->Prop)(μ:α->Nat)(C:α)(hg:aJ P st (S C))(U:J C)
 (h:∀ x,J x->aq P Y rc true cf (eT fun s=>∃ g,opd s.env (.tmp u)=.s (.bool g)/\(g=true->AW P Y rf body (k6 fU id (fun s=>aq P Y ri false [] (eT (xU P S J μ x)) ri.toList s []) Q) s)/\(g=false->Q .normal s)) rc.toList (S x) []):
 ∃ st',aJ P st st'/\AW P Y rf (.block id (.loop (.seq (.seq (.region i1 rc true) (.cond (.tmp u) .skip (.exit id))) (.seq (.block fU body) (.region i3 ri false))))) Q st':=by
 refine Cm (Q:=fv id Q) S J μ C hg U (fun x hx=>?_) (a:=.skip) fun _ h=>h;refine aF (Ah (rf:=rf) (id:=i1) hi (aq.iD (h x hx) fun s hs=>?_));obtain⟨g,h1,h2,M⟩:=hs;refine⟨s,.refl s,cQ h1 (fun X=>?_) fun yW=>?_⟩
 .exact cx (JJ (h2 X))
 .refine ta ?_;simp only[fL,fv,if_true];exact M yW
theorem tg{l:List (Nat×D)}{m':Mem}(h:kW l env)(hm:m=m'):aJ P ⟨env,m,nx⟩ ⟨ay l,m',nx⟩:=hm▸au h
end
end Go.Abs
namespace Go.Proofs.Tryz.K
theorem uj{x:Argus.End}:aB prog 175 [.agg (bD x)] (.fn (.func 234) [] [.pt (bD x)]):=by
 have C:∀ a∈[D.agg (bD x)],Tr a:=.cons (.agg (qJ x)) .nil;refine bl aeS C (.fn oS (.cons (.pt (qJ x)) .nil)) ?_;rw[aeT];refine az ?_;refine SS ?_;refine aw (jO (v:=.s .nilFunc) rfl) ak trivial ?_;refine aa (bJ (dD [(0,bD x,57)] eH (l:=[(1,.pt (bD x))]) eH) (aj ?_));refine SS ?_;refine aw (jO (v:=.fn _ _ _) rfl) ak trivial ?_;exact aa (aI rfl rfl)
def MV(l:Nat)(x:Argus.End)(I':Nat->Mem->Nat->Prop)(n:Nat)(s:St):Prop:=∃ m nx,aJ prog s ⟨ay [(0,.fn (.yield l) [] []),(1,.pt (bD x))],m,nx⟩/\I' n m nx
theorem T'{x:Argus.End}(hlen:x.aR.length<=100000):vT prog 234 [] [.pt (bD x)] ((ez x).map fun n=>[I n]):=by
 refine ac7 mixed aeU kr fun l I' Stop m nx hI CY h0=>?_;rw[aeV];by_cases U:bO [3,4] x.kind=true
 .have gX:((ez x).map fun n=>[I n]).length=0:=by simp[ez,U]
  rw[gX];by_cases M:x.kind=3
  .have nG:(x.kind==3)=true:=by simpa using M
   refine aF (aj ?_);refine ba ?_;(iterate 3 refine z fun _ _=>?_);refine ab ?_;(iterate 5 refine z fun _ _=>?_);refine SS ?_;refine aa (cQ rfl (fun h=>xB (bH (bE (vq (.inl h0))))) fun h=>oH)
  .have h4:x.kind=4:=by simpa[bO,M] using U
   have nG:(x.kind==3)=false:=by simpa using M
   have CZ:(x.kind==4)=true:=by simpa using h4
   refine aF (aj ?_);refine bw ?_;(iterate 5 refine z fun _ _=>?_);refine SS ?_;refine aa (cQ rfl (fun h=>xB (bH (bE (vq (.inl h0))))) fun h=>oH)
 have U:bO [3,4] x.kind=false:=by simpa using U
 obtain⟨x0,x1,xw,xo,xl⟩:=aaL U;have C:∀ {k:Nat} {n:Int},(ez x)[k]? =some n->((ez x).map fun n=>[I n])[k]? =some [I n]:=fun h=>by simp[h]
 have Db:((ez x).map fun n=>[I n]).length=pq x+x.aR.length+(if mT x then 1 else 0):=by simpa using xl
 have Ve:x.kind≠3/\x.kind≠4:=by simpa[bO] using U
 refine iz (MV l x I' 1) ?_ fun s hs=>?_
 .have nG:(x.kind==3)=false:=by simpa using Ve.1
  have CZ:(x.kind==4)=false:=by simpa using Ve.2
  refine ws ?_;refine bw ?_;refine ax ?_;refine KS rfl rfl rfl rfl aM ⟨rfl,0,C x0,h0,fun d m' J hp=>?_⟩;rcases hp with⟨rfl,hp⟩|⟨rfl,hp⟩
  .refine ab ?_;exact aa (aO rfl (fun h=>oH) fun h=>cI ⟨m',J,au eH,hp⟩)
  .refine ab ?_;exact aa (aO rfl (fun h=>bH (bE (vq (.inr hp)))) fun h=>oH)
 obtain⟨m1,bR,hg,h1⟩:=hs;refine⟨_,hg,?_⟩;clear hg h0;refine iz (MV l x I' (pq x)) ?_ fun s hs=>?_
 .have X:bO [2,8] x.kind=true->(ez x)[1]? =some x.gL/\pq x=2:=fun h=>⟨x1 h,by simp[pq,h]⟩
  by_cases h2:x.kind=2
  .obtain⟨y1,y2⟩:=X (by rw[h2];rfl);have nG:(x.kind==2)=true:=by simpa using h2
   refine ws ?_;refine ba ?_;(iterate 3 refine z fun _ _=>?_);refine bx ?_;refine KS rfl rfl rfl rfl aM ⟨rfl,1,C y1,h1,fun d m' J hp=>?_⟩;rcases hp with⟨rfl,hp⟩|⟨rfl,hp⟩
   .refine ab ?_;exact aa (aO rfl (fun h=>oH) fun h=>cI ⟨m',J,au eH,y2▸hp⟩)
   .refine ab ?_;exact aa (aO rfl (fun h=>bH (bE (vq (.inr hp)))) fun h=>oH)
  .have nG:(x.kind==2)=false:=by simpa using h2
   by_cases h8:x.kind=8
   .obtain⟨y1,y2⟩:=X (by rw[h8];rfl);have CZ:(x.kind==8)=true:=by simpa using h8
    refine ws ?_;refine bw ?_;refine ax ?_;refine KS rfl rfl rfl rfl aM ⟨rfl,1,C y1,h1,fun d m' J hp=>?_⟩;rcases hp with⟨rfl,hp⟩|⟨rfl,hp⟩
    .refine ab ?_;exact aa (aO rfl (fun h=>oH) fun h=>cI ⟨m',J,au eH,y2▸hp⟩)
    .refine ab ?_;exact aa (aO rfl (fun h=>bH (bE (vq (.inr hp)))) fun h=>oH)
   .have CZ:(x.kind==8)=false:=by simpa using h8
    have hb:pq x=1:=by simp[pq,bO,h2,h8]
    refine ws ?_;refine bw ?_;(iterate 5 refine z fun _ _=>?_);refine SS ?_;exact aa (aO rfl (fun h=>oH) fun h=>cI ⟨m1,bR,au eH,hb▸h1⟩)
 obtain⟨m2,gK,hg,h2⟩:=hs;refine⟨_,hg,?_⟩;clear hg;refine iz (MV l x I' (pq x+x.aR.length)) (az ?_) fun s hs=>?_
 .refine ba ?_
  refine aa (cy (α:=Nat×Mem×Nat) (fun k=>⟨ay [(0,.fn (.yield l) [] []),(1,.pt (bD x)),(36,lC x.aR),(37,I x.aR.length),(38,I k.1)],k.2.1,k.2.2⟩)
   (fun k=>k.1<=x.aR.length/\I' (pq x+k.1) k.2.1 k.2.2) (fun k=>x.aR.length - k.1) (0,m2,gK) (au eH) ⟨oG,h2⟩ ?_)
  rintro⟨k,m3,Vf⟩ ⟨hk,Hw⟩;refine SS ?_;refine aa ⟨_,rfl,fun h=>?_,fun h=>?_⟩
  .have af:k<x.aR.length:=by simpa using h
   have hx:x.aR[k]? =some x.aR[k]:=by simp[af]
   generalize x.aR[k]=w at hx;refine ws ?_;refine ba ?_;refine er ?_;refine ab ?_;refine aw (j5 rfl (ah _ _ _) rfl V.h) ak (j6 V.h V.h rfl) ?_;refine Lz rfl rfl aM ⟨rfl,pq x+k,C (xw k w hx),hI _ _ _ _ _ Hw oG (fun i hi=>ag oG (ag oG rfl)),fun d m' J hp=>?_⟩;rcases hp with⟨rfl,hp⟩|⟨rfl,hp⟩
   .refine SS ?_;refine aa (aO rfl (fun h=>oH) fun h=>cT ?_);refine ab ?_;exact aa (bi (k+1,m',J) (au eH) ⟨by simp only;omega,hp⟩ (by simp only;omega))
   .refine SS ?_;exact aa (aO rfl (fun h=>bH (cm (bE (vq (.inr hp))))) fun h=>oH)
  .have bq:¬ k<x.aR.length:=by simpa using h
   have:k=x.aR.length:=by simp only at hk;omega
   subst this;exact⟨m3,Vf,.forget _ _ _ _ fun t=>py (l:=[(0,.fn (.yield l) [] []),(1,.pt (bD x))]) ⟨rfl,rfl,trivial⟩ t,Hw⟩
 obtain⟨m3,Vf,hg,M⟩:=hs;refine⟨_,hg,aj ?_⟩;refine bw ?_;refine bw ?_;refine aa (aO rfl (fun h=>?_) fun h=>?_)
 .have hc:mT x=true:=by
   revert h;unfold mT bO;simp[ib,or_assoc]
  refine xD ?_;refine ax ?_;refine Lz rfl rfl aM ⟨rfl,_,C (xo hc),M,fun d m' J hp=>?_⟩;refine aa (vr ?_);rcases hp with⟨rfl,hp⟩|⟨rfl,hp⟩
  .left;rw[Db,if_pos hc];exact hp
  .exact .inr hp
 .have hc:mT x=false:=by
   revert h;unfold mT bO;simp[ib,and_assoc]
  refine cT (vr (.inl ?_));rw[Db,hc];exact M
theorem LP{x:Argus.End}{b:Int}(hlen:x.aR.length<=1000):aB prog 185 [.agg (bD x),I b] (B (Km x b)):=by
 have J:∀ a∈[D.agg (bD x),I b],Tr a:=.cons (.agg (qJ x)) (.cons (.s _) .nil);have uj:=uj (x:=x);have hl:=JT x;refine bl ae3 J (Tr.s _) ?_;rw[ae4];refine az ?_;refine SS ?_;refine eI (F9 (d:=.s (.int _ _)) rfl rfl) ak rfl ?_;refine SS ?_;refine aa (bJ (dD [(0,bD x,57),(1,[I b],3)] eH (l:=[(2,.pt (bD x)),(3,.pt [I b])]) eH) (aj ?_));refine ab ?_;refine aa ?_;refine iz (fun s=>∃ n',aJ prog s ⟨ay [(2,.pt (bD x)),(3,.pt [I b]),(5,.rp 2 0)],br [(2,.cells [I ((ez x).count b:Nat)] 3)],n'⟩) (aj ?_) fun s hs=>?_
 .refine SS ?_;refine cl uj ?_;refine aa (pz ?_);refine⟨rfl,trivial,234,[],[.pt (bD x)],(ez x).map (fun n=>[I n]),fun k m nx=>m 2=some (.cells [I (((ez x).take k).count b:Nat)] 3)/\3<=nx,rfl,T' oG,?_,⟨rfl,oS⟩,?_,?_⟩
  .intro y hy;obtain⟨n,_,rfl⟩:=List.mem_map.1 hy;exact⟨rfl,.cons (.s _) .nil⟩
  .rintro k m nx y hy ⟨ao,M⟩;simp only[List.getElem?_map,cO] at hy;obtain⟨n,hn,rfl⟩:=hy;have hk:k<(ez x).length:=(bC.1 hn).1
   have hc:((ez x).take (k+1)).count b=((ez x).take k).count b+(if n=b then 1 else 0):=by
    rw[List.take_add_one,hn,List.count_append];by_cases e:n=b
    .subst e;simp
    .simp[e]
   have C:((ez x).take k).count b<=k:=Nat.le_trans List.count_le_length oP;generalize ((ez x).take k).count b=c at ao hc C;refine xD ?_;refine SS ?_;refine aa (show AW _ _ _ _ _ _ from pz (aj ?_));refine ax ?_;refine aa (aO rfl (fun h=>?_) fun h=>?_)
   .have h:n=b:=by simpa using h
    refine xD ?_;refine ab ?_;refine bN (eK (d:=.s (.int _ _)) (cs':=[_]) rfl rfl ao rfl rfl) ak (bX V.h V.h (by first|(simp;done)|exact⟨rfl,bF rfl⟩|(simp;omega)) rfl) ?_;refine aa ?_;refine⟨?_,oM⟩;dsimp only;refine(ah _ _ _).trans ?_;rw[hc,if_pos h];simp
   .have h:¬ n=b:=by simpa using h
    exact cT ⟨by rw[hc,if_neg h];exact ao,M⟩
  .rintro m nx ⟨h1,h2⟩;refine⟨nx,bZ eH ⟨?_,trivial⟩⟩;rw[h1,List.length_map,List.take_length]
 obtain⟨n',hg⟩:=hs;refine⟨_,hg,aj ?_⟩;refine bw ?_;refine aa (aI (d:=.s (.bool _)) rfl ?_);simp[Km,dm,ib]
theorem LQ{f:FuncId}{cs:List D}{xs:List Int}(hs:vT prog f [] cs (xs.map fun n=>[I n]))(ht:Tr (.fn (.func f) [] cs))(hlen:xs.length<=100000):ko prog 251 [.z,.fn (.func f) [] cs] (xs.map I) xs.length 3:=by
 have X:∀ a∈[D.z,.fn (.func f) [] cs],Tr a:=.cons .z (.cons ht .nil);refine HK ae5 X (.map fun _=>.s _) ?_;rw[ae6];refine ws ?_;refine eI (F9 (d:=.z) rfl rfl) ak rfl ?_;refine SS ?_;refine aa ?_;refine iz (fun s=>(xs=[]/\∃ n',aJ prog s ⟨ay [(2,.rp 0 0)],br [(0,.cells [.z] 43)],n'⟩)\/∃ r n',0<r/\aJ prog s ⟨ay [(2,.rp 0 0)],br [(0,.cells [.rs r 0 xs.length] 43),(r,.cells (xs.map I) 3)],n'⟩) (aj ?_) fun s hs=>?_
 .refine SS ?_;refine aa (pz ?_);refine⟨rfl,trivial,f,[],cs,xs.map (fun n=>[I n]),fun k m nx=>1<=nx/\((k=0/\m 0=some (.cells [.z] 43))\/(0<k/\∃ r,0<r/\r<nx/\m 0=some (.cells [.rs r 0 k] 43)/\m r=some (.cells ((xs.take k).map I) 3))),rfl,hs,?_,⟨oS,.inl ⟨rfl,rfl⟩⟩,?_,?_⟩
  .intro y hy;obtain⟨n,_,rfl⟩:=List.mem_map.1 hy;exact⟨rfl,.cons (.s _) .nil⟩
  .rintro k m nx y hy ⟨cv,C⟩;simp only[List.getElem?_map,cO] at hy;obtain⟨n,hn,rfl⟩:=hy;have hk:k<xs.length:=(bC.1 hn).1
   have J:(xs.take (k+1)).map I=(xs.take k).map I++[I n]:=by
    rw[List.take_add_one,hn];simp
   refine xD ?_;refine SS ?_;refine aa (show AW _ _ _ _ _ _ from pz (xD ?_));rcases C with⟨rfl,ao⟩|⟨sQ,r,M,U,ao,gR⟩
   .refine ba ?_;refine bN (eK (d:=.rs _ _ _) (cs':=[_]) rfl rfl (ag oG (ag oG ao)) rfl rfl) ak (bX V.h V.h (by first|(simp;done)|exact⟨rfl,bF rfl⟩|(simp;omega)) rfl) ?_;refine aa ?_;refine⟨oM,.inr ⟨oG,nx+1,oG,oM,?_,?_⟩⟩
    .dsimp only;exact(ah _ _ _).trans rfl
    .dsimp only;exact(ag oG (ah _ _ _)).trans (by rw[J];rfl)
   .have rC:((xs.take k).map I).length=k:=by simp;omega
    refine ba ?_;refine bN (eK (d:=.rs _ _ _) (cs':=[_]) rfl rfl (ag oG (ag oG (ag oG ao))) rfl rfl) ak (bX V.h V.h (by first|(simp;done)|exact⟨rfl,bF rfl⟩|(simp;omega)) rfl) ?_;refine aa ?_;refine⟨oM,.inr ⟨oG,nx+1,oG,oM,?_,?_⟩⟩
    .dsimp only;exact(ah _ _ _).trans rfl
    .dsimp only;exact(ag oG (ah _ _ _)).trans (by rw[J];rfl)
  .rintro m nx ⟨cv,C⟩;rw[List.length_map] at C;rcases C with⟨h0,ao⟩|⟨sQ,r,M,U,ao,gR⟩
   .exact .inl ⟨List.length_eq_zero_iff.1 h0,nx,bZ eH ⟨ao,trivial⟩⟩
   .refine .inr ⟨r,nx,M,bZ eH ⟨ao,?_,trivial⟩⟩;rw[gR,List.take_length]
 rcases hs with⟨rfl,n',hg⟩|⟨r,n',hr,hg⟩
 .refine⟨_,hg,az ?_⟩;refine ab ?_;refine aa ⟨_,.r4 _ _ _ 4 3 rfl,aI rfl ⟨n',?_,ah _ _ _⟩⟩;rfl
 .refine⟨_,hg,aj ?_⟩;refine ab ?_;refine aa (aI rfl ⟨r,rfl,?_⟩);simp[br];omega
theorem LR{f:FuncId}{cs:List D}{xs:List Int}(hs:vT prog f [] cs (xs.map fun n=>[I n]))(ht:Tr (.fn (.func f) [] cs))(hlen:xs.length<=100000):ko prog 244 [.fn (.func f) [] cs] (xs.map I) xs.length 3:=by
 have C:∀ a∈[.fn (.func f) [] cs],Tr a:=.cons ht .nil;refine HK ae7 C (.map fun _=>.s _) ?_;rw[ae8];have LQ:=LQ hs ht hlen;refine ws ?_;refine SS ?_;refine er ?_;refine SS ?_;refine KR LQ rfl aM ?_;refine SS ?_;exact aa (aI rfl ⟨0,rfl,rfl⟩)
end Go.Proofs.Tryz.K
namespace Go.Argus
def swapAt(l:List Int)(j:Nat):List Int:=(l.set (j+1) (l.getD j 0)).set j (l.getD (j+1) 0)
def ou(l:List Int):Nat->List Int
 |0=>l
 |j+1=>if l.getD (j+1) 0<l.getD j 0 then ou (swapAt l j) j else l
def mE(l:List Int):Nat->List Int
 |0=>l
 |k+1=>ou (mE l k) (k+1)
def nu(l:List Int):List Int:=mE l (l.length - 1)
@[simp] theorem al9 (l : List Int) (j : Nat) : (swapAt l j).length = l.length := by simp [swapAt]
@[simp] theorem aa2 : ∀ (j : Nat) (l : List Int), (ou l j).length = l.length
 |0,l=>rfl
 |j+1,l=>by simp only[ou];split<;>simp[aa2 j]
@[simp] theorem Pq (l : List Int) : ∀ k, (mE l k).length = l.length
 |0=>rfl
 |k+1=>by simp[mE,Pq l k]
@[simp] theorem Pr (l : List Int) : (nu l).length = l.length := Pq l _
def ff(d:List Int):Nat->List Int
 |0=>[]
 |t+1=>ff d t++(if t≠0/\d.getD t 0=d.getD (t - 1) 0 then [] else [d.getD t 0])
def nb(d:List Int):List Int:=ff d d.length
theorem RE{d:List Int}{x:Int}:∀ {t:Nat},t<=d.length->(x∈ff d t↔x∈d.take t)
 |0,_=>by simp[ff]
 |t+1,ht=>by
  have ih:=RE (d:=d) (x:=x) (t:=t) oG;have hg:d.getD t 0=d[t]:=by simp[dC,a7 (show t<d.length by omega)]
  rw[ff,List.mem_append,ih,List.take_succ_eq_append_getElem oG,List.mem_append];split
  .rename_i h;have h1:d[t - 1]? =some d[t - 1]:=a7 oG
   have C:d[t]∈d.take t:=by
    rw[<- hg,h.2];have:d.getD (t - 1) 0=d[t - 1]:=by simp[dC,h1]
    rw[this];exact bu (i:=t - 1) (by rw[List.getElem?_take,if_pos oG,h1])
   constructor
   .rintro(h|h)
    .exact .inl h
    .simp at h
   .rintro(h|h)
    .exact .inl h
    .simp at h;subst h;exact .inl C
  .rw[hg]
theorem RF{d:List Int}:∀ t,(ff d t).length<=t
 |0=>by simp[ff]
 |t+1=>by
  have:=RF (d:=d) t;rw[ff,List.length_append];split<;>simp<;>omega
theorem Sq{d:List Int}{t:Nat}(ht:t<d.length)(h0:t≠0)(h:d.getD t 0=d.getD (t - 1) 0):ff d (t+1)=ff d t:=by
 rw[ff,if_pos ⟨h0,h⟩,List.append_nil]
theorem Sr{d:List Int}{t:Nat}(h:d.getD t 0≠d.getD (t - 1) 0):ff d (t+1)=ff d t++[d.getD t 0]:=by
 rw[ff,if_neg fun hh=>h hh.2]
end Go.Argus
namespace Go.Proofs.Tryz.K
theorem ajc{a:Int}:aB prog 277 [I a] (B false):=by
 refine bl afl (by simp[Tr.s]) (Tr.s _) ?_;rw[afm];refine ws ?_;refine SS ?_;refine er ?_;refine ba ?_;refine aa (aI (d:=.s (.bool _)) rfl ?_);simp[bne]
theorem ajd{a b:Int}:aB prog 266 [I a,I b] (B (decide (a<b))):=by
 refine bl afn (by simp[Tr.s]) (Tr.s _) ?_;rw[afo];refine ws ?_;refine SS ?_;refine er ?_;refine SS ?_;refine cl ajc ?_;refine SS ?_;(iterate 3 refine z fun _ _=>?_);refine iu ?_;exact aa (aI (d:=.s (.bool _)) rfl rfl)
theorem aje{m:Mem}{nx i n:Nat}{l:List Int}(hi:i<nx)(hm:m i=some (.cells (l.map I) 3))(hl:l.length=n)(hn:n<=12):
 fG prog 260 [.rs i 0 n,I 0,I n] m nx (fun r m' X=>r=.aL []/\X=nx/\m'=up m i (some (.cells ((nu l).map I) 3))):=by
 refine uL afp ?_;rw[afq]
 have U:up m i (some (.cells (l.map I) 3))=m:=by
  funext j;simp only[up];split
  .rename_i e;rw[e,hm]
  .rfl
 refine az ?_;refine ax ?_;refine aa (k7 (α:=Nat) (fun k=>⟨ay [(0,.rs i 0 n),(1,I 0),(2,I n),(6,I (k+1:Nat))],up m i (some (.cells ((mE l k).map I) 3)),nx⟩) (fun k=>k<=n - 1) (fun k=>n - k) 0 (tg eH U.symm) oG ?_);intro k hk;refine ax ?_;refine aa ⟨_,rfl,fun h=>?_,fun h=>?_⟩
 .have af:k+1<n:=by have:((k+1:Nat):Int)<n:=by simpa using h
                    omega
  refine az ?_;refine ab ?_;refine aa (adu Zy (α:=List Int×Nat) (fun s=>⟨ay [(0,.rs i 0 n),(1,I 0),(2,I n),(6,I (k+1:Nat)),(7,I s.2)],up m i (some (.cells (s.1.map I) 3)),nx⟩) (fun s=>s.1.length=n/\s.2<=k+1/\ou s.1 s.2=mE l (k+1)) (fun s=>s.2) (mE l k,k+1) (au eH) ⟨by simp[hl],oS,rfl⟩ ?_);rintro⟨d,j⟩ ⟨hd,hj,hs⟩;simp only at hd hj hs;cases j with
  |zero=>
   have vW:decide ((0:Int)<((0:Nat):Int))=false:=rfl;refine ba ?_;(iterate 10 refine z fun _ _=>?_);refine SS ?_;refine cz cJ ⟨_,rfl,fun h=>oH,fun h=>?_⟩;have hs:d=mE l (k+1):=hs;subst hs;show aq _ _ _ _ _ _ _ _ _;refine ax ?_;exact aa (bi (k+1) (au eH) oG oG)
  |succ j=>
   have ha:d[j+1]? =some d[j+1]:=a7 oG;have hb:d[j]? =some d[j]:=a7 oG;have J:d.getD (j+1) 0=d[j+1]:=by simp[dC,ha]
   have M:d.getD j 0=d[j]:=by simp[dC,hb]
   have kd:=mZ (f:=I) ha;have C:=mZ (f:=I) hb;generalize hA:d[j+1]=a at ha J kd;generalize hB:d[j]=b at hb M C;clear hA hB;have vW:decide ((0:Int)<((j+1:Nat):Int))=true:=by simp
   have vX:((j+1:Nat):Int) - 1=(j:Int)/\ -9223372036854775808<=(j:Int)/\(j:Int)<=9223372036854775807:=by omega
   refine cw ?_;refine bt rfl rfl (mu rfl rfl (ah _ _ _) V.h V.h) (fun hc=>⟨ak,⟨V.h,oG⟩⟩) ?_;refine bt rfl rfl (j5 rfl (ah _ _ _) kd V.h) (fun hc=>⟨ak,(j6 V.h V.h kd)⟩) ?_;refine ax ?_;refine bt rfl rfl (mu rfl rfl (ah _ _ _) V.h V.h) (fun hc=>⟨ak,⟨V.h,oG⟩⟩) ?_;refine bt rfl rfl (j5 rfl (ah _ _ _) C V.h) (fun hc=>⟨ak,(j6 V.h V.h C)⟩) ?_;refine gc ajd ?_;refine SS ?_;refine cz cJ ⟨_,rfl,fun h=>?_,fun h=>?_⟩
   .have h:a<b:=by simpa using h
    refine Co Zz ?_;refine bw ?_;refine aw (j5 rfl (ah _ _ _) C V.h) ak (j6 V.h V.h C) ?_;refine dJ ?_;refine cz cJ ?_;refine ax ?_;refine aa (bi (swapAt d j,j) (tg eH ?_) ⟨by simp[hd],by simp only;omega,?_⟩ (by simp only;omega))
    .rw[tY,tY];simp only[swapAt,J,M,List.map_set]
    .rw[<- hs];simp only[ou,J,M,if_pos h]
   .have h:¬ a<b:=by simpa using h
    have hs:d=mE l (k+1):=by rw[<- hs];simp only[ou,J,M,if_neg h]
    subst hs;show aq _ _ _ _ _ _ _ _ _;refine ax ?_;exact aa (bi (k+1) (au eH) oG oG)
 .have bq:¬ k+1<n:=by have h:¬ ((k+1:Nat):Int)<n:=by simpa using h
                      omega
  refine vr ⟨rfl,rfl,?_⟩;have:k=n - 1:=by omega
  subst this;simp only[nu,hl]
theorem ajf{m:Mem}{nx i n:Nat}{l:List Int}{kN:Int}(hi:i<nx)(hm:m i=some (.cells (l.map I) 3))(hl:l.length=n)(hn:n<=12):
 fG prog 252 [.rs i 0 n,I 0,I n,I kN] m nx (fun r m' C=>r=.aL []/\C=nx/\m'=up m i (some (.cells ((nu l).map I) 3))):=by
 refine uL afr ?_;rw[afs];refine ws ?_;refine SS ?_;refine aa (az ?_);refine SS ?_;refine aa ⟨_,au (l:=[(0,.rs i 0 n),(1,I 0),(2,I n)]) eH,pz (Q9 (fun s=>s=⟨ay [(0,.rs i 0 n),(1,I 0),(2,I n)],m,nx⟩) (fun _=>0) rfl fun s hs=>?_)⟩;subst hs;refine pz (aj ?_);refine ba ?_;refine aa (aF (aj ?_));refine ab ?_;refine aa (cQ rfl (fun h=>?_) fun h=>?_)
 .refine aF (aj ?_);refine ax ?_;refine gn (aje hi hm hl hn) rfl aM fun r m' C hp=>?_;obtain⟨rfl,rfl,rfl⟩:=hp;exact aa (eQ (eB (bE (eB (vq ⟨rfl,rfl,rfl⟩)))))
 .have:¬ ((n:Int) - 0<=12):=by simpa using h
  omega
theorem LX{n:Nat}(hn:n<=12):∃ r,aB prog 253 [.s (.int .u64 (IntKind.u64.wrap (n:Int)))] (I r):=by
 match n,hn with
 |0,_=>exact⟨0,nW n5 100 rfl kr⟩
 |1,_=>exact⟨1,nW n5 100 rfl kr⟩
 |2,_=>exact⟨2,nW n5 100 rfl kr⟩
 |3,_=>exact⟨2,nW n5 100 rfl kr⟩
 |4,_=>exact⟨3,nW n5 100 rfl kr⟩
 |5,_=>exact⟨3,nW n5 100 rfl kr⟩
 |6,_=>exact⟨3,nW n5 100 rfl kr⟩
 |7,_=>exact⟨3,nW n5 100 rfl kr⟩
 |8,_=>exact⟨4,nW n5 100 rfl kr⟩
 |9,_=>exact⟨4,nW n5 100 rfl kr⟩
 |10,_=>exact⟨4,nW n5 100 rfl kr⟩
 |11,_=>exact⟨4,nW n5 100 rfl kr⟩
 |12,_=>exact⟨4,nW n5 100 rfl kr⟩
theorem ajg{m:Mem}{nx i n:Nat}{l:List Int}(hi:i<nx)(hm:m i=some (.cells (l.map I) 3))(hl:l.length=n)(hn:n<=12):
 fG prog 245 [.rs i 0 n] m nx (fun r m' C=>r=.aL []/\C=nx/\m'=up m i (some (.cells ((nu l).map I) 3))):=by
 refine uL aft ?_;rw[afu];obtain⟨kN,LX⟩:=LX hn;have ao:=hm;refine ws ?_;refine ax ?_;refine aa (xD ?_);refine ba ?_;refine cl LX ?_;refine gn (ajf hi hm hl hn) rfl aM fun r m' C hp=>?_;obtain⟨rfl,rfl,rfl⟩:=hp;exact aa (vr ⟨rfl,rfl,rfl⟩)
end Go.Proofs.Tryz.K
namespace Go.Abs
section
variable{P:Program}{env:Env}{m:Mem}{nx:Nat}{x y:Operand}{t p:TypeId}{k:IntKind}{n n':Int}
theorem ab5{j i l off:Nat}{e:TypeId}{r:Row}(hx:(opd env x).core=.rs j off l)(hy:(opd env y).core=.s (.int k (i:Int)))(hm:m j=some r)(he:aD P t=e)(hs:P.cellsOf e=1):
 Ef P (.indexAddr t x y) env m nx ⟨bh P t=true/\i<l,.rp j (off+i),[],[j],0⟩:=by
 have h:=Gb (P:=P) (env:=env) (m:=m) (nx:=nx) (t:=t) hx hy hm he hs;have h1:off+((i:Int)).toNat*1=off+i:=by simp
 have h2:(bh P t=true/\(0:Int)<=(i:Int)/\(i:Int)<l)=(bh P t=true/\i<l):=by
  apply propext;constructor
  .rintro⟨a,_,b⟩;exact⟨a,oG⟩
  .rintro⟨a,b⟩;exact⟨a,oG,oG⟩
 rw[h1,h2] at h;exact h
theorem Pt{i l a:Nat}{cs:List D}{e:TypeId}(hx:(opd env x).core=.rs i 0 l)(hm:m i=some (.cells cs e))(he:aD P t=e)(hs:P.cellsOf e=1)(ha:(opd env y).core=.s (.int .i64 (a:Int))):
 Ef P (.slice t x (some y) none none) env m nx ⟨bh P t=true/\a<=l,.rs i a (l - a),[],[i],0⟩:=by
 have h:=E0 (P:=P) (env:=env) (m:=m) (nx:=nx) (t:=t) (lo:=some y) (hi:=none) (a:=(a:Int)) (b:=(l:Int)) hx hm he hs (by simp[dW,ha,D.int?]) (by simp[dW]);have h1:0+((a:Int)).toNat*1=a:=by simp
 have C:((l:Int) - (a:Int)).toNat=l - a:=by omega
 have h2:((bh P t=true/\1=1)/\(0:Int)<=(a:Int)/\(a:Int)<=(l:Int)/\(l:Int)<=(l:Int))=(bh P t=true/\a<=l):=by
  apply propext;constructor
  .rintro⟨⟨a,_⟩,_,b,_⟩;exact⟨a,oG⟩
  .rintro⟨a,b⟩;exact⟨⟨a,rfl⟩,oG,oG,oG⟩
 rw[h1,h2,C] at h;exact h
theorem ZD{i l b:Nat}{cs:List D}{e:TypeId}(hx:(opd env x).core=.rs i 0 l)(hm:m i=some (.cells cs e))(he:aD P t=e)(hs:P.cellsOf e=1)(hb:(opd env y).core=.s (.int .i64 (b:Int))):
 Ef P (.slice t x none (some y) none) env m nx ⟨bh P t=true/\b<=l,.rs i 0 b,[],[i],0⟩:=by
 have h:=E0 (P:=P) (env:=env) (m:=m) (nx:=nx) (t:=t) (lo:=none) (hi:=some y) (a:=0) (b:=(b:Int)) hx hm he hs (by simp[dW]) (by simp[dW,hb,D.int?]);have h1:0+((0:Int)).toNat*1=0:=by simp
 have C:((b:Int) - 0).toNat=b:=by omega
 have h2:((bh P t=true/\1=1)/\(0:Int)<=0/\(0:Int)<=(b:Int)/\(b:Int)<=(l:Int))=(bh P t=true/\b<=l):=by
  apply propext;constructor
  .rintro⟨⟨a,_⟩,_,_,b⟩;exact⟨a,oG⟩
  .rintro⟨a,b⟩;exact⟨⟨a,rfl⟩,oG,oG,oG⟩
 rw[h1,h2,C] at h;exact h
theorem acq{i off l:Nat}{cs z:List D}{e:TypeId}(hx:(opd env x).core=.rs i off l)(hm:m i=some (.cells cs e))(he:aD P t=e)(hz:a8 P e=z):
 Ef P (.call { callee:=.builtin .clear,args:= #[x],argTypes:= #[t] }) env m nx ⟨bh P t=true/\off+l*P.cellsOf e<=cs.length/\e=e,.aL [],[(i,some (.cells (gB cs off (dx l z)) e))],[i],0⟩:=by
 refine vE («aS»:=[.rs i off l]) rfl (by simp[hx]) ?_;simp only[fE,hm,hz,Array.getD_eq_getD_getElem?,List.getElem?_toArray,List.getElem?_cons_zero,Option.getD_some,he]
theorem Yc{cs:List D}{n k:Nat}{x:D}(hn:cs.length=n)(hk:k<=n):gB cs k (dx (n - k) [x])=cs.take k++replicate (n - k) x:=by
 have hr:dx (n - k) [x]=replicate (n - k) x:=by
  unfold dx;generalize n - k=j
  induction j with
  |zero=>rfl
  |succ j ih=>simp[List.replicate_succ,ih]
 rw[hr];unfold gB;split
 .rename_i y e;have h1:n - k=1:=by have:=congrArg List.length e;simpa using this
  rw[h1] at e ⊢;simp at e;subst e;rw[List.set_eq_take_append_cons_drop,if_pos oG,List.drop_eq_nil_of_le oG];rfl
 .rw[List.length_replicate,List.drop_eq_nil_of_le oG,List.append_nil]
end
end Go.Abs
namespace Go.Proofs.Tryz.K
def Dj(d:List Int)(n:Nat):List D:=(nb d).map I++replicate (n - (nb d).length) (I 0)
def RG(d:List Int)(n:Nat)(m:Mem)(nx i:Nat)(r:D)(m':Mem)(C:Nat):Prop:=C=nx/\r=.rs i 0 (nb d).length/\m'=up m i (some (.cells (Dj d n) 3))
def adz(d:List Int)(m:Mem)(nx i:Nat)(r:D)(m':Mem)(C:Nat):Prop:=C=nx/\r=.rs i 0 (nb d).length/\∃ c,m'=up m i (some (.cells c 3))/\c.take (nb d).length=(nb d).map I
theorem afv{m:Mem}{nx i n:Nat}{d:List Int}(hi:i<nx)(hm:m i=some (.cells (d.map I) 3))(hl:d.length=n)(hn:n<=100000):fG prog 232 [.rs i 0 n] m nx (RG d n m nx i):=by
 refine uL afw ?_;rw[afx];have ao:=hm
 have U:up m i (some (.cells (d.map I) 3))=m:=by
  funext j;simp only[up];split
  .rename_i e;rw[e,hm]
  .rfl
 have whole:ff d n=d->RG d n m nx i (.rs i 0 n) m nx:=fun h=>by
  have h:nb d=d:=by unfold nb;rw[hl];exact h
  refine⟨rfl,by rw[h,hl],?_⟩;rw[Dj,h,hl,Nat.sub_self,List.replicate_zero,List.append_nil,U]
 refine ws ?_;refine SS ?_;refine aa (aF (aj ?_));refine ax ?_;refine aa (cQ rfl (fun h=>?_) fun h=>cx (aF (az ?_)))
 .have h:n<2:=by have h:(n:Int)<2:=by simpa using h
                 omega
  refine aF (aj ?_);refine ab ?_;refine aa (eQ (aI rfl (whole ?_)))
  match d,n,hl,h with
  |[],_,rfl,_=>rfl
  |[a],_,rfl,_=>rfl
 have h2:2<=n:=by have h:¬ (n:Int)<2:=by simpa using h
                  omega
 refine SS ?_;refine aa (cn (fun s=>aJ prog s ⟨ay [(0,.rs i 0 n)],m,nx⟩/\ff d n=d) (k7 (α:=Nat) (fun k=>⟨ay [(0,.rs i 0 n),(3,I k)],m,nx⟩) (fun k=>1<=k/\k<=n/\ff d k=d.take k) (fun k=>n - k) 1 (au eH) ⟨oG,oG,?_⟩ ?_) ?_)
 .match d,hl with
  |a::t,_=>rfl
  |[],hl=>simp at hl;omega
 .rintro k ⟨yR,hk,J⟩;refine ba ?_;refine aa ⟨_,rfl,fun h=>?_,fun h=>?_⟩
  .have af:k<n:=by have h:(k:Int)<n:=by simpa using h
                   omega
   obtain⟨j,rfl⟩:∃ j,k=j+1:=⟨k - 1,oG⟩
   have ha:d[j+1]? =some d[j+1]:=a7 oG;have hb:d[j]? =some d[j]:=a7 oG;have ga:d.getD (j+1) 0=d[j+1]:=by simp[dC,ha]
   have gb:d.getD j 0=d[j]:=by simp[dC,hb]
   have kd:=mZ (f:=I) ha;have C:=mZ (f:=I) hb;have vX:((j+1:Nat):Int) - 1=(j:Int)/\ -9223372036854775808<=(j:Int)/\(j:Int)<=9223372036854775807:=by omega
   refine eA ZE ?_;refine dJ ?_;refine aw (j5 rfl ao C V.h) ak (j6 V.h V.h C) ?_;refine SS ?_;refine cz cJ (aO rfl (fun h=>?_) fun h=>?_)
   .have sT:d[j+1]=d[j]:=by simpa using h
    refine ws ?_;refine ab ?_;refine aw (Pt rfl ao V.h V.h rfl) ak ⟨V.h,oG⟩ ?_;refine SS ?_;refine aa (aF (az ?_));refine SS ?_;have ajB:ff d (j+1+1)=ff d (j+1):=Sq oG oG (by rw[ga,show j+1 - 1=j by omega,gb];exact sT);have sQ:(ff d (j+1)).length=j+1:=by rw[J];simp;omega
    clear kd C vX
    refine aa (cn (fun s=>∃ (c:List Int) (k:Nat),aJ prog s ⟨ay [(0,.rs i 0 n),(3,I (k:Nat))],up m i (some (.cells (c.map I) 3)),nx⟩/\c.length=n/\k<=n/\c.take k=ff d n) (k7 (α:=List Int×Nat×Nat) (fun s=>⟨ay [(0,.rs i 0 n),(3,I s.2.1),(4,.rs i (j+1) (n - (j+1))),(5,I (s.2.2+1:Nat))],up m i (some (.cells (s.1.map I) 3)),nx⟩)
     (fun s=>s.1.length=n/\j+1+(s.2.2+1)<=n/\s.2.1<=j+1+s.2.2/\s.1.take s.2.1=ff d (j+1+(s.2.2+1))/\∀ p,j+1+s.2.2<=p->s.1[p]? =d[p]?) (fun s=>n - s.2.2) (d,j+1,0) (tg eH U.symm) ⟨hl,by simp only;omega,by simp only;omega,?_,fun _ _=>rfl⟩ ?_) ?_)
    .show d.take (j+1)=ff d (j+1+1);rw[ajB,J]
    .rintro⟨c,k,q⟩ ⟨M,w2,w3,w4,X⟩;simp only at M w2 w3 w4 X;dsimp only;refine ab ?_;refine aw (Gc rfl (ah _ _ _)) ak V.h ?_;refine SS ?_;refine aa ⟨_,rfl,fun h=>?_,fun h=>?_⟩
     .have af:q+1<n - (j+1):=by have h:((q+1:Nat):Int)<((n - (j+1):Nat):Int):=by simpa using h
                                omega
      have xa:c[j+1+(q+1)]? =some c[j+1+(q+1)]:=a7 oG;have xb:c[j+1+q]? =some c[j+1+q]:=a7 oG;have ya:d.getD (j+1+(q+1)) 0=c[j+1+(q+1)]:=by rw[dC, <- X _ oG,xa];rfl
      have yb:d.getD (j+1+q) 0=c[j+1+q]:=by rw[dC, <- X _ oG,xb];rfl
      have kd:=mZ (f:=I) xa;have C:=mZ (f:=I) xb;generalize hA:c[j+1+(q+1)]=a at xa ya kd;generalize hB:c[j+1+q]=b at xb yb C;clear hA hB;have vX:((q+1:Nat):Int) - 1=(q:Int)/\ -9223372036854775808<=(q:Int)/\(q:Int)<=9223372036854775807:=by omega
      refine eA Ye ?_;refine dJ ?_;refine aw (j5 rfl (ah _ _ _) C V.h) ak (j6 V.h V.h C) ?_;refine SS ?_;refine cz cJ (aO rfl (fun h=>?_) fun h=>?_)
      .have aE:a≠b:=by simpa using h
       have hn:=Sr (d:=d) (t:=j+1+(q+1)) (by rw[ya,show j+1+(q+1) - 1=j+1+q by omega,yb];exact aE);refine ws ?_;refine dJ ?_;refine aa (fF ?_);refine ax ?_;refine aa ?_;refine ax ?_;refine aa (bi (c.set k a,k+1,q+1) (tg eH ?_) ⟨by simp[M],by simp only;omega,by simp only;omega,?_,fun p hp=>?_⟩ (by simp only;omega))
       .rw[tY,List.map_set]
       .show(c.set k a).take (k+1)=ff d (j+1+(q+1)+1);rw[hn,ya, <- w4,List.take_succ_eq_append_getElem oP];simp;exact List.take_set_of_le (bd k)
       .simp only at hp;show(c.set k a)[p]? =_;rw[List.getElem?_set_ne oG];exact X p oG
      .have ajC:a=b:=by simpa using h
       have hn:=Sq (d:=d) (t:=j+1+(q+1)) oG oG (by rw[ya,show j+1+(q+1) - 1=j+1+q by omega,yb];exact ajC);refine cT ?_;refine ax ?_;refine aa (bi (c,k,q+1) (au eH) ⟨M,by simp only;omega,by simp only;omega,?_,fun p hp=>X p (by simp only at hp;omega)⟩ (by simp only;omega));show c.take k=ff d (j+1+(q+1)+1);rw[hn,w4]
     .have bq:¬ q+1<n - (j+1):=by have h:¬ ((q+1:Nat):Int)<((n - (j+1):Nat):Int):=by simpa using h
                                  omega
      refine⟨c,k,.forget _ _ _ _ fun t=>py (l:=[(0,.rs i 0 n),(3,I k)]) ⟨rfl,rfl,trivial⟩ t,M,oG,?_⟩;rw[w4];exact congrArg (ff d) oG
    .rintro s ⟨c,k,hg,M,ck,w2⟩;refine⟨_,hg,aj ?_⟩;refine ab ?_;refine aw (Pt rfl (ah _ _ _) V.h V.h rfl) ak ⟨V.h,oG⟩ ?_;refine bN (acq rfl (ah _ _ _) V.h V.h) ak ⟨V.h,(by rw[c3];first|(simp;done)|(simp;omega)|omega),rfl⟩ ?_;refine er ?_;refine ab ?_;refine aw (ZD rfl (ah _ _ _) V.h V.h rfl) ak ⟨V.h,oG⟩ ?_;refine SS ?_;have di:(nb d).length=k:=by unfold nb;rw[hl, <- w2];simp;omega
     refine aa (bH (cm (bE (aI (d:=.rs i 0 k) rfl ⟨rfl,by rw[di],(tY _ _ _ _).trans ?_⟩))));rw[Yc (by rw[List.length_map,M]) ck, <- List.map_take,w2,Dj,di];unfold nb;rw[hl]
   .have aE:d[j+1]≠d[j]:=by simpa using h
    refine cT ?_;refine ax ?_;refine aa (bi (j+1+1) (au eH) ⟨oG,oG,?_⟩ oG);rw[Sr (by rw[ga,show j+1 - 1=j by omega,gb];exact aE),J,ga];exact(List.take_succ_eq_append_getElem oG).symm
  .have bq:¬ k<n:=by have h:¬ (k:Int)<n:=by simpa using h
                     omega
   have:k=n:=by omega
   refine⟨.forget _ _ _ _ fun t=>py (l:=[(0,.rs i 0 n)]) ⟨rfl,trivial⟩ t,?_⟩;rw[<- this,J,dt oG]
 .rintro s ⟨hg,J⟩;refine⟨_,hg,aj ?_⟩;refine ab ?_;exact aa (aI rfl (whole J))
theorem ajD{m:Mem}{nx i n:Nat}{d:List Int}(hi:i<nx)(hm:m i=some (.cells (d.map I) 3))(hl:d.length=n)(hn:n<=100000):fG prog 232 [.rs i 0 n] m nx (adz d m nx i):=by
 refine(afv hi hm hl hn).mono ?_;rintro r m' J ⟨h1,h2,C⟩;refine⟨h1,h2,Dj d n,C,?_⟩;rw[Dj,List.take_append_of_le_length oS,dt oS]
end Go.Proofs.Tryz.K
namespace Go.Argus
def ij(x:End)(b:Int)(w:List Int):List Int:=if Km x b then qV w (jN x) else w
@[simp] theorem Pu (x : End) (b : Int) (w : List Int) : (ij x b w).length = w.length := by unfold ij; split <;> simp
def z6(l:List Int):List Int:=nb (nu l)
structure pU(x:cU):Prop where
 rd:∀ r∈ed x,0<=r/\r<1200
 sl:x.op=17\/x.op=18->0<=x.n/\x.n<80
 wr: -1000000<=j8 x/\j8 x<1200
 ar:x.op=10\/x.op=38->x.args.length<=1000
structure Dk(x:End):Prop where
 rd:∀ r∈dT x,0<=r/\r<1200
 wr: -1000000<=jN x/\jN x<1200
 wh:x.aR.length<=9
 a1:x.kind=5->x.ins.op=10\/x.ins.op=38->x.ins.args.length<=1000
 a2:x.kind=6\/x.kind=7->x.args.length<=1000
def lI(w:List Int)(ok:Bool)(rs:List Int):Bool:=rs.foldl (fun ok r=>ok&&p0 w r.toNat) ok
def Ks(w:List Int)(x:cU):List Int:=qV w (if x.op=18 then mY x.n else j8 x)
def Tx(s:List Int×Bool)(x:cU):List Int×Bool:=(Ks s.1 x,lI s.1 s.2 (ed x)&&(x.op !=17||p0 s.1 (mY x.n).toNat))
def kB(l:List cU)(w:List Int):List Int×Bool:=l.foldl Tx (w,true)
def mr(b:bI)(w:List Int):List Int×Bool:=((kB b.ins w).1,lI (kB b.ins w).1 (kB b.ins w).2 (dT b.fin))
theorem BU{α β:Type}{f:β->α->β}{z:β}{l:List α}{k:Nat}{x:α}(h:l[k]? =some x):(l.take (k+1)).foldl f z=f ((l.take k).foldl f z) x:=by
 rw[List.take_add_one,h,List.foldl_append];rfl
theorem Js(l:List cU)(w:List Int):(kB l w).1.length=w.length:=by
 unfold kB;generalize true=b
 induction l generalizing w b with
 |nil=>rfl
 |cons x l ih=>rw[List.foldl_cons];exact(ih _ _).trans (by simp[Ks])
theorem Im(b:bI)(w:List Int):(mr b w).1.length=w.length:=Js _ _
def cS(l:List (List Int)):List D:=l.flatMap fun w=>w.map cL
theorem JX{sz:Nat}:∀ {l:List (List Int)} {i:Nat} {w:List Int},(∀ w∈l,w.length=sz)->l[i]? =some w->(cS l).drop (i*sz)=w.map cL++(cS (l.drop (i+1)))
 |[],i,w,_,h=>by simp at h
 |a::l,0,w,_,h=>by simp at h;subst h;simp[cS]
 |a::l,i+1,w,hs,h=>by
  have ha:(a.map cL).length=sz:=by simpa using hs a oS
  have h1:(i+1)*sz=(a.map cL).length+i*sz:=by rw[ha,Nat.add_mul];omega
  have ih:=JX (l:=l) (i:=i) (w:=w) (fun w C=>hs w (by simp[C])) (by simpa using h);unfold cS at ih ⊢;rw[List.flatMap_cons,h1, <- List.drop_drop,List.drop_left,ih,List.drop_succ_cons]
theorem GW{sz:Nat}{l:List (List Int)}{i:Nat}{w:List Int}(h:∀ w∈l,w.length=sz)(hi:l[i]? =some w):((cS l).drop (i*sz)).take sz=w.map cL:=by
 rw[JX h hi,List.take_append_of_le_length (by simp[h w (bu hi)]),dt (by simp[h w (bu hi)])]
theorem I2{sz:Nat}:∀ {l:List (List Int)},(∀ w∈l,w.length=sz)->(cS l).length=l.length*sz
 |[],_=>by simp[cS]
 |a::l,h=>by
  have:=I2 (l:=l) fun w C=>h w (by simp[C]);unfold cS at this ⊢;rw[List.flatMap_cons,List.length_append,this,List.length_map,h a oS,List.length_cons,Nat.add_mul];omega
theorem xW{sz:Nat}{l:List (List Int)}{i:Nat}{w:List Int}(h:∀ w∈l,w.length=sz)(hi:l[i]? =some w):i*sz+sz<=(cS l).length:=by
 rw[I2 h];have:=(bC.1 hi).1;rw[<- Nat.succ_mul];exact Nat.mul_le_mul_right _ this
theorem S4{sz:Nat}(hz:2<=sz):∀ {l:List (List Int)} {i:Nat} {w v:List Int},(∀ w∈l,w.length=sz)->l[i]? =some v->w.length=sz->gB (cS l) (i*sz) (w.map cL)=cS (l.set i w):=by
 intro l i w v h hi C
 have key:gB (cS l) (i*sz) (w.map cL)=(cS l).take (i*sz)++w.map cL++(cS l).drop (i*sz+(w.map cL).length):=by
  unfold gB;split
  .rename_i x hx;have:(w.map cL).length=1:=by rw[hx];rfl
   simp at this;omega
  .rfl
 rw[key,List.length_map,C];clear key
 induction l generalizing i with
 |nil=>simp at hi
 |cons a l ih=>
  have ha:(a.map cL).length=sz:=by simpa using h a oS
  cases i with
  |zero=>
   simp only[Nat.zero_mul,List.take_zero,List.nil_append,Nat.zero_add,List.set_cons_zero];unfold cS;rw[List.flatMap_cons,List.flatMap_cons, <- ha,List.drop_left]
  |succ i=>
   have ih:=ih (i:=i) (fun w C=>h w (by simp[C])) (by simpa using hi);simp only[List.set_cons_succ];unfold cS at ih ⊢;rw[List.flatMap_cons,List.flatMap_cons, <- ih,show(i+1)*sz=(a.map cL).length+i*sz by rw[ha,Nat.add_mul];omega,List.take_length_add_append,Nat.add_assoc,List.drop_length_add_append];simp
theorem abe(n:Nat)(w:List Int):dx n (w.map cL)=cS (replicate n w):=by
 unfold dx cS
 induction n with
 |zero=>rfl
 |succ n ih=>rw[List.replicate_succ,List.replicate_succ,List.flatten_cons,List.flatMap_cons,ih]
theorem acr(n:Nat)(b:Bool):dx n [B b]=(replicate n b).map B:=by
 unfold dx
 induction n with
 |zero=>rfl
 |succ n ih=>rw[List.replicate_succ,List.replicate_succ,List.flatten_cons,List.map_cons,ih];rfl
theorem adA(l:List (List Int)):∀ a∈cS l,Tr a:=.flat fun w=>.map fun _=>.s _
theorem JY{sz:Nat}{l:List (List Int)}{i:Nat}{w:List Int}(h:∀ w∈l,w.length=sz)(C:w.length=sz):∀ u∈l.set i w,u.length=sz:=fun u hu=>by
 rcases List.mem_or_eq_of_mem_set hu with h1|h1
 .exact h u h1
 .rw[h1];exact C
theorem QA:∀ {w v:List Int},w.length=v.length->om (w.map cL) (v.map cL)=some (w.map (Value.int .u64),v.map (Value.int .u64))
 |[],[],_=>rfl
 |a::w,b::v,h=>by
  have:=QA (w:=w) (v:=v) (by simpa using h);simp[om,xR,this]
theorem QB:∀ {w v:List Int},w.length=v.length->gJ (w.map (Value.int .u64)) (v.map (Value.int .u64))=(w==v)
 |[],[],_=>rfl
 |a::w,b::v,h=>by
  have:=QB (w:=w) (v:=v) (by simpa using h);simp[gJ,pW,this]
theorem ZG(w:List Int):(w.map (Value.int .u64)).map jz=replicate w.length 0:=by
 induction w with
 |nil=>rfl
 |cons a w ih=>simpa[jz,List.replicate_succ] using ih
end Go.Argus
namespace Go.Proofs.Tryz.K
theorem L1{f:FuncId}{cs:List D}{xs:List Int}(hs:vT prog f [] cs (xs.map fun n=>[I n]))(ht:Tr (.fn (.func f) [] cs))(hlen:xs.length<=12):ko prog 233 [.fn (.func f) [] cs] ((nu xs).map I) xs.length 3:=by
 have C:∀ a∈[.fn (.func f) [] cs],Tr a:=.cons ht .nil;refine HK afy C (.map fun _=>.s _) ?_;rw[afz];have LR:=LR hs ht oG;refine ws ?_;refine SS ?_;refine er ?_;refine SS ?_;refine KR LR rfl aM ?_;refine SS ?_;refine er ?_;refine SS ?_;refine gn (ajg (i:=0) (l:=xs) oG rfl rfl hlen) rfl aM fun r m' J hp=>?_;obtain⟨rfl,rfl,rfl⟩:=hp;refine er ?_;refine ab ?_;exact aa (aI rfl ⟨0,rfl,rfl⟩)
theorem uq{f:FuncId}{cs:List D}{xs:List Int}(hs:vT prog f [] cs (xs.map fun n=>[I n]))(ht:Tr (.fn (.func f) [] cs))(hlen:xs.length<=12):aB prog 174 [.fn (.func f) [] cs] (aP (z6 xs)):=by
 have C:∀ a∈[.fn (.func f) [] cs],Tr a:=.cons ht .nil;refine bl afA C (dn _) ?_;rw[afB];have L1:=L1 hs ht hlen;refine ws ?_;refine SS ?_;refine aa (az ?_);refine SS ?_;refine KR L1 rfl aM ?_;refine gn (ajD (i:=0) (d:=nu xs) (n:=xs.length) oG rfl oS oG) rfl aM fun r m' J hp=>?_;obtain⟨rfl,rfl,c,rfl,hc⟩:=hp;refine SS ?_;refine aa (bJ (dD [(0,c,3)] ⟨ah _ _ _,trivial⟩ (l:=[(2,aP (z6 xs))]) ⟨?_,trivial⟩) (aI rfl rfl));exact vO c3 (by rw[List.drop_zero,Nat.mul_one];exact hc)
def nextR(x:Argus.End):List Int:=z6 (ez x)
theorem Ss{x:Argus.End}(hlen:x.aR.length<=9):aB prog 174 [.fn (.func 234) [] [.pt (bD x)]] (aP (nextR x)):=
 uq (T' oG) (.fn oS (.cons (.pt (qJ x)) .nil)) (by have:=JT x;omega)
theorem wl{x:Argus.End}{b:Int}{w:List Int}(J:w.length=20)(hlen:x.aR.length<=1000)(hn: -1000000<=jN x/\jN x<1280):aB prog 134 [.agg (bD x),I b,gq w] (gq (ij x b w)):=by
 have C:∀ a∈[D.agg (bD x),I b,gq w],Tr a:=.cons (.agg (qJ x)) (.cons (.s _) (.cons (p6 _) .nil));refine bl afC C (p6 _) ?_;rw[afD];have LP:=LP (x:=x) (b:=b) hlen;refine ws ?_;refine ax ?_;refine aa (aF (aj ?_));refine ab ?_;refine cl LP ?_;refine aa (cQ rfl (fun h=>?_) fun h=>cx (aj ?_))
 .have L2:=L2 (x:=x);have p7:=p7 (w:=w) (n:=jN x) J hn;refine aF (eA ZF ?_);refine ab ?_;refine cl L2 ?_;refine cl p7 ?_;refine SS ?_;refine cz cJ (eQ (r9 (gN rfl rfl a201 q9 (nr oP) t201 oP) ?_));simp[ij,h]
 .refine ab ?_;refine aa (r9 (gN rfl rfl a201 q9 (nr oP) t201 oP) ?_);simp[ij,h]
theorem nJ{b:bI}{w:List Int}(hw:w.length=20)(hl:b.ins.length<=100000)(hi:∀ x∈b.ins,pU x)(hf:Dk b.fin)(Bo:∀ x∈b.ins,(ed x).length<=100000)(jl:(dT b.fin).length<=100000):aB prog 133 [.agg (bS b),gq w] (.aL [gq (mr b w).1,B (mr b w).2]):=by
 have bg:∀ a∈[D.agg (bS b),gq w],Tr a:=.cons (.agg (Pv b)) (.cons (p6 _) .nil);refine bl afE bg (.aL (.cons (p6 _) (.cons (.s _) .nil))) ?_;rw[afF];refine ws ?_;refine eI (r6 (cs:=bS _) rfl) ak (by first|rfl|exact rL eJ bL|exact nF _|exact tU rB) ?_;refine ax ?_;refine aa (az ?_);refine SS ?_;refine aa (bJ (bZ (l:=[(2,.rp 0 0),(3,.rp 1 0),(4,.rp 2 0),(6,B true)]) (ml:=[(0,.cells (bS b) 59),(1,.cells (w.map cL) 201),(2,.cells (replicate 20 (cL 0)) 201)]) eH eH) (aF (az ?_)));refine ba ?_
 refine aa (cn (fun s=>∃ n',3<=n'/\aJ prog s ⟨ay [(2,.rp 0 0),(3,.rp 1 0),(4,.rp 2 0),(6,B (kB b.ins w).2)],br [(0,.cells (bS b) 59),(1,.cells ((kB b.ins w).1.map cL) 201),(2,.cells (replicate 20 (cL 0)) 201)],n'⟩) (cy (α:=Nat×Nat)
  (fun k=>⟨ay [(2,.rp 0 0),(3,.rp 1 0),(4,.rp 2 0),(6,B (kB (b.ins.take k.1) w).2),(14,lH b.ins),(15,I b.ins.length),(16,I k.1)],br [(0,.cells (bS b) 59),(1,.cells ((kB (b.ins.take k.1) w).1.map cL) 201),(2,.cells (replicate 20 (cL 0)) 201)],k.2⟩)
  (fun k=>k.1<=b.ins.length/\3<=k.2) (fun k=>b.ins.length - k.1) (0,3) (bZ eH eH) ⟨oS,oS⟩ ?_) ?_)
 .rintro⟨k,N⟩ ⟨hk,hN⟩;dsimp only at hk hN ⊢;refine SS ?_;refine aa ⟨_,rfl,fun h=>?_,fun h=>?_⟩
  .have af:k<b.ins.length:=by simpa using h
   have hx:b.ins[k]? =some b.ins[k]:=by simp[af]
   have jh:b.ins[k]∈b.ins:=gh af;generalize b.ins[k]=x at hx jh;obtain⟨ird,VC,iwr,iar⟩:=hi x jh;have C:kB (b.ins.take (k+1)) w=Tx (kB (b.ins.take k) w) x:=BU hx;have hlen:(kB (b.ins.take k) w).1.length=20:=by rw[Js,hw]
   generalize kB (b.ins.take k) w=u at C hlen;obtain⟨v,ok⟩:=u;dsimp only at hlen ⊢;refine ws ?_;refine ba ?_;refine aa (aF (az ?_));have A7:=A7 (x:=x) iar;refine SS ?_;refine cl A7 ?_;refine ab ?_;have amm:=Bo x jh
   refine aa (cn (fun s=>aJ prog s ⟨ay [(2,.rp 0 0),(3,.rp 1 0),(4,.rp 2 0),(6,B (lI v ok (ed x))),(8,.rp N 0),(14,lH b.ins),(15,I b.ins.length),(16,I k)],up (br [(0,.cells (bS b) 59),(1,.cells (v.map cL) 201),(2,.cells (replicate 20 (cL 0)) 201)]) N (some (.cells (ct x) 54)),N+1⟩) (cy (α:=Nat)
    (fun j=>⟨ay [(2,.rp 0 0),(3,.rp 1 0),(4,.rp 2 0),(6,B (lI v ok ((ed x).take j))),(8,.rp N 0),(14,lH b.ins),(15,I b.ins.length),(16,I k),(21,aP (ed x)),(22,I (ed x).length),(23,I j)],up (br [(0,.cells (bS b) 59),(1,.cells (v.map cL) 201),(2,.cells (replicate 20 (cL 0)) 201)]) N (some (.cells (ct x) 54)),N+1⟩)
    (fun j=>j<=(ed x).length) (fun j=>(ed x).length - j) 0 (tg eH (tY _ _ _ _)) oG ?_) ?_)
   .intro j hj;refine SS ?_;refine aa ⟨_,rfl,fun h=>?_,fun h=>?_⟩
    .have J:j<(ed x).length:=by simpa using h
     have hr:(ed x)[j]? =some (ed x)[j]:=by simp[J]
     have U:(ed x)[j]∈ed x:=gh J;generalize (ed x)[j]=r at hr U;have oz:=ird r U;obtain⟨M,rfl⟩:=jH oz.1;have lj:=lj (w:=v) (m:=M) hlen oG;refine ws ?_;refine ax ?_;refine aa (fF ?_);refine ba ?_;refine gc lj ?_;refine ab ?_;refine aa ?_;refine ab ?_;refine aa (bi (j+1) (au ⟨rfl,rfl,rfl,?_,rfl,rfl,rfl,rfl,rfl,rfl,rfl,trivial⟩) oG oG)
     have e:lI v ok ((ed x).take (j+1))=(lI v ok ((ed x).take j)&&p0 v M):=by
      unfold lI;rw[BU hr,jZ]
     rw[e];generalize lI v ok ((ed x).take j)=g;cases g<;>rfl
    .have bq:¬ j<(ed x).length:=by simpa using h
     refine au ⟨rfl,rfl,rfl,?_,rfl,rfl,rfl,rfl,trivial⟩;show B _=B _;rw[dt oG]
   .intro s hg;have C:kB (b.ins.take (k+1)) w=(Ks v x,lI v ok (ed x)&&(x.op !=17||p0 v (mY x.n).toNat)):=C;generalize lI v ok (ed x)=Nt at hg C;have Dy:=Dy (w:=v) (x:=x) hlen (fun h=>VC (.inr h)) (fun _=>by omega);have fin:∀ (d:Bool) env,d=(Nt&&(x.op !=17||p0 v (mY x.n).toNat))->kW [(2,.rp 0 0),(3,.rp 1 0),(4,.rp 2 0),(6,B d),(8,.rp N 0),(14,lH b.ins),(15,I b.ins.length),(16,I k)] env->True:=fun _ _ _ _=>trivial;refine⟨_,hg,?_⟩;cases Nt with
    |false=>
     have ug:false=true->aB prog 182 [I x.n] (I (mY x.n)):=fun h=>by cases h
     have lj:false=true->aB prog 135 [gq v,I (mY x.n)] (B true):=fun h=>by cases h
     refine eA IG ?_;refine bw ?_;refine tL rfl rfl rfl (fun hc=>⟨ak,ug hc⟩) ?_;refine tL rfl rfl rfl (fun hc=>⟨ak,lj hc⟩) ?_;refine ax ?_;refine cz cJ (fF ?_);refine ab ?_;refine cl Dy ?_;refine SS ?_;refine aa ?_;refine ab ?_;refine aa (bi (k+1,N+1) (bZ ⟨rfl,rfl,rfl,?_,rfl,rfl,rfl,trivial⟩ ⟨ag oG (ag oG rfl),?_,ag oG (ag oG rfl),trivial⟩) ⟨oM,oM⟩ oM)
     .dsimp only;rw[C];rfl
     .dsimp only;rw[C];exact ah _ _ _
    |true=>
     by_cases zs:x.op=17
     .have ud:(x.op !=17)=false:=by simp[zs]
      have amI:=VC (.inl zs);have ug:=ug (n:=x.n) oG;obtain⟨sn,X⟩:=jH (show 0<=mY x.n by unfold mY;omega);have lj:=lj (w:=v) (m:=sn) hlen (by unfold mY at X;omega);rw[<- X] at lj;refine eA IG ?_;refine bw ?_;refine gc ug ?_;refine gc lj ?_;refine ax ?_;refine cz cJ (fF ?_);refine ab ?_;refine cl Dy ?_;refine SS ?_;refine aa ?_;refine ab ?_;refine aa (bi (k+1,N+1) (bZ ⟨rfl,rfl,rfl,?_,rfl,rfl,rfl,trivial⟩ ⟨ag oG (ag oG rfl),?_,ag oG (ag oG rfl),trivial⟩) ⟨oM,oM⟩ oM)
      .dsimp only;rw[C,ud,X];rfl
      .dsimp only;rw[C];exact ah _ _ _
     .have ud:(x.op !=17)=true:=by simp[zs]
      have ug:false=true->aB prog 182 [I x.n] (I (mY x.n)):=fun h=>by cases h
      have lj:false=true->aB prog 135 [gq v,I (mY x.n)] (B true):=fun h=>by cases h
      refine eA IG ?_;refine cw ?_;iterate 5 refine z fun _ _=>?_
      refine B0 rfl rfl rfl rfl (by first|exact fun _=>trivial|exact fun _=>rfl|exact fun hc=>hc) (by first|exact fun _=>trivial|exact fun _=>rfl|exact fun hc=>hc) ?_;refine ab ?_;refine cz cJ (fF ?_);refine ab ?_;refine cl Dy ?_;refine SS ?_;refine aa ?_;refine ab ?_;refine aa (bi (k+1,N+1) (bZ ⟨rfl,rfl,rfl,?_,rfl,rfl,rfl,trivial⟩ ⟨ag oG (ag oG rfl),?_,ag oG (ag oG rfl),trivial⟩) ⟨oM,oM⟩ oM)
      .dsimp only;rw[C,ud];rfl
      .dsimp only;rw[C];exact ah _ _ _
  .have bq:¬ k<b.ins.length:=by simpa using h
   have yT:b.ins.take k=b.ins:=dt oG;refine⟨N,hN,?_⟩;rw[yT];exact au eH
 .rintro s ⟨n',hM,hg⟩;have hlen:(kB b.ins w).1.length=20:=by rw[Js,hw]
  have VD:mr b w=((kB b.ins w).1,lI (kB b.ins w).1 (kB b.ins w).2 (dT b.fin)):=rfl;rw[VD];generalize kB b.ins w=u at hg hlen ⊢;obtain⟨v,ok⟩:=u;dsimp only at hlen hg ⊢;have L3:=L3 (x:=b.fin) hf.a1 hf.a2;refine⟨_,hg,aF (az ?_)⟩;refine ab ?_;refine cl L3 ?_;refine ab ?_
  refine aa (cn (fun s=>aJ prog s ⟨ay [(3,.rp 1 0),(4,.rp 2 0),(6,B (lI v ok (dT b.fin)))],br [(1,.cells (v.map cL) 201),(2,.cells (replicate 20 (cL 0)) 201)],n'⟩) (cy (α:=Nat)
   (fun j=>⟨ay [(3,.rp 1 0),(4,.rp 2 0),(6,B (lI v ok ((dT b.fin).take j))),(53,aP (dT b.fin)),(54,I (dT b.fin).length),(55,I j)],br [(1,.cells (v.map cL) 201),(2,.cells (replicate 20 (cL 0)) 201)],n'⟩)
   (fun j=>j<=(dT b.fin).length) (fun j=>(dT b.fin).length - j) 0 (bZ eH eH) oG ?_) ?_)
  .intro j hj;refine SS ?_;refine aa ⟨_,rfl,fun h=>?_,fun h=>?_⟩
   .have J:j<(dT b.fin).length:=by simpa using h
    have hr:(dT b.fin)[j]? =some (dT b.fin)[j]:=by simp[J]
    have U:(dT b.fin)[j]∈dT b.fin:=gh J;generalize (dT b.fin)[j]=r at hr U;have oz:=hf.rd r U;obtain⟨M,rfl⟩:=jH oz.1;have lj:=lj (w:=v) (m:=M) hlen oG;refine ws ?_;refine ax ?_;refine aa (fF ?_);refine ab ?_;refine bt rfl rfl (fg rfl rfl V.h V.h (nr (by first|rfl|exact bF rfl|(simp;done)|(simp;omega)|omega))) (fun hc=>⟨ak,(fh V.h V.h (by first|rfl|exact bF rfl|(simp;done)|(simp;omega)|omega))⟩) ?_;refine SS ?_;refine gc lj ?_;refine ab ?_;refine aa ?_;refine ab ?_;refine aa (bi (j+1) (au ⟨rfl,rfl,?_,rfl,rfl,rfl,trivial⟩) oG oG)
    have e:lI v ok ((dT b.fin).take (j+1))=(lI v ok ((dT b.fin).take j)&&p0 v M):=by
     unfold lI;rw[BU hr,jZ]
    rw[e];generalize lI v ok ((dT b.fin).take j)=g;cases g<;>rfl
   .have bq:¬ j<(dT b.fin).length:=by simpa using h
    refine au ⟨rfl,rfl,?_,trivial⟩;show B _=B _;rw[dt oG]
  .intro s hg;refine⟨_,hg,aj ?_⟩;refine ba ?_;exact aa (mX (gN rfl rfl a201 q9 (nr oP) t201 oP) rfl rfl)
end Go.Proofs.Tryz.K
end
namespace Go.Argus
open Go.Abs
theorem Yp{l:List Int}{j:Nat}(hj:j+1<l.length){x:Int}:x∈swapAt l j↔x∈l:=by
 have ha:l.getD j 0=l[j]:=by simp[dC,a7 (show j<l.length by omega)]
 have hb:l.getD (j+1) 0=l[j+1]:=by simp[dC,a7 hj]
 unfold swapAt;rw[ha,hb];exact(List.set_set_perm (show j+1<l.length from hj) (show j<l.length by omega)).mem_iff
theorem QI{x:Int}:∀ (j:Nat) {l:List Int},j<l.length->(x∈ou l j↔x∈l)
 |0,l,_=>Iff.rfl
 |j+1,l,hj=>by
  simp only[ou];split
  .exact(QI j oP).trans (Yp hj)
  .exact Iff.rfl
theorem PH{l:List Int}{x:Int}:∀ k,k<l.length->(x∈mE l k↔x∈l)
 |0,_=>Iff.rfl
 |k+1,h=>by
  simp only[mE];exact(QI (k+1) (by simpa using h)).trans (PH k oG)
theorem ZY{l:List Int}{x:Int}:x∈nu l↔x∈l:=by
 unfold nu;cases l with
 |nil=>simp[mE]
 |cons a l=>exact PH _ oS
theorem Om{l:List Int}{x:Int}:x∈z6 l↔x∈l:=by
 unfold z6 nb;rw[RE (bd _),List.take_length];exact ZY
theorem wrap_u64{n:Nat}(h:n<2 ^ 64):IntKind.u64.wrap (n:Int)=n:=by
 unfold IntKind.wrap;simp[IntKind.signed,IntKind.bits];omega
theorem acu{a b:Int}(ha:0<=a/\a<18446744073709551616):0<=wm a b/\wm a b<=a:=by
 unfold wm lA;simp only;rw[wrap_u64 (n:=(BitVec.ofInt IntKind.u64.bits a&&& BitVec.ofInt IntKind.u64.bits b).toNat) (BitVec.isLt (w:=64) _)];obtain⟨n,rfl⟩:=jH ha.1
 have h1:(BitVec.ofInt IntKind.u64.bits (n:Int)).toNat=n:=by
  rw[BitVec.toNat_ofInt];show((n:Int) % ((2 ^ 64:Nat):Int)).toNat=n;omega
 have h2:(BitVec.ofInt IntKind.u64.bits (n:Int)&&& BitVec.ofInt IntKind.u64.bits b).toNat<=n:=by
  rw[BitVec.toNat_and,h1];exact Nat.and_le_left
 omega
end Go.Argus
section
open Go Go.Abs Go.Proofs Go.Argus
namespace Go.Abs
section
variable{P:Program}{env:Env}{m:Mem}{nx:Nat}{x y:Operand}{t p:TypeId}{k:IntKind}{n n':Int}
theorem Cp{j i l sz:Nat}{e:TypeId}{r:Row}(hx:(opd env x).core=.rs j 0 l)(hy:(opd env y).core=.s (.int k (i:Int)))(hm:m j=some r)(he:aD P t=e)(hs:P.cellsOf e=sz):
 Ef P (.indexAddr t x y) env m nx ⟨bh P t=true/\i<l,.rp j (i*sz),[],[j],0⟩:=by
 have h:=Gb (P:=P) (env:=env) (m:=m) (nx:=nx) (t:=t) hx hy hm he hs;have h1:0+((i:Int)).toNat*sz=i*sz:=by simp
 have h2:(bh P t=true/\(0:Int)<=(i:Int)/\(i:Int)<l)=(bh P t=true/\i<l):=by
  apply propext;constructor
  .rintro⟨a,_,b⟩;exact⟨a,oG⟩
  .rintro⟨a,b⟩;exact⟨a,oG,oG⟩
 rw[h1,h2] at h;exact h
theorem abf{ps:Array (Nat×Operand)}{e:TypeId}{l:Nat}{z:List D}(hu:P.underlying t=some (.array l e))(hp:ps.toList=[])(hz:a8 P t=z):Ef P (.build t ps) env m nx ⟨aG P t=true/\aG P e=true,.agg z,[],[],0⟩:=by
 refine⟨?_,rfl,rfl⟩;simp only[bf,hu,hp,hz,List.map_nil,gF,Option.map_some]
theorem Tp{xs ys:List D}{us vs:List Value}{ks:List Nat}(hx:(opd env x).core=.agg xs)(hy:(opd env y).core=.agg ys)(hf:vD P t=some ks)(hz:om xs ys=some (us,vs)){c:Bool}(hc:(!gJ us vs)=c):
 Ef P (.binOp .neq t x y p) env m nx ⟨us.map jz=ks/\P.eqGuardType P.depth t=false,.s (.bool c),[],[],0⟩:=by
 refine⟨?_,rfl,rfl⟩
 have hn:mH P m .neq t (.agg xs) y=none:=by
  unfold mH;split<;>first|rfl|(rename_i h;cases h)
 simp only[bf,a6,hx,hy,hn,vS,xv,hf,hz,hc,Option.map_some]
end
def yA(cs:List D):Prop:=∀ d∈cs,∃ v,d=.s v
theorem yA.map{α:Type}{f:α->Value}{l:List α}:yA (l.map fun x=>.s (f x)):=fun d hd=>by
 obtain⟨x,_,rfl⟩:=List.mem_map.1 hd;exact⟨_,rfl⟩
theorem afG{i sz:Nat}{C cs:List D}(h:yA cs):cs.map (sub (cF i C sz))=cs:=by
 induction cs with
 |nil=>rfl
 |cons d cs ih=>
  obtain⟨v,rfl⟩:=h d oS;rw[List.map_cons,ih fun d hd=>h d (by simp[hd])];rfl
theorem acs{m:Mem}{i j sz:Nat}{J cs:List D}{e:TypeId}(C:j≠i)(hm:m j=some (.cells cs e))(h:yA cs):(if j=i then none else(m j).map (Row.sub (cF i J sz)))=some (.cells cs e):=by
 rw[if_neg C,hm];show some (Row.cells (cs.map _) e)=_;rw[afG h]
theorem adB{i sz n:Nat}{C es:List D}:sub (cF i C sz) (.sl es n)=.sl es n:=rfl
theorem I3{i j sz off n:Nat}{C:List D}(h:j≠i):sub (cF i C sz) (.rs j off n)=.rs j off n:=by
 show(if j=i then _ else D.rs j off n)=_;rw[if_neg h]
theorem jM{i sz n:Nat}{C:List D}(h:C.length=n*sz):sub (cF i C sz) (.rs i 0 n)=.sl C n:=by
 show(if i=i then D.sl ((C.drop 0).take (n*sz)) n else _)=_;rw[if_pos rfl,List.drop_zero,dt oG]
end Go.Abs
namespace Go.Proofs.Tryz.K
theorem afH:vD prog 201=some (replicate 20 0):=kr
theorem afI:prog.eqGuardType prog.depth 201=false:=kr
theorem afJ:a8 prog 201=(replicate 20 (0:Int)).map cL:=z201
theorem ajE:prog.underlying 201=some (.array 20 199):=kr
section
variable{env:Env}{m:Mem}{nx:Nat}{x y:Operand}{p:TypeId}
theorem afK{w v:List Int}(hx:(opd env x).core=gq w)(hy:(opd env y).core=gq v)(h:w.length=v.length):Ef prog (.binOp .neq 201 x y p) env m nx ⟨(w.map (Value.int .u64)).map jz=replicate 20 0/\prog.eqGuardType prog.depth 201=false,B (w !=v),[],[],0⟩:=
 Tp hx hy afH (QA h) (by rw[QB h];rfl)
theorem afL{w:List Int}(h:w.length=20):(w.map (Value.int .u64)).map jz=replicate 20 0/\prog.eqGuardType prog.depth 201=false:=⟨by rw[ZG,h],afI⟩
end
end Go.Proofs.Tryz.K
end
