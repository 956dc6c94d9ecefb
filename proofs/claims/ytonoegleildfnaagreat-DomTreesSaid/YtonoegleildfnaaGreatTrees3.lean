/- Part 3 of the proof; the last part says what is proved. -/
import Derived.Test.YtonoegleildfnaaGreatTrees2
import Derived.Below
import Derived.Carry
import Derived.ChangeOld
import Derived.OpenShut
import Derived.ProofKit
import Derived.Test.YtonoegleildfnaaGreatProg
namespace Go.Proofs.Tryz.K
open Go.Abs
def sv:Nat->Nat->Code->Code
 |0,_,c=>c
 |k+1,p,c=>bif Nat.beq p 1 then c else match c with
  | .seq a b=>bif Nat.beq (p % 2) 0 then sv k (p / 2) a else sv k (p / 2) b
  | .cond _ a b=>bif Nat.beq (p % 2) 0 then sv k (p / 2) a else sv k (p / 2) b
  | .block _ b=>sv k (p / 2) b
  | .loop b=>sv k (p / 2) b
  | .scope b=>sv k (p / 2) b
  | .rangeFunc _ _ a b=>bif Nat.beq (p % 2) 0 then sv k (p / 2) a else sv k (p / 2) b
  |c=>c
def Z(b:Code)(p:Nat):Array Oper:=match sv 64 p b with
 | .region _ ops _=>ops
 |_=> #[]
abbrev G(i:Nat)(o:Array Oper):Code:=.region i o false
theorem akw:BL=(.seq (G 0 (Z BL 2)) (.seq (G 1 (Z BL 5)) .ret)):=kr
theorem aeO:Bg=(.seq (G 0 (Z Bg 2)) (.seq (G 1 (Z Bg 5)) .ret)):=kr
theorem adl:Bk=(.seq (G 0 (Z Bk 2)) (.seq (G 1 (Z Bk 5)) .ret)):=kr
theorem aeI:Bn=(.seq (G 0 (Z Bn 2)) (.seq (G 1 (Z Bn 5)) .ret)):=kr
theorem adi:qB=(.seq (G 0 (Z qB 2)) (.seq (.seq (G 1 (Z qB 9)) (.block 0 (.loop (.seq (G 2 (Z qB 69)) (.seq (.cond (.tmp 9) .skip (.exit 0)) (.seq (.block 1 (.seq (G 3 (Z qB 1125)) (.seq (G 4 (Z qB 2661)) (.cond (.tmp 16) (.seq (G 5 (Z qB 9829)) .ret) .skip)))) (G 6 (Z qB 485)))))))) (.seq (G 7 (Z qB 11)) .ret))):=kr
theorem adY:r8=(.seq (G 0 (Z r8 2)) (.seq (G 1 (Z r8 5)) (.seq (.seq (G 2 (Z r8 19)) (.block 0 (.rangeFunc (.tmp 8) #[9] (G 3 (Z r8 75)) (.block 1 (.seq (G 4 (Z r8 299)) (.cond (.tmp 12) (G 5 (Z r8 683)) .skip)))))) (.seq (G 6 (Z r8 23)) .ret)))):=kr
theorem adV:pI=(.seq (.seq (G 0 (Z pI 4)) (.cond (.tmp 19) .ret .skip)) (.seq (.seq (G 1 (Z pI 9)) (.cond (.tmp 34) .ret .skip)) (.seq (.seq (G 2 (Z pI 19)) (.block 0 (.loop (.seq (G 3 (Z pI 139)) (.seq (.cond (.tmp 39) .skip (.exit 0)) (.seq (.block 1 (.seq (G 4 (Z pI 2251)) (.seq (G 5 (Z pI 5323)) (.cond (.tmp 46) .ret .skip)))) (G 6 (Z pI 971)))))))) (.seq (G 7 (Z pI 23)) (.cond (.tmp 65) (G 8 (Z pI 47)) .skip))))):=kr
theorem adS:A'=(.seq (G 0 (Z A' 2)) (.seq (G 1 (Z A' 5)) .ret)):=kr
theorem ado:qy=(.seq (G 0 (Z qy 2)) (.seq (.seq (G 1 (Z qy 9)) (.block 0 (.loop (.seq (G 2 (Z qy 69)) (.seq (.cond (.tmp 9) .skip (.exit 0)) (.seq (.block 1 (.seq (G 3 (Z qy 1125)) (.seq (G 4 (Z qy 2661)) (.cond (.tmp 16) (.seq (G 5 (Z qy 9829)) .ret) .skip)))) (G 6 (Z qy 485)))))))) (.seq (G 7 (Z qy 11)) .ret))):=kr
theorem adr:Be=(.seq (G 0 (Z Be 2)) (.seq (G 1 (Z Be 5)) .ret)):=kr
theorem adu:qC=(.seq (G 0 (Z qC 2)) (.seq (.seq (G 1 (Z qC 9)) (.block 0 (.loop (.seq (G 2 (Z qC 69)) (.seq (.cond (.tmp 9) .skip (.exit 0)) (.seq (.block 1 (.seq (G 3 (Z qC 1125)) (.seq (G 4 (Z qC 2661)) (.cond (.tmp 16) (.seq (G 5 (Z qC 9829)) .ret) .skip)))) (G 6 (Z qC 485)))))))) (.seq (G 7 (Z qC 11)) .ret))):=kr
theorem adx:Bt=(.seq (G 0 (Z Bt 2)) (.seq (G 1 (Z Bt 5)) .ret)):=kr
theorem adA:qw=(.seq (G 0 (Z qw 2)) (.seq (.seq (G 1 (Z qw 9)) (.block 0 (.loop (.seq (G 2 (Z qw 69)) (.seq (.cond (.tmp 9) .skip (.exit 0)) (.seq (.block 1 (.seq (G 3 (Z qw 1125)) (.seq (G 4 (Z qw 2661)) (.cond (.tmp 16) (.seq (G 5 (Z qw 9829)) .ret) .skip)))) (G 6 (Z qw 485)))))))) (.seq (G 7 (Z qw 11)) .ret))):=kr
theorem adD:A8=(.seq (G 0 (Z A8 2)) (.seq (G 1 (Z A8 5)) .ret)):=kr
theorem aeF:Bl=(.seq (G 0 (Z Bl 2)) (.seq (G 1 (Z Bl 5)) .ret)):=kr
theorem aeL:Bc=(.seq (G 0 (Z Bc 2)) (.seq (G 1 (Z Bc 5)) .ret)):=kr
theorem aeR:Bf=(.seq (G 0 (Z Bf 2)) (.seq (G 1 (Z Bf 5)) .ret)):=kr
theorem aeU:Bm=(.seq (G 0 (Z Bm 2)) (.seq (G 1 (Z Bm 5)) .ret)):=kr
theorem aeX:Bd=(.seq (G 0 (Z Bd 2)) (.seq (G 1 (Z Bd 5)) .ret)):=kr
theorem af0:yZ=(.seq (G 0 (Z yZ 2)) (.seq (G 1 (Z yZ 5)) (.seq (G 2 (Z yZ 11)) .ret))):=kr
theorem afX:w9=(.seq (G 0 (Z w9 2)) (.seq (G 1 (Z w9 5)) (.seq (G 2 (Z w9 11)) (.seq (G 3 (Z w9 23)) .ret)))):=kr
theorem afh:Bo=(.seq (G 0 (Z Bo 2)) (.seq (G 1 (Z Bo 5)) .ret)):=kr
theorem afk:xf=(.seq (G 0 (Z xf 2)) (.seq (.seq (G 1 (Z xf 9)) (.cond (.tmp 12) (.seq (G 2 (Z xf 37)) .ret) .skip)) (.seq (G 3 (Z xf 11)) .ret))):=kr
theorem afF:nt=(.seq (G 0 (Z nt 2)) (.seq (G 1 (Z nt 5)) (.seq (.seq (G 2 (Z nt 19)) (.cond (.tmp 20) (G 3 (Z nt 43)) .skip)) (.seq (G 4 (Z nt 23)) (.seq (.seq (G 5 (Z nt 79)) (.block 0 (.seq (G 6 (Z nt 303)) (.cond (.tmp 31) (G 7 (Z nt 687)) (.seq (G 8 (Z nt 1455)) (.cond (.tmp 43) (G 9 (Z nt 2991)) .skip)))))) (.seq (G 10 (Z nt 95)) .ret)))))):=kr
theorem afU:qz=(.seq (G 0 (Z qz 2)) (.seq (.seq (G 1 (Z qz 9)) (.block 0 (.loop (.seq (G 2 (Z qz 69)) (.seq (.cond (.tmp 11) .skip (.exit 0)) (.seq (.block 1 (.seq (G 3 (Z qz 1125)) (.seq (G 4 (Z qz 2661)) (.cond (.tmp 33) (.seq (G 5 (Z qz 9829)) .ret) .skip)))) (G 6 (Z qz 485)))))))) (.seq (G 7 (Z qz 11)) .ret))):=kr
theorem afq:Bp=(.seq (G 0 (Z Bp 2)) (.seq (G 1 (Z Bp 5)) .ret)):=kr
theorem MR:drawInfo (Z y4 5)=some [(10,11),(10,12),(10,13),(10,15),(10,16)]:=kr
theorem aft:y4=(.seq (G 0 (Z y4 2)) (.seq (.region 1 (Z y4 5) true) .ret)):=kr
theorem Y4:drawInfo (Z y5 5)=some [(2,3)]:=kr
theorem agr:y5=(.seq (G 0 (Z y5 2)) (.seq (.region 1 (Z y5 5) true) .ret)):=kr
theorem afC:my=(.seq (G 0 (Z my 2)) (.seq (G 1 (Z my 5)) (.seq (.seq (G 2 (Z my 19)) (.block 0 (.seq (G 3 (Z my 75)) (.cond (.tmp 14) (.seq (G 4 (Z my 299)) .ret) (.seq (G 5 (Z my 363)) (.cond (.tmp 18) (.seq (G 6 (Z my 1259)) .ret) (.seq (G 7 (Z my 1515)) (.cond (.tmp 22) (.seq (G 8 (Z my 5099)) .ret) (.seq (G 9 (Z my 6123)) (.cond (.tmp 26) (.seq (G 10 (Z my 20459)) .ret) .skip)))))))))) (.seq (G 11 (Z my 23)) .ret)))):=kr
theorem afR:Bu=(.seq (G 0 (Z Bu 2)) (.seq (G 1 (Z Bu 5)) .ret)):=kr
theorem afn:Bv=(.seq (G 0 (Z Bv 2)) (.seq (G 1 (Z Bv 5)) .ret)):=kr
theorem afO:Bq=(.seq (G 0 (Z Bq 2)) (.seq (G 1 (Z Bq 5)) .ret)):=kr
theorem afL:Bw=(.seq (G 0 (Z Bw 2)) (.seq (G 1 (Z Bw 5)) .ret)):=kr
theorem Yg:drawInfo (Z eA 47063)=some [(3,4),(3,5),(3,6)]:=kr
theorem Yh:drawInfo (Z eA 25165783)=some [(7,8),(7,9),(7,10)]:=kr
theorem ahk:eA=(.seq (G 0 (Z eA 2)) (.seq (G 1 (Z eA 5)) (.seq (G 2 (Z eA 11)) (.seq (.seq (G 3 (Z eA 39)) (.block 0 (.seq (G 4 (Z eA 151)) (.cond (.tmp 13) (G 5 (Z eA 343)) (.seq (G 6 (Z eA 727)) (.cond (.tmp 20) (G 7 (Z eA 1495)) (.seq (G 8 (Z eA 3031)) (.cond (.tmp 42) (.seq (G 9 (Z eA 10199)) (.seq (G 10 (Z eA 22487)) (.cond (.tmp 57) (.region 11 (Z eA 47063) true) .skip))) (.seq (G 12 (Z eA 12247)) (.cond (.tmp 66) (G 13 (Z eA 24535)) (.seq (G 14 (Z eA 49111)) (.cond (.tmp 72) (.seq (G 15 (Z eA 163799)) (.seq (G 16 (Z eA 360407)) (G 17 (Z eA 491479)))) (.seq (G 18 (Z eA 196567)) (.cond (.tmp 107) (.seq (G 19 (Z eA 655319)) (G 20 (Z eA 917463))) (.seq (G 21 (Z eA 786391)) (.cond (.tmp 153) (.seq (G 22 (Z eA 2621399)) (G 23 (Z eA 3669975))) (.seq (G 24 (Z eA 3145687)) (.cond (.tmp 187) (.seq (G 25 (Z eA 10485719)) (G 26 (Z eA 14680023))) (.seq (G 27 (Z eA 12582871)) (.cond (.tmp 224) (.region 28 (Z eA 25165783) true) .skip)))))))))))))))))))) (.seq (G 29 (Z eA 47)) .ret))))):=kr
theorem agu:kL=(.seq (G 0 (Z kL 2)) (.seq (.seq (G 1 (Z kL 9)) (.block 0 (.seq (G 2 (Z kL 37)) (.cond (.tmp 17) (.seq (G 3 (Z kL 149)) .ret) (.seq (G 4 (Z kL 181)) (.cond (.tmp 45) (.seq (G 5 (Z kL 629)) .ret) (.seq (G 6 (Z kL 757)) (.cond (.tmp 69) (.seq (G 7 (Z kL 2549)) .ret) (.seq (G 8 (Z kL 3061)) (.cond (.tmp 93) (.seq (G 9 (Z kL 10229)) (.seq (G 10 (Z kL 22517)) (.seq (G 11 (Z kL 47093)) .ret))) .skip)))))))))) (.seq (G 12 (Z kL 11)) (.seq (G 13 (Z kL 23)) .ret)))):=kr
theorem X5:drawInfo (Z dw 8799)=some []:=kr
theorem X6:drawInfo (Z dw 751724031)=some []:=kr
theorem ae4:dw=(.seq (G 0 (Z dw 2)) (.seq (G 1 (Z dw 5)) (.seq (G 2 (Z dw 11)) (.seq (.seq (G 3 (Z dw 39)) (.cond (.tmp 71) (.seq (G 4 (Z dw 151)) .ret) .skip)) (.seq (.seq (G 5 (Z dw 79)) (.cond (.tmp 101) (.seq (G 6 (Z dw 303)) .ret) .skip)) (.seq (.seq (G 7 (Z dw 159)) (.block 0 (.loop (.seq (.seq (G 8 (Z dw 2143)) (.cond (.tmp 106) .skip (.exit 0))) (.seq (.block 1 (.seq (.region 10 (Z dw 8799) true) (.cond (.tmp 120) (.seq (G 11 (Z dw 37471)) .ret) .skip))) (G 9 (Z dw 3679))))))) (.seq (G 12 (Z dw 191)) (.seq (.seq (G 13 (Z dw 639)) (.block 2 (.loop (.seq (G 14 (Z dw 4479)) (.seq (.cond (.tmp 126) .skip (.exit 2)) (.seq (.block 3 (.seq (G 15 (Z dw 72063)) (.seq (.seq (G 16 (Z dw 301439)) (.cond (.tmp 139) (.seq (G 17 (Z dw 1218943)) .ret) .skip)) (.seq (G 18 (Z dw 366975)) (.cond (.tmp 143) (.seq (.seq (G 19 (Z dw 2333055)) (.cond (.tmp 148) (.seq (G 20 (Z dw 9673087)) .ret) .skip)) (G 21 (Z dw 1808767))) .skip))))) (G 22 (Z dw 31103)))))))) (.seq (G 23 (Z dw 767)) (.seq (.seq (G 24 (Z dw 2559)) (.block 4 (.loop (.seq (G 25 (Z dw 17919)) (.seq (.cond (.tmp 160) .skip (.exit 4)) (.seq (.block 5 (.seq (G 26 (Z dw 288255)) (.seq (G 27 (Z dw 681471)) (.seq (G 28 (Z dw 1467903)) (.block 6 (.loop (.seq (G 29 (Z dw 9332223)) (.seq (.cond (.tmp 168) .skip (.exit 6)) (.seq (.block 7 (.seq (G 30 (Z dw 147744255)) (.seq (G 31 (Z dw 349070847)) (.seq (.region 32 (Z dw 751724031) true) (.cond (.tmp 187) (.seq (G 33 (Z dw 2630772223)) .ret) .skip))))) (G 34 (Z dw 63858175))))))))))) (G 35 (Z dw 124415)))))))) (.seq (G 36 (Z dw 3071)) .ret))))))))))):=kr
theorem akt:mC=(.seq (G 0 (Z mC 2)) (.seq (G 1 (Z mC 5)) (.seq (.seq (G 2 (Z mC 19)) (.block 0 (.loop (.seq (G 3 (Z mC 139)) (.seq (.cond (.tmp 18) .skip (.exit 0)) (.seq (.block 1 (.seq (G 4 (Z mC 2251)) (.seq (G 5 (Z mC 5323)) (.block 2 (.loop (.seq (G 6 (Z mC 36043)) (.seq (.cond (.tmp 28) .skip (.exit 2)) (.seq (.block 3 (.seq (G 7 (Z mC 576715)) (G 8 (Z mC 838859)))) (G 9 (Z mC 249035)))))))))) (G 10 (Z mC 971)))))))) (.seq (G 11 (Z mC 23)) .ret)))):=kr
theorem ael:A9=(.seq (G 0 (Z A9 2)) (.seq (G 1 (Z A9 5)) .ret)):=kr
theorem YM:drawInfo (Z uY 37)=some [(0,2)]:=kr
theorem aeo:uY=(.seq (G 0 (Z uY 2)) (.seq (.seq (G 1 (Z uY 9)) (.cond (.tmp 9) (.seq (.region 2 (Z uY 37) true) .ret) .skip)) (.seq (G 3 (Z uY 11)) .ret))):=kr
theorem GO:drawInfo (Z ij 11467)=some [(6,9)]:=kr
theorem aer:ij=(.seq (G 0 (Z ij 2)) (.seq (G 1 (Z ij 5)) (.seq (.seq (G 2 (Z ij 19)) (.block 0 (.loop (.seq (G 3 (Z ij 139)) (.seq (.cond (.tmp 17) .skip (.exit 0)) (.seq (.block 1 (.seq (G 4 (Z ij 2251)) (.seq (.seq (G 5 (Z ij 9419)) (.block 2 (.loop (.seq (G 6 (Z ij 70859)) (.seq (.cond (.tmp 24) .skip (.exit 2)) (.seq (.block 3 (.seq (G 7 (Z ij 1152203)) (G 8 (Z ij 1676491)))) (G 9 (Z ij 496843)))))))) (.seq (.region 10 (Z ij 11467) true) (G 11 (Z ij 15563)))))) (G 12 (Z ij 971)))))))) (.seq (.seq (G 13 (Z ij 39)) (.block 4 (.loop (.seq (G 14 (Z ij 279)) (.seq (.cond (.tmp 56) .skip (.exit 4)) (.seq (.block 5 (.seq (G 15 (Z ij 4503)) (G 16 (Z ij 6551)))) (G 17 (Z ij 1943)))))))) (.seq (G 18 (Z ij 47)) .ret))))):=kr
theorem YH:drawInfo (Z tu 37)=some [(0,3)]:=kr
theorem YG:drawInfo (Z tu 11)=some [(0,2)]:=kr
theorem adP:tu=(.seq (G 0 (Z tu 2)) (.seq (.seq (G 1 (Z tu 9)) (.cond (.tmp 7) (.seq (.region 2 (Z tu 37) true) .ret) .skip)) (.seq (.region 3 (Z tu 11) true) .ret))):=kr
theorem YE:drawInfo (Z uZ 21)=some []:=kr
theorem adJ:uZ=(.seq (G 0 (Z uZ 2)) (.seq (.seq (G 1 (Z uZ 9)) (.cond (.tmp 6) (.region 2 (Z uZ 21) true) .skip)) (.seq (G 3 (Z uZ 11)) .ret))):=kr
theorem YF:drawInfo (Z qA 1637)=some []:=kr
theorem adM:qA=(.seq (G 0 (Z qA 2)) (.seq (.seq (G 1 (Z qA 9)) (.block 0 (.loop (.seq (G 2 (Z qA 69)) (.seq (.cond (.tmp 7) .skip (.exit 0)) (.seq (.block 1 (.seq (G 3 (Z qA 1125)) (.region 4 (Z qA 1637) true))) (G 5 (Z qA 485)))))))) (.seq (G 6 (Z qA 11)) .ret))):=kr
theorem adG:Bh=(.seq (G 0 (Z Bh 2)) (.seq (G 1 (Z Bh 5)) .ret)):=kr
theorem ahC:Br=(.seq (G 0 (Z Br 2)) (.seq (G 1 (Z Br 5)) .ret)):=kr
theorem YO:drawInfo (Z eg 5)=some [(4,5),(4,6),(4,7),(4,8)]:=kr
theorem XY:drawInfo (Z eg 5872223)=some []:=kr
theorem XZ:drawInfo (Z eg 2792987231)=some [(2,8),(3,8)]:=kr
theorem X0:drawInfo (Z eg 6014212703)=some []:=kr
theorem aeB:eg=(.seq (G 0 (Z eg 2)) (.seq (.region 1 (Z eg 5) true) (.seq (.seq (G 2 (Z eg 19)) (.block 0 (.loop (.seq (G 3 (Z eg 139)) (.seq (.cond (.tmp 29) .skip (.exit 0)) (.seq (.block 1 (.seq (G 4 (Z eg 2251)) (G 5 (Z eg 3275)))) (G 6 (Z eg 971)))))))) (.seq (G 7 (Z eg 23)) (.seq (.seq (G 8 (Z eg 79)) (.block 2 (.loop (.seq (G 9 (Z eg 559)) (.seq (.cond (.tmp 45) .skip (.exit 2)) (.seq (.block 3 (.seq (G 10 (Z eg 9007)) (G 11 (Z eg 13103)))) (G 12 (Z eg 3887)))))))) (.seq (.seq (G 13 (Z eg 159)) (.block 4 (.loop (.seq (.seq (G 14 (Z eg 2143)) (.cond (.tmp 55) .skip (.exit 4))) (.block 5 (.seq (G 15 (Z eg 4703)) (.seq (G 16 (Z eg 10847)) (.block 6 (.loop (.seq (G 17 (Z eg 72287)) (.seq (.cond (.tmp 61) .skip (.exit 6)) (.seq (.block 7 (.seq (G 18 (Z eg 1153631)) (.seq (.seq (G 19 (Z eg 4823647)) (.cond (.tmp 69) (.exit 7) .skip)) (.seq (.region 20 (Z eg 5872223) true) (.seq (G 21 (Z eg 12163679)) (.block 8 (.loop (.seq (G 22 (Z eg 75078239)) (.seq (.cond (.tmp 85) .skip (.exit 8)) (.seq (.block 9 (.seq (G 23 (Z eg 1182374495)) (.seq (.region 24 (Z eg 2792987231) true) (.seq (.region 25 (Z eg 6014212703) true) (.cond (.tmp 110) (G 26 (Z eg 12456663647)) .skip))))) (G 27 (Z eg 511285855)))))))))))) (G 28 (Z eg 498271)))))))))))))) (.seq (G 29 (Z eg 191)) .ret))))))):=kr
theorem YQ:drawInfo (Z fE 157277)=some []:=kr
theorem X3:drawInfo (Z fE 22340560477)=some []:=kr
theorem X4:drawInfo (Z fE 48110364253)=some [(14,15),(14,16),(14,18),(14,19)]:=kr
theorem ae0:fE=(.seq (G 0 (Z fE 2)) (.scope (.seq (G 1 (Z fE 9)) (.seq (G 2 (Z fE 21)) (.seq (.label 0) (.seq (.seq (G 3 (Z fE 157)) (.block 0 (.loop (.seq (G 4 (Z fE 1117)) (.seq (.cond (.tmp 28) .skip (.exit 0)) (.seq (.block 1 (.seq (G 5 (Z fE 18013)) (.seq (.seq (G 6 (Z fE 75357)) (.cond (.tmp 36) (.exit 1) .skip)) (.seq (.seq (.region 7 (Z fE 157277) true) (.seq (G 8 (Z fE 353885)) (.cond (.tmp 47) (.seq (G 9 (Z fE 1271389)) .ret) .skip))) (.seq (G 10 (Z fE 190045)) (.block 2 (.loop (.seq (G 11 (Z fE 1173085)) (.seq (.cond (.tmp 52) .skip (.exit 2)) (.seq (.block 3 (.seq (G 12 (Z fE 18474589)) (.seq (.seq (G 13 (Z fE 77194845)) (.cond (.tmp 57) (.exit 1) .skip)) (.seq (G 14 (Z fE 93972061)) (.block 4 (.loop (.seq (G 15 (Z fE 597288541)) (.seq (.cond (.tmp 64) .skip (.exit 4)) (.seq (.block 5 (.seq (G 16 (Z fE 9455658589)) (.seq (.region 17 (Z fE 22340560477) true) (.seq (.region 18 (Z fE 48110364253) true) (.cond (.tmp 104) (.seq (G 19 (Z fE 168369448541)) .ret) .skip))))) (G 20 (Z fE 4086949469))))))))))) (G 21 (Z fE 7988829)))))))))))) (G 22 (Z fE 7773)))))))) (.seq (G 23 (Z fE 189)) .ret))))))):=kr
theorem akG:tz=(.seq (G 0 (Z tz 2)) (.seq (.block 0 (.seq (G 1 (Z tz 17)) (.cond (.tmp 3) (.seq (G 2 (Z tz 73)) .ret) (.seq (G 3 (Z tz 89)) (.cond (.tmp 7) (.seq (G 4 (Z tz 313)) .ret) .skip))))) (.seq (G 5 (Z tz 11)) .ret))):=kr
theorem ahF:fD=(.seq (G 0 (Z fD 2)) (.seq (.seq (G 1 (Z fD 9)) (.block 0 (.seq (.seq (G 2 (Z fD 69)) (.cond (.tmp 5) .skip (.seq (G 3 (Z fD 357)) (.cond (.tmp 5) .skip (.seq (G 4 (Z fD 1509)) (.cond (.tmp 5) .skip (.seq (G 5 (Z fD 6117)) (.cond (.tmp 5) .skip (.seq (G 6 (Z fD 24549)) (.cond (.tmp 5) .skip (.seq (G 7 (Z fD 98277)) (.cond (.tmp 5) .skip (.seq (G 8 (Z fD 393189)) (.cond (.tmp 5) .skip (.seq (G 9 (Z fD 1572837)) (.cond (.tmp 5) .skip (.seq (G 10 (Z fD 6291429)) (.cond (.tmp 5) .skip (.seq (G 11 (Z fD 25165797)) (.cond (.tmp 5) .skip (.seq (G 12 (Z fD 100663269)) (.cond (.tmp 5) .skip (.seq (G 13 (Z fD 402653157)) (.cond (.tmp 5) .skip (.seq (G 14 (Z fD 1610612709)) (.cond (.tmp 5) .skip (.seq (G 15 (Z fD 6442450917)) (.cond (.tmp 5) .skip (G 16 (Z fD 17179869157)))))))))))))))))))))))))))))) (.cond (.tmp 5) (.seq (G 17 (Z fD 149)) .ret) (.seq (.seq (G 18 (Z fD 309)) (.cond (.tmp 23) .skip (.seq (G 19 (Z fD 1461)) (.cond (.tmp 23) .skip (.seq (G 20 (Z fD 6069)) (.cond (.tmp 23) .skip (.seq (G 21 (Z fD 24501)) (.cond (.tmp 23) .skip (.seq (G 22 (Z fD 98229)) (.cond (.tmp 23) .skip (.seq (G 23 (Z fD 393141)) (.cond (.tmp 23) .skip (G 24 (Z fD 1048501)))))))))))))) (.cond (.tmp 23) (.seq (G 25 (Z fD 629)) .ret) .skip)))))) (.seq (G 26 (Z fD 11)) .ret))):=kr
theorem ahO:eQ=(.seq (G 0 (Z eQ 2)) (.seq (.seq (G 1 (Z eQ 9)) (.block 0 (.seq (.seq (G 2 (Z eQ 69)) (.cond (.tmp 5) .skip (.seq (G 3 (Z eQ 357)) (.cond (.tmp 5) .skip (.seq (G 4 (Z eQ 1509)) (.cond (.tmp 5) .skip (.seq (G 5 (Z eQ 6117)) (.cond (.tmp 5) .skip (.seq (G 6 (Z eQ 24549)) (.cond (.tmp 5) .skip (.seq (G 7 (Z eQ 98277)) (.cond (.tmp 5) .skip (.seq (G 8 (Z eQ 393189)) (.cond (.tmp 5) .skip (.seq (G 9 (Z eQ 1572837)) (.cond (.tmp 5) .skip (G 10 (Z eQ 4194277)))))))))))))))))) (.cond (.tmp 5) (.seq (G 11 (Z eQ 149)) .ret) (.seq (.seq (G 12 (Z eQ 309)) (.cond (.tmp 18) .skip (.seq (G 13 (Z eQ 1461)) (.cond (.tmp 18) .skip (.seq (G 14 (Z eQ 6069)) (.cond (.tmp 18) .skip (.seq (G 15 (Z eQ 24501)) (.cond (.tmp 18) .skip (.seq (G 16 (Z eQ 98229)) (.cond (.tmp 18) .skip (.seq (G 17 (Z eQ 393141)) (.cond (.tmp 18) .skip (.seq (G 18 (Z eQ 1572789)) (.cond (.tmp 18) .skip (.seq (G 19 (Z eQ 6291381)) (.cond (.tmp 18) .skip (.seq (G 20 (Z eQ 25165749)) (.cond (.tmp 18) .skip (.seq (G 21 (Z eQ 100663221)) (.cond (.tmp 18) .skip (.seq (G 22 (Z eQ 402653109)) (.cond (.tmp 18) .skip (.seq (G 23 (Z eQ 1610612661)) (.cond (.tmp 18) .skip (G 24 (Z eQ 4294967221)))))))))))))))))))))))))) (.cond (.tmp 18) (.seq (G 25 (Z eQ 629)) .ret) (.seq (G 26 (Z eQ 757)) (.cond (.tmp 37) (.seq (G 27 (Z eQ 2549)) .ret) (.seq (G 28 (Z eQ 3061)) (.cond (.tmp 42) (.seq (G 29 (Z eQ 10229)) .ret) .skip)))))))))) (.seq (G 30 (Z eQ 11)) .ret))):=kr
theorem ahR:ko=(.seq (G 0 (Z ko 2)) (.seq (.seq (G 1 (Z ko 9)) (.block 0 (.seq (.seq (G 2 (Z ko 69)) (.cond (.tmp 5) .skip (.seq (G 3 (Z ko 357)) (.cond (.tmp 5) .skip (G 4 (Z ko 997)))))) (.cond (.tmp 5) (.seq (G 5 (Z ko 149)) .ret) (.seq (G 6 (Z ko 181)) (.cond (.tmp 12) (.seq (G 7 (Z ko 629)) (.cond (.tmp 16) (.seq (G 8 (Z ko 2421)) .ret) .skip)) (.seq (G 9 (Z ko 757)) (.cond (.tmp 20) (.seq (G 10 (Z ko 2549)) .ret) (.seq (.seq (G 11 (Z ko 5109)) (.cond (.tmp 25) .skip (G 12 (Z ko 15349)))) (.cond (.tmp 25) (.seq (G 13 (Z ko 10229)) .ret) .skip)))))))))) (.seq (G 14 (Z ko 11)) .ret))):=kr
theorem ahI:od=(.seq (G 0 (Z od 2)) (.seq (.seq (G 1 (Z od 9)) (.block 0 (.seq (G 2 (Z od 37)) (.cond (.tmp 5) (.seq (G 3 (Z od 149)) .ret) (.seq (.seq (G 4 (Z od 309)) (.cond (.tmp 10) .skip (G 5 (Z od 949)))) (.cond (.tmp 10) (.seq (G 6 (Z od 629)) .ret) (.seq (G 7 (Z od 757)) (.cond (.tmp 15) (.seq (G 8 (Z od 2549)) .ret) .skip)))))))) (.seq (G 9 (Z od 11)) .ret))):=kr
theorem ahL:uX=(.seq (G 0 (Z uX 2)) (.seq (.seq (G 1 (Z uX 9)) (.cond (.tmp 4) (.seq (G 2 (Z uX 37)) .ret) .skip)) (.seq (G 3 (Z uX 11)) .ret))):=kr
theorem akj:BK=(.seq (G 0 (Z BK 2)) (G 1 (Z BK 3))):=kr
theorem aef:eR=(.seq (G 0 (Z eR 2)) (.seq (G 1 (Z eR 5)) (.block 0 (.loop (.block 1 (.seq (G 2 (Z eR 67)) (.seq (.seq (G 3 (Z eR 291)) (.cond (.tmp 23) (.seq (G 4 (Z eR 1187)) .ret) .skip)) (.seq (.seq (G 5 (Z eR 611)) (.cond (.tmp 29) (.seq (G 6 (Z eR 2403)) .ret) .skip)) (.seq (.seq (G 7 (Z eR 1251)) (.cond (.tmp 35) (.seq (G 8 (Z eR 4835)) (G 9 (Z eR 6883))) .skip)) (.seq (G 10 (Z eR 1507)) (.seq (.seq (G 11 (Z eR 5091)) (.cond (.tmp 50) (.seq (G 12 (Z eR 19427)) (.seq (G 13 (Z eR 44003)) (G 14 (Z eR 60387)))) .skip)) (.seq (.seq (G 15 (Z eR 10211)) (.cond (.tmp 68) (.seq (G 16 (Z eR 38883)) (.cond (.tmp 72) .ret .skip)) .skip)) (.seq (.seq (.region 17 (Z eR 20451) true) (.cond (.tmp 87) (.seq (G 18 (Z eR 77795)) (.seq (G 19 (Z eR 176099)) (.exit 1))) .skip)) (.seq (G 20 (Z eR 24547)) (.seq (G 21 (Z eR 49123)) (.seq (G 22 (Z eR 98275)) (.seq (G 23 (Z eR 196579)) (.seq (G 24 (Z eR 393187)) (.cond (.tmp 113) (.seq (G 25 (Z eR 1310691)) (.seq (G 26 (Z eR 2883555)) (G 27 (Z eR 3932131)))) (.seq (G 28 (Z eR 1572835)) (.seq (G 29 (Z eR 3145699)) (G 30 (Z eR 4194275))))))))))))))))))))))):=kr
theorem YI:drawInfo (Z pH 2121)=some []:=kr
theorem YJ:drawInfo (Z pH 4681)=some []:=kr
theorem aec:pH=(.seq (G 0 (Z pH 2)) (.block 0 (.loop (.seq (.seq (G 1 (Z pH 33)) (.cond (.tmp 12) .skip (.exit 0))) (.seq (.block 1 (.seq (G 3 (Z pH 137)) (.block 2 (.loop (.seq (.seq (.region 4 (Z pH 2121) true) (.cond (.tmp 30) .skip (.exit 2))) (.seq (.block 3 (.region 6 (Z pH 4681) true)) (G 5 (Z pH 3657)))))))) (G 2 (Z pH 57))))))):=kr
theorem ad':Bb=(.seq (G 0 (Z Bb 2)) (.seq (G 1 (Z Bb 5)) .ret)):=kr
theorem ad7:Bj=(.seq (G 0 (Z Bj 2)) (.seq (G 1 (Z Bj 5)) .ret)):=kr
theorem ZU:drawInfo (Z iC 1099)=some []:=kr
theorem YL:drawInfo (Z iC 1124939)=some []:=kr
theorem akm:iC=(.seq (G 0 (Z iC 2)) (.seq (.seq (G 1 (Z iC 9)) (.cond (.tmp 8) (.seq (G 2 (Z iC 37)) .ret) .skip)) (.seq (.seq (G 3 (Z iC 19)) (.block 0 (.loop (.seq (.seq (G 4 (Z iC 267)) (.cond (.tmp 13) .skip (.exit 0))) (.seq (.block 1 (.seq (.region 6 (Z iC 1099) true) (.cond (.tmp 25) (.seq (G 7 (Z iC 4683)) (.seq (.seq (G 8 (Z iC 19019)) (.block 2 (.loop (.seq (.seq (G 9 (Z iC 272971)) (.cond (.tmp 32) .skip (.exit 2))) (.seq (.block 3 (.seq (.region 11 (Z iC 1124939) true) (.cond (.tmp 44) (.seq (G 12 (Z iC 4794955)) (G 13 (Z iC 6892107))) .skip))) (G 10 (Z iC 469579))))))) (.seq (G 14 (Z iC 23115)) (.seq (G 15 (Z iC 47691)) .ret)))) .skip))) (G 5 (Z iC 459))))))) (.seq (G 16 (Z iC 23)) .ret)))):=kr
theorem aei:xd=(.seq (G 0 (Z xd 2)) (.seq (G 1 (Z xd 5)) (.seq (G 2 (Z xd 11)) (.seq (G 3 (Z xd 23)) .ret)))):=kr
theorem ad4:Bs=(.seq (G 0 (Z Bs 2)) (.seq (G 1 (Z Bs 5)) .ret)):=kr
theorem ad1:u4=(.seq (G 0 (Z u4 2)) (.seq (.seq (G 1 (Z u4 9)) (.block 0 (.rangeFunc (.tmp 6) #[7] (G 2 (Z u4 37)) (.block 1 (G 3 (Z u4 85)))))) (.seq (G 4 (Z u4 11)) .ret))):=kr
theorem ae8:kK=(.seq (G 0 (Z kK 2)) (.seq (G 1 (Z kK 5)) (.seq (.seq (G 2 (Z kK 19)) (.cond (.tmp 13) (G 3 (Z kK 43)) .skip)) (.seq (.seq (G 4 (Z kK 39)) (.cond (.tmp 26) (G 5 (Z kK 87)) .skip)) (.seq (.seq (G 6 (Z kK 79)) (.block 0 (.loop (.seq (G 7 (Z kK 559)) (.seq (.cond (.tmp 36) .skip (.exit 0)) (.seq (.block 1 (.seq (G 8 (Z kK 9007)) (G 9 (Z kK 13103)))) (G 10 (Z kK 3887)))))))) (.seq (.seq (G 11 (Z kK 159)) (.cond (.tmp 47) (G 12 (Z kK 351)) .skip)) (.seq (G 13 (Z kK 191)) .ret))))))):=kr
theorem afw:qt=(.seq (G 0 (Z qt 2)) (.seq (G 1 (Z qt 5)) (.seq (.seq (G 2 (Z qt 19)) (.cond (.tmp 15) (.seq (G 3 (Z qt 75)) .ret) .skip)) (.seq (G 4 (Z qt 23)) (.seq (G 5 (Z qt 47)) (.seq (G 6 (Z qt 95)) (.seq (G 7 (Z qt 191)) .ret))))))):=kr
theorem afe:r5=(.seq (G 0 (Z r5 2)) (.seq (G 1 (Z r5 5)) (.block 0 (.loop (.seq (G 2 (Z r5 35)) (.seq (.cond (.tmp 20) .skip (.exit 0)) (.seq (.block 1 (.seq (G 3 (Z r5 563)) (.seq (G 4 (Z r5 1331)) (.cond (.tmp 32) (G 5 (Z r5 2867)) .skip)))) (G 6 (Z r5 243))))))))):=kr
theorem Z8:drawInfo (Z gv 23)=some []:=kr
theorem YU:drawInfo (Z gv 95023)=some [(1,6),(2,6),(3,6)]:=kr
theorem YV:drawInfo (Z gv 26866479)=some [(1,14),(2,14),(3,14)]:=kr
theorem UQ:gv=(.seq (G 0 (Z gv 2)) (.seq (.seq (G 1 (Z gv 9)) (.seq (G 2 (Z gv 21)) (.cond (.tmp 15) (.seq (G 3 (Z gv 77)) .ret) .skip))) (.seq (G 4 (Z gv 11)) (.seq (.region 5 (Z gv 23) true) (.seq (.seq (G 6 (Z gv 79)) (.block 0 (.loop (.seq (G 7 (Z gv 559)) (.seq (.cond (.tmp 31) .skip (.exit 0)) (.seq (.block 1 (.seq (G 8 (Z gv 9007)) (.seq (G 9 (Z gv 21295)) (.seq (G 10 (Z gv 45871)) (.seq (.region 11 (Z gv 95023) true) (.seq (G 12 (Z gv 193327)) (.block 2 (.loop (.seq (G 13 (Z gv 1176367)) (.seq (.cond (.tmp 57) .skip (.exit 2)) (.seq (.block 3 (.seq (G 14 (Z gv 18477871)) (.region 15 (Z gv 26866479) true))) (G 16 (Z gv 7992111))))))))))))) (G 17 (Z gv 3887)))))))) (.seq (G 18 (Z gv 95)) (.seq (G 19 (Z gv 191)) .ret))))))):=kr
theorem afz:qx=(.seq (G 0 (Z qx 2)) (.seq (.seq (G 1 (Z qx 9)) (.block 0 (.loop (.seq (G 2 (Z qx 69)) (.seq (.cond (.tmp 20) .skip (.exit 0)) (.seq (.block 1 (.seq (G 3 (Z qx 1125)) (.seq (G 4 (Z qx 2661)) (.cond (.tmp 27) (G 5 (Z qx 5733)) .skip)))) (G 6 (Z qx 485)))))))) (G 7 (Z qx 7)))):=kr
theorem akT:qH=(.seq (G 0 (Z qH 2)) (.seq (G 1 (Z qH 5)) (.seq (G 2 (Z qH 11)) (.seq (G 3 (Z qH 23)) (.seq (G 4 (Z qH 47)) (.seq (G 5 (Z qH 95)) (.seq (G 6 (Z qH 191)) (.seq (G 7 (Z qH 383)) .ret)))))))):=kr
theorem Z6:drawInfo (Z vm 73)=some []:=kr
theorem akQ:vm=(.seq (G 0 (Z vm 2)) (.block 0 (.loop (.seq (.seq (G 1 (Z vm 33)) (.cond (.tmp 9) .skip (.exit 0))) (.seq (.block 1 (.region 3 (Z vm 73) true)) (G 2 (Z vm 57))))))):=kr
theorem afb:xc=(.seq (G 0 (Z xc 2)) (.block 0 (.loop (.seq (.seq (G 1 (Z xc 33)) (.cond (.tmp 8) .skip (.exit 0))) (.seq (.block 1 (.seq (G 3 (Z xc 137)) (.cond (.tmp 18) .ret .skip))) (G 2 (Z xc 57))))))):=kr
theorem akK:BJ=(.seq (G 0 (Z BJ 2)) (.seq (G 1 (Z BJ 5)) .ret)):=kr
theorem ak0:ik=(.seq (G 0 (Z ik 2)) (.seq (.seq (G 1 (Z ik 9)) (.cond (.tmp 58) (.seq (G 2 (Z ik 37)) .ret) .skip)) (.seq (.seq (G 3 (Z ik 19)) (.block 0 (.loop (.seq (.seq (G 4 (Z ik 267)) (.cond (.tmp 63) .skip (.exit 0))) (.seq (.block 1 (.seq (G 6 (Z ik 1099)) (.cond (.tmp 72) (.seq (G 7 (Z ik 4683)) .ret) .skip))) (G 5 (Z ik 459))))))) (.seq (.seq (G 8 (Z ik 39)) (.block 2 (.loop (.seq (.seq (G 9 (Z ik 535)) (.cond (.tmp 77) .skip (.exit 2))) (.seq (.block 3 (.seq (G 11 (Z ik 2199)) (.seq (.seq (G 12 (Z ik 9367)) (.cond (.tmp 117) (.seq (G 13 (Z ik 38039)) .ret) .skip)) (.seq (G 14 (Z ik 11415)) (.block 4 (.loop (.seq (.seq (G 15 (Z ik 138391)) (.cond (.tmp 122) .skip (.exit 4))) (.seq (.block 5 (.seq (G 17 (Z ik 564375)) (.cond (.tmp 132) (.seq (G 18 (Z ik 2399383)) .ret) .skip))) (G 16 (Z ik 236695)))))))))) (G 10 (Z ik 919))))))) (.seq (G 19 (Z ik 47)) .ret))))):=kr
theorem ale:xB=(.seq (G 0 (Z xB 2)) (.seq (.block 0 (.loop (.seq (.seq (G 1 (Z xB 65)) (.cond (.tmp 13) .skip (.exit 0))) (.block 1 (G 2 (Z xB 81)))))) (.seq (G 3 (Z xB 11)) .ret))):=kr
theorem ak9:qJ=(.seq (G 0 (Z qJ 2)) (.seq (G 1 (Z qJ 5)) (.seq (.seq (G 2 (Z qJ 19)) (.block 0 (.loop (.seq (G 3 (Z qJ 139)) (.seq (.cond (.tmp 12) .skip (.exit 0)) (.seq (.block 1 (.seq (G 4 (Z qJ 2251)) (G 5 (Z qJ 3275)))) (G 6 (Z qJ 971)))))))) (.seq (G 7 (Z qJ 23)) .ret)))):=kr
theorem YZ:drawInfo (Z ei 316966909119)=some []:=kr
theorem alb:ei=(.seq (G 0 (Z ei 2)) (.seq (G 1 (Z ei 5)) (.seq (G 2 (Z ei 11)) (.seq (.seq (G 3 (Z ei 39)) (.block 0 (.loop (.seq (G 4 (Z ei 279)) (.seq (.cond (.tmp 26) .skip (.exit 0)) (.seq (.block 1 (.seq (G 5 (Z ei 4503)) (G 6 (Z ei 6551)))) (G 7 (Z ei 1943)))))))) (.seq (G 8 (Z ei 47)) (.seq (G 9 (Z ei 95)) (.seq (.seq (G 10 (Z ei 319)) (.block 2 (.loop (.seq (.seq (G 11 (Z ei 4287)) (.cond (.tmp 44) .skip (.exit 2))) (.block 3 (.seq (G 12 (Z ei 9407)) (.seq (G 13 (Z ei 21695)) (.block 4 (.loop (.seq (G 14 (Z ei 144575)) (.seq (.cond (.tmp 49) .skip (.exit 4)) (.seq (.block 5 (.seq (G 15 (Z ei 2307263)) (.seq (G 16 (Z ei 5452991)) (.seq (.seq (G 17 (Z ei 20133055)) (.block 6 (.loop (.seq (G 18 (Z ei 145962175)) (.seq (.cond (.tmp 61) .skip (.exit 6)) (.seq (.block 7 (.seq (G 19 (Z ei 2360554687)) (.seq (.seq (G 20 (Z ei 9876747455)) (.cond (.tmp 68) (.exit 7) .skip)) (.seq (.seq (G 21 (Z ei 20614165695)) (.cond (.tmp 70) (.seq (G 22 (Z ei 80743707839)) (.exit 7)) .skip)) (.block 8 (.loop (.seq (.seq (G 23 (Z ei 145168217279)) (.cond (.tmp 74) .skip (.exit 8))) (.block 9 (.seq (.region 24 (Z ei 316966909119) true) (.cond (.tmp 83) (G 25 (Z ei 729283769535)) (G 26 (Z ei 1004161676479)))))))))))) (G 27 (Z ei 1018377407)))))))) (.seq (G 28 (Z ei 24327359)) (.cond (.tmp 98) (G 29 (Z ei 49493183)) .skip)))))) (G 30 (Z ei 996543)))))))))))))) (.seq (G 31 (Z ei 383)) (.seq (G 32 (Z ei 767)) .ret))))))))):=kr
theorem ak3:vj=(.seq (G 0 (Z vj 2)) (.block 0 (.loop (.seq (G 1 (Z vj 17)) (.seq (.cond (.tmp 12) .skip (.exit 0)) (.seq (.block 1 (.seq (G 2 (Z vj 281)) (.seq (G 3 (Z vj 665)) (.cond (.tmp 22) .ret .skip)))) (G 4 (Z vj 121)))))))):=kr
theorem AO:drawInfo (Z cY 117951)=some [(0,6)]:=kr
theorem UW:cY=(.seq (G 0 (Z cY 2)) (.seq (G 1 (Z cY 5)) (.seq (.seq (G 2 (Z cY 19)) (.cond (.tmp 19) (.seq (G 3 (Z cY 75)) .ret) .skip)) (.seq (G 4 (Z cY 23)) (.seq (G 5 (Z cY 47)) (.seq (.seq (G 6 (Z cY 159)) (.block 0 (.rangeFunc (.tmp 31) #[32] (G 7 (Z cY 607)) (.block 1 (.seq (G 8 (Z cY 2399)) (.block 2 (.loop (.seq (G 9 (Z cY 17759)) (.seq (.cond (.tmp 42) .skip (.exit 2)) (.seq (.block 3 (.seq (G 10 (Z cY 288095)) (.seq (G 11 (Z cY 681311)) (.block 4 (.loop (.seq (.seq (G 12 (Z cY 8807775)) (.cond (.tmp 64) .skip (.exit 4))) (.seq (.block 5 (.region 14 (Z cY 19293535) true)) (G 13 (Z cY 15099231))))))))) (G 15 (Z cY 124255)))))))))))) (.seq (.seq (G 16 (Z cY 319)) (.block 6 (.loop (.seq (G 17 (Z cY 2239)) (.seq (.cond (.tmp 83) .skip (.exit 6)) (.seq (.block 7 (.seq (G 18 (Z cY 36031)) (.seq (G 19 (Z cY 85183)) (.region 20 (Z cY 117951) true)))) (G 21 (Z cY 15551)))))))) (.seq (G 22 (Z cY 383)) .ret)))))))):=kr
theorem Va:si=(.seq (G 0 (Z si 2)) (.seq (G 1 (Z si 5)) (.seq (.seq (G 2 (Z si 19)) (.cond (.tmp 16) (.seq (G 3 (Z si 75)) .ret) .skip)) (.seq (.seq (G 4 (Z si 39)) (.cond (.tmp 27) (.seq (G 5 (Z si 151)) .ret) .skip)) (.seq (G 6 (Z si 47)) .ret))))):=kr
theorem al4:vg=(.seq (G 0 (Z vg 2)) (.seq (G 1 (Z vg 5)) (.seq (.seq (G 2 (Z vg 19)) (.cond (.tmp 12) (.seq (G 3 (Z vg 75)) .ret) .skip)) (.seq (G 4 (Z vg 23)) .ret)))):=kr
theorem sk9:qR=(.seq (G 0 (Z qR 2)) (.seq (.seq (G 1 (Z qR 9)) (.cond (.tmp 17) (.seq (G 2 (Z qR 37)) .ret) .skip)) (.seq (G 3 (Z qR 11)) (.seq (G 4 (Z qR 23)) (.seq (G 5 (Z qR 47)) (.seq (G 6 (Z qR 95)) (.seq (G 7 (Z qR 191)) .ret))))))):=kr
noncomputable def BZ:T (Func×Code):=
 (.node none (.node none (.node (some (Tryz.f3,TU)) (.node (some (Tryz.f7,TY)) (.node (some (Tryz.f15,ik)) (.node (some (Tryz.f31,Q7)) (.node (some (Tryz.f63,kO)) (.node (some (Tryz.f127,ns)) (.node (some (Tryz.f255,Bu)) .leaf .leaf) .leaf) (.node (some (Tryz.f191,Bd)) .leaf .leaf)) (.node (some (Tryz.f95,tz)) (.node (some (Tryz.f159,O9)) .leaf .leaf) (.node (some (Tryz.f223,PC)) .leaf .leaf))) (.node (some (Tryz.f47,Rn)) (.node (some (Tryz.f79,RL)) (.node (some (Tryz.f143,O1)) .leaf .leaf) (.node (some (Tryz.f207,Px)) .leaf .leaf)) (.node (some (Tryz.f111,OL)) (.node (some (Tryz.f175,od)) .leaf .leaf) (.node (some (Tryz.f239,y4)) .leaf .leaf)))) (.node (some (Tryz.f23,QY)) (.node (some (Tryz.f39,cY)) (.node (some (Tryz.f71,RF)) (.node (some (Tryz.f135,OW)) .leaf .leaf) (.node (some (Tryz.f199,uY)) .leaf .leaf)) (.node (some (Tryz.f103,OE)) (.node (some (Tryz.f167,Pf)) .leaf .leaf) (.node (some (Tryz.f231,qy)) .leaf .leaf))) (.node (some (Tryz.f55,dK)) (.node (some (Tryz.f87,xB)) (.node (some (Tryz.f151,eR)) .leaf .leaf) (.node (some (Tryz.f215,mw)) .leaf .leaf)) (.node (some (Tryz.f119,A8)) (.node (some (Tryz.f183,Po)) .leaf .leaf) (.node (some (Tryz.f247,Bs)) .leaf .leaf))))) (.node (some (Tryz.f11,QO)) (.node (some (Tryz.f19,QV)) (.node (some (Tryz.f35,Re)) (.node (some (Tryz.f67,RC)) (.node (some (Tryz.f131,OS)) (.node (some (Tryz.f259,PN)) .leaf .leaf) .leaf) (.node (some (Tryz.f195,eA)) .leaf .leaf)) (.node (some (Tryz.f99,RU)) (.node (some (Tryz.f163,Pc)) .leaf .leaf) (.node (some (Tryz.f227,Bj)) .leaf .leaf))) (.node (some (Tryz.f51,gv)) (.node (some (Tryz.f83,RP)) (.node (some (Tryz.f147,O3)) .leaf .leaf) (.node (some (Tryz.f211,r6)) .leaf .leaf)) (.node (some (Tryz.f115,kK)) (.node (some (Tryz.f179,Pj)) .leaf .leaf) (.node (some (Tryz.f243,qA)) .leaf .leaf)))) (.node (some (Tryz.f27,Q3)) (.node (some (Tryz.f43,Ri)) (.node (some (Tryz.f75,io)) (.node (some (Tryz.f139,fD)) .leaf .leaf) (.node (some (Tryz.f203,Pt)) .leaf .leaf)) (.node (some (Tryz.f107,OH)) (.node (some (Tryz.f171,cG)) .leaf .leaf) (.node (some (Tryz.f235,nt)) .leaf .leaf))) (.node (some (Tryz.f59,Ry)) (.node (some (Tryz.f91,js)) (.node (some (Tryz.f155,A9)) .leaf .leaf) (.node (some (Tryz.f219,fP)) .leaf .leaf)) (.node (some (Tryz.f123,eP)) (.node (some (Tryz.f187,Pr)) .leaf .leaf) (.node (some (Tryz.f251,PM)) .leaf .leaf)))))) (.node (some (Tryz.f5,TW)) (.node (some (Tryz.f9,qR)) (.node (some (Tryz.f17,QT)) (.node (some (Tryz.f33,Q9)) (.node (some (Tryz.f65,RA)) (.node (some (Tryz.f129,OR)) (.node (some (Tryz.f257,Bw)) .leaf .leaf) .leaf) (.node (some (Tryz.f193,Bf)) .leaf .leaf)) (.node (some (Tryz.f97,mC)) (.node (some (Tryz.f161,Pa)) .leaf .leaf) (.node (some (Tryz.f225,PF)) .leaf .leaf))) (.node (some (Tryz.f49,Rq)) (.node (some (Tryz.f81,RN)) (.node (some (Tryz.f145,lF)) .leaf .leaf) (.node (some (Tryz.f209,Pz)) .leaf .leaf)) (.node (some (Tryz.f113,ON)) (.node (some (Tryz.f177,Ph)) .leaf .leaf) (.node (some (Tryz.f241,PH)) .leaf .leaf)))) (.node (some (Tryz.f25,Q1)) (.node (some (Tryz.f41,Rg)) (.node (some (Tryz.f73,RH)) (.node (some (Tryz.f137,ko)) .leaf .leaf) (.node (some (Tryz.f201,xd)) .leaf .leaf)) (.node (some (Tryz.f105,uX)) (.node (some (Tryz.f169,ig)) .leaf .leaf) (.node (some (Tryz.f233,Bo)) .leaf .leaf))) (.node (some (Tryz.f57,Rw)) (.node (some (Tryz.f89,BK)) (.node (some (Tryz.f153,dw)) .leaf .leaf) (.node (some (Tryz.f217,pJ)) .leaf .leaf)) (.node (some (Tryz.f121,dv)) (.node (some (Tryz.f185,Pp)) .leaf .leaf) (.node (some (Tryz.f249,PJ)) .leaf .leaf))))) (.node (some (Tryz.f13,QQ)) (.node (some (Tryz.f21,vf)) (.node (some (Tryz.f37,si)) (.node (some (Tryz.f69,BJ)) (.node (some (Tryz.f133,OU)) .leaf .leaf) (.node (some (Tryz.f197,eg)) .leaf .leaf)) (.node (some (Tryz.f101,OC)) (.node (some (Tryz.f165,Pe)) .leaf .leaf) (.node (some (Tryz.f229,Bl)) .leaf .leaf))) (.node (some (Tryz.f53,Ru)) (.node (some (Tryz.f85,qH)) (.node (some (Tryz.f149,qx)) .leaf .leaf) (.node (some (Tryz.f213,r7)) .leaf .leaf)) (.node (some (Tryz.f117,OP)) (.node (some (Tryz.f181,Pm)) .leaf .leaf) (.node (some (Tryz.f245,tu)) .leaf .leaf)))) (.node (some (Tryz.f29,Q5)) (.node (some (Tryz.f45,Rk)) (.node (some (Tryz.f77,RJ)) (.node (some (Tryz.f141,OZ)) .leaf .leaf) (.node (some (Tryz.f205,Pv)) .leaf .leaf)) (.node (some (Tryz.f109,OJ)) (.node (some (Tryz.f173,mv)) .leaf .leaf) (.node (some (Tryz.f237,Bp)) .leaf .leaf))) (.node (some (Tryz.f61,vj)) (.node (some (Tryz.f93,RS)) (.node (some (Tryz.f157,O7)) .leaf .leaf) (.node (some (Tryz.f221,jM)) .leaf .leaf)) (.node (some (Tryz.f125,fL)) (.node (some (Tryz.f189,yZ)) .leaf .leaf) (.node (some (Tryz.f253,my)) .leaf .leaf))))))) (.node none (.node (some (Tryz.f4,TV)) (.node (some (Tryz.f8,TZ)) (.node (some (Tryz.f16,QS)) (.node (some (Tryz.f32,Q8)) (.node (some (Tryz.f64,oi)) (.node (some (Tryz.f128,jK)) (.node (some (Tryz.f256,Bv)) .leaf .leaf) .leaf) (.node (some (Tryz.f192,Be)) .leaf .leaf)) (.node (some (Tryz.f96,BL)) (.node (some (Tryz.f160,O')) .leaf .leaf) (.node (some (Tryz.f224,PE)) .leaf .leaf))) (.node (some (Tryz.f48,Rp)) (.node (some (Tryz.f80,RM)) (.node (some (Tryz.f144,O2)) .leaf .leaf) (.node (some (Tryz.f208,Py)) .leaf .leaf)) (.node (some (Tryz.f112,OM)) (.node (some (Tryz.f176,xc)) .leaf .leaf) (.node (some (Tryz.f240,y5)) .leaf .leaf)))) (.node (some (Tryz.f24,QZ)) (.node (some (Tryz.f40,Rf)) (.node (some (Tryz.f72,RG)) (.node (some (Tryz.f136,OX)) .leaf .leaf) (.node (some (Tryz.f200,Bh)) .leaf .leaf)) (.node (some (Tryz.f104,OF)) (.node (some (Tryz.f168,r5)) .leaf .leaf) (.node (some (Tryz.f232,Bn)) .leaf .leaf))) (.node (some (Tryz.f56,mB)) (.node (some (Tryz.f88,nv)) (.node (some (Tryz.f152,O6)) .leaf .leaf) (.node (some (Tryz.f216,y0)) .leaf .leaf)) (.node (some (Tryz.f120,du)) (.node (some (Tryz.f184,Bb)) .leaf .leaf) (.node (some (Tryz.f248,PI)) .leaf .leaf))))) (.node (some (Tryz.f12,QP)) (.node (some (Tryz.f20,QW)) (.node (some (Tryz.f36,vg)) (.node (some (Tryz.f68,RD)) (.node (some (Tryz.f132,OT)) (.node (some (Tryz.f260,qC)) .leaf .leaf) .leaf) (.node (some (Tryz.f196,kL)) .leaf .leaf)) (.node (some (Tryz.f100,OB)) (.node (some (Tryz.f164,Pd)) .leaf .leaf) (.node (some (Tryz.f228,Bk)) .leaf .leaf))) (.node (some (Tryz.f52,Rt)) (.node (some (Tryz.f84,vm)) (.node (some (Tryz.f148,O4)) .leaf .leaf) (.node (some (Tryz.f212,Bi)) .leaf .leaf)) (.node (some (Tryz.f116,qt)) (.node (some (Tryz.f180,Pk)) .leaf .leaf) (.node (some (Tryz.f244,Br)) .leaf .leaf)))) (.node (some (Tryz.f28,Q4)) (.node (some (Tryz.f44,Rj)) (.node (some (Tryz.f76,qG)) (.node (some (Tryz.f140,eQ)) .leaf .leaf) (.node (some (Tryz.f204,Pu)) .leaf .leaf)) (.node (some (Tryz.f108,OI)) (.node (some (Tryz.f172,fM)) .leaf .leaf) (.node (some (Tryz.f236,qz)) .leaf .leaf))) (.node (some (Tryz.f60,ei)) (.node (some (Tryz.f92,qI)) (.node (some (Tryz.f156,A')) .leaf .leaf) (.node (some (Tryz.f220,jq)) .leaf .leaf)) (.node (some (Tryz.f124,rZ)) (.node (some (Tryz.f188,Ps)) .leaf .leaf) (.node (some (Tryz.f252,qB)) .leaf .leaf)))))) (.node (some (Tryz.f6,TX)) (.node (some (Tryz.f10,QN)) (.node (some (Tryz.f18,QU)) (.node (some (Tryz.f34,Rc)) (.node (some (Tryz.f66,RB)) (.node (some (Tryz.f130,qw)) (.node (some (Tryz.f258,u4)) .leaf .leaf) .leaf) (.node (some (Tryz.f194,Bg)) .leaf .leaf)) (.node (some (Tryz.f98,RT)) (.node (some (Tryz.f162,Pb)) .leaf .leaf) (.node (some (Tryz.f226,PG)) .leaf .leaf))) (.node (some (Tryz.f50,Rr)) (.node (some (Tryz.f82,RO)) (.node (some (Tryz.f146,oc)) .leaf .leaf) (.node (some (Tryz.f210,PA)) .leaf .leaf)) (.node (some (Tryz.f114,OO)) (.node (some (Tryz.f178,pH)) .leaf .leaf) (.node (some (Tryz.f242,uZ)) .leaf .leaf)))) (.node (some (Tryz.f26,Q2)) (.node (some (Tryz.f42,Rh)) (.node (some (Tryz.f74,RI)) (.node (some (Tryz.f138,OY)) .leaf .leaf) (.node (some (Tryz.f202,pI)) .leaf .leaf)) (.node (some (Tryz.f106,OG)) (.node (some (Tryz.f170,Ba)) .leaf .leaf) (.node (some (Tryz.f234,xf)) .leaf .leaf))) (.node (some (Tryz.f58,Rx)) (.node (some (Tryz.f90,iC)) (.node (some (Tryz.f154,fE)) .leaf .leaf) (.node (some (Tryz.f218,y3)) .leaf .leaf)) (.node (some (Tryz.f122,qv)) (.node (some (Tryz.f186,Pq)) .leaf .leaf) (.node (some (Tryz.f250,PK)) .leaf .leaf))))) (.node (some (Tryz.f14,QR)) (.node (some (Tryz.f22,BI)) (.node (some (Tryz.f38,vh)) (.node (some (Tryz.f70,RE)) (.node (some (Tryz.f134,OV)) .leaf .leaf) (.node (some (Tryz.f198,ij)) .leaf .leaf)) (.node (some (Tryz.f102,OD)) (.node (some (Tryz.f166,w9)) .leaf .leaf) (.node (some (Tryz.f230,Bm)) .leaf .leaf))) (.node (some (Tryz.f54,Rv)) (.node (some (Tryz.f86,RQ)) (.node (some (Tryz.f150,O5)) .leaf .leaf) (.node (some (Tryz.f214,jL)) .leaf .leaf)) (.node (some (Tryz.f118,OQ)) (.node (some (Tryz.f182,Pn)) .leaf .leaf) (.node (some (Tryz.f246,r8)) .leaf .leaf)))) (.node (some (Tryz.f30,Q6)) (.node (some (Tryz.f46,Rm)) (.node (some (Tryz.f78,RK)) (.node (some (Tryz.f142,O0)) .leaf .leaf) (.node (some (Tryz.f206,Pw)) .leaf .leaf)) (.node (some (Tryz.f110,OK)) (.node (some (Tryz.f174,Pg)) .leaf .leaf) (.node (some (Tryz.f238,Bq)) .leaf .leaf))) (.node (some (Tryz.f62,Rz)) (.node (some (Tryz.f94,qJ)) (.node (some (Tryz.f158,O8)) .leaf .leaf) (.node (some (Tryz.f222,PB)) .leaf .leaf)) (.node (some (Tryz.f126,mu)) (.node (some (Tryz.f190,Bc)) .leaf .leaf) (.node (some (Tryz.f254,Bt)) .leaf .leaf))))))))
def FH(p:Nat->Func×Code->Prop):(Nat->Nat)->T (Func×Code)->Prop
 |_,.leaf=>True
 |g,.node v l r=>(∀ a,v=some a->p (g 0) a)/\FH p (fun i=>g (2*i+1)) l/\FH p (fun i=>g (2*i+2)) r
theorem HH{p:Nat->Func×Code->Prop}:∀ {t:T (Func×Code)} {g:Nat->Nat},FH p g t->∀ i a,t.get i=some a->p (g i) a
 | .leaf,_,_,i,a,h=>by cases h
 | .node v l r,g,⟨h1,h2,h3⟩,i,a,h=>by
  rw[T.tg] at h
  by_cases h0:i=0
  .subst h0
   exact h1 a (by simpa using h)
  .rw[if_neg h0] at h
   by_cases ho:i % 2=1
   .rw[if_pos ho] at h
    have:=HH h2 _ a h
    have e:2*(i / 2)+1=i:=by omega
    simpa only[e] using this
   .rw[if_neg ho] at h
    have:=HH h3 _ a h
    have e:2*(i / 2 - 1)+2=i:=by omega
    simpa only[e] using this
theorem e0{p:Func×Code->Prop}:∀ a,(none:Option (Func×Code))=some a->p a:=fun _ h=>by cases h
theorem e1{i:Nat}{fn:Func}{c:Code}(h:pO prog i fn c):∀ a,some (fn,c)=some a->pO prog i a.1 a.2:=fun _ e=>by cases e;exact h
theorem abJ:FH (fun i a=>pO prog i a.1 a.2) (fun i=>i) BZ:=
 ⟨e0,⟨e0,⟨e1 ok3,⟨e1 ok7,⟨e1 UR,⟨e1 amX,⟨e1 Vy,⟨e1 TL,⟨e1 Tc,trivial,trivial⟩,trivial⟩,⟨e1 SU,trivial,trivial⟩⟩,⟨e1 UH,⟨e1 ai9,trivial,trivial⟩,⟨e1 ajA,trivial,trivial⟩⟩⟩,⟨e1 am9,⟨e1 anv,⟨e1 ai1,trivial,trivial⟩,⟨e1 ajv,trivial,trivial⟩⟩,⟨e1 aiL,⟨e1 TQ,trivial,trivial⟩,⟨e1 I4,trivial,trivial⟩⟩⟩⟩,⟨e1 amP,⟨e1 UZ,⟨e1 anp,⟨e1 aiW,trivial,trivial⟩,⟨e1 SI,trivial,trivial⟩⟩,⟨e1 aiE,⟨e1 ajf,trivial,trivial⟩,⟨e1 IT,trivial,trivial⟩⟩⟩,⟨e1 Vn,⟨e1 U6,⟨e1 SF,trivial,trivial⟩,⟨e1 Tj,trivial,trivial⟩⟩,⟨e1 Sp,⟨e1 ajm,trivial,trivial⟩,⟨e1 SB,trivial,trivial⟩⟩⟩⟩⟩,⟨e1 amG,⟨e1 amN,⟨e1 am1,⟨e1 anm,⟨e1 aiS,⟨e1 ajJ,trivial,trivial⟩,trivial⟩,⟨e1 TJ,trivial,trivial⟩⟩,⟨e1 anE,⟨e1 ajc,trivial,trivial⟩,⟨e1 SC,trivial,trivial⟩⟩⟩,⟨e1 Ka,⟨e1 anA,⟨e1 ai3,trivial,trivial⟩,⟨e1 Tg,trivial,trivial⟩⟩,⟨e1 SY,⟨e1 aji,trivial,trivial⟩,⟨e1 Sv,trivial,trivial⟩⟩⟩⟩,⟨e1 amT,⟨e1 am5,⟨e1 Vq,⟨e1 TP,trivial,trivial⟩,⟨e1 ajr,trivial,trivial⟩⟩,⟨e1 aiH,⟨e1 Jb,trivial,trivial⟩,⟨e1 S6,trivial,trivial⟩⟩⟩,⟨e1 ani,⟨e1 Vx,⟨e1 SH,trivial,trivial⟩,⟨e1 Ts,trivial,trivial⟩⟩,⟨e1 Tx,⟨e1 ajp,trivial,trivial⟩,⟨e1 ajI,trivial,trivial⟩⟩⟩⟩⟩⟩,⟨e1 ok5,⟨e1 WX,⟨e1 amL,⟨e1 amZ,⟨e1 ank,⟨e1 aiR,⟨e1 Ta,trivial,trivial⟩,trivial⟩,⟨e1 SR,trivial,trivial⟩⟩,⟨e1 UA,⟨e1 aja,trivial,trivial⟩,⟨e1 ajC,trivial,trivial⟩⟩⟩,⟨e1 ana,⟨e1 anx,⟨e1 Tt,trivial,trivial⟩,⟨e1 ajx,trivial,trivial⟩⟩,⟨e1 aiN,⟨e1 ajh,trivial,trivial⟩,⟨e1 ajE,trivial,trivial⟩⟩⟩⟩,⟨e1 amR,⟨e1 am3,⟨e1 anr,⟨e1 TT,trivial,trivial⟩,⟨e1 SG,trivial,trivial⟩⟩,⟨e1 TR,⟨e1 Tz,trivial,trivial⟩,⟨e1 I2,trivial,trivial⟩⟩⟩,⟨e1 ang,⟨e1 Uv,⟨e1 SW,trivial,trivial⟩,⟨e1 I6,trivial,trivial⟩⟩,⟨e1 TN,⟨e1 ajn,trivial,trivial⟩,⟨e1 ajG,trivial,trivial⟩⟩⟩⟩⟩,⟨e1 amI,⟨e1 Vz,⟨e1 Kk,⟨e1 UK,⟨e1 aiU,trivial,trivial⟩,⟨e1 SL,trivial,trivial⟩⟩,⟨e1 aiC,⟨e1 aje,trivial,trivial⟩,⟨e1 SM,trivial,trivial⟩⟩⟩,⟨e1 ane,⟨e1 UN,⟨e1 S4,trivial,trivial⟩,⟨e1 Th,trivial,trivial⟩⟩,⟨e1 aiP,⟨e1 ajk,trivial,trivial⟩,⟨e1 Sw,trivial,trivial⟩⟩⟩⟩,⟨e1 amV,⟨e1 am7,⟨e1 ant,⟨e1 aiZ,trivial,trivial⟩,⟨e1 ajt,trivial,trivial⟩⟩,⟨e1 aiJ,⟨e1 TK,trivial,trivial⟩,⟨e1 S2,trivial,trivial⟩⟩⟩,⟨e1 UT,⟨e1 anC,⟨e1 ai7,trivial,trivial⟩,⟨e1 TD,trivial,trivial⟩⟩,⟨e1 Tv,⟨e1 Te,trivial,trivial⟩,⟨e1 S5,trivial,trivial⟩⟩⟩⟩⟩⟩⟩,⟨e0,⟨e1 ok4,⟨e1 ok8,⟨e1 amK,⟨e1 amY,⟨e1 Kv,⟨e1 Ty,⟨e1 S1,trivial,trivial⟩,trivial⟩,⟨e1 Sm,trivial,trivial⟩⟩,⟨e1 UB,⟨e1 ai',trivial,trivial⟩,⟨e1 ajB,trivial,trivial⟩⟩⟩,⟨e1 am',⟨e1 anw,⟨e1 ai2,trivial,trivial⟩,⟨e1 ajw,trivial,trivial⟩⟩,⟨e1 aiM,⟨e1 SZ,trivial,trivial⟩,⟨e1 Tm,trivial,trivial⟩⟩⟩⟩,⟨e1 amQ,⟨e1 am2,⟨e1 anq,⟨e1 aiX,trivial,trivial⟩,⟨e1 Ss,trivial,trivial⟩⟩,⟨e1 aiF,⟨e1 S0,trivial,trivial⟩,⟨e1 SN,trivial,trivial⟩⟩⟩,⟨e1 Vh,⟨e1 Vt,⟨e1 ai6,trivial,trivial⟩,⟨e1 Tk,trivial,trivial⟩⟩,⟨e1 TG,⟨e1 SD,trivial,trivial⟩,⟨e1 ajF,trivial,trivial⟩⟩⟩⟩⟩,⟨e1 amH,⟨e1 amO,⟨e1 VA,⟨e1 ann,⟨e1 aiT,⟨e1 IU,trivial,trivial⟩,trivial⟩,⟨e1 Tn,trivial,trivial⟩⟩,⟨e1 aiB,⟨e1 ajd,trivial,trivial⟩,⟨e1 Sl,trivial,trivial⟩⟩⟩,⟨e1 anc,⟨e1 UL,⟨e1 ai4,trivial,trivial⟩,⟨e1 Tf,trivial,trivial⟩⟩,⟨e1 S3,⟨e1 ajj,trivial,trivial⟩,⟨e1 TO,trivial,trivial⟩⟩⟩⟩,⟨e1 amU,⟨e1 am6,⟨e1 Vg,⟨e1 TS,trivial,trivial⟩,⟨e1 ajs,trivial,trivial⟩⟩,⟨e1 aiI,⟨e1 TF,trivial,trivial⟩,⟨e1 I5,trivial,trivial⟩⟩⟩,⟨e1 U1,⟨e1 Vf,⟨e1 Sx,trivial,trivial⟩,⟨e1 TC,trivial,trivial⟩⟩,⟨e1 Tu,⟨e1 ajq,trivial,trivial⟩,⟨e1 IS,trivial,trivial⟩⟩⟩⟩⟩⟩,⟨e1 ok6,⟨e1 amF,⟨e1 amM,⟨e1 am0,⟨e1 anl,⟨e1 IV,⟨e1 SA,trivial,trivial⟩,trivial⟩,⟨e1 SQ,trivial,trivial⟩⟩,⟨e1 anD,⟨e1 ajb,trivial,trivial⟩,⟨e1 ajD,trivial,trivial⟩⟩⟩,⟨e1 anb,⟨e1 anz,⟨e1 Tw,trivial,trivial⟩,⟨e1 ajy,trivial,trivial⟩⟩,⟨e1 aiO,⟨e1 SE,trivial,trivial⟩,⟨e1 Su,trivial,trivial⟩⟩⟩⟩,⟨e1 amS,⟨e1 am4,⟨e1 ans,⟨e1 aiY,trivial,trivial⟩,⟨e1 Sy,trivial,trivial⟩⟩,⟨e1 aiG,⟨e1 Ti,trivial,trivial⟩,⟨e1 I3,trivial,trivial⟩⟩⟩,⟨e1 anh,⟨e1 zA,⟨e1 SV,trivial,trivial⟩,⟨e1 Tl,trivial,trivial⟩⟩,⟨e1 Ja,⟨e1 ajo,trivial,trivial⟩,⟨e1 ajH,trivial,trivial⟩⟩⟩⟩⟩,⟨e1 amJ,⟨e1 Vs,⟨e1 Vu,⟨e1 ano,⟨e1 aiV,trivial,trivial⟩,⟨e1 SJ,trivial,trivial⟩⟩,⟨e1 aiD,⟨e1 Td,trivial,trivial⟩,⟨e1 SS,trivial,trivial⟩⟩⟩,⟨e1 anf,⟨e1 anB,⟨e1 ai5,trivial,trivial⟩,⟨e1 Tp,trivial,trivial⟩⟩,⟨e1 aiQ,⟨e1 ajl,trivial,trivial⟩,⟨e1 Sz,trivial,trivial⟩⟩⟩⟩,⟨e1 amW,⟨e1 am8,⟨e1 anu,⟨e1 ai0,trivial,trivial⟩,⟨e1 aju,trivial,trivial⟩⟩,⟨e1 aiK,⟨e1 ajg,trivial,trivial⟩,⟨e1 Tb,trivial,trivial⟩⟩⟩,⟨e1 anj,⟨e1 U0,⟨e1 ai8,trivial,trivial⟩,⟨e1 ajz,trivial,trivial⟩⟩,⟨e1 TM,⟨e1 SP,trivial,trivial⟩,⟨e1 So,trivial,trivial⟩⟩⟩⟩⟩⟩⟩⟩
theorem Ie(f:FuncId)(fn:Func)(c:Code)(h:BZ.get f=some (fn,c)):pO prog f fn c:=HH abJ f (fn,c) h
end Go.Proofs.Tryz.K
namespace Go.Abs
open Go.ChangeShapes Go.WideShapes
inductive Sh
 |int (k:IntKind)
 |bool
 |str
 |sl (s:Sh)
 |unit
 |pair (a b:Sh)
def Sh.val:Sh->Type
 | .int _=>Int
 | .bool=>Bool
 | .str=>ByteArray
 | .sl s=>List s.val
 | .unit=>Unit
 | .pair a b=>a.val×b.val
def Sh.size:Sh->Nat
 | .unit=>0
 | .pair a b=>a.size+b.size
 |_=>1
def Sh.enc:(s:Sh)->s.val->List D
 | .int k,n=>[.s (.int k n)]
 | .bool,b=>[.s (.bool b)]
 | .str,b=>[.s (.string b)]
 | .sl s,l=>[.sl (List.flatMap s.enc l) (List.length l)]
 | .unit,_=>[]
 | .pair a b,x=>a.enc x.1++b.enc x.2
def Sh.arg:(s:Sh)->s.val->D
 | .int k,n=>.s (.int k n)
 | .bool,b=>.s (.bool b)
 | .str,b=>.s (.string b)
 | .sl s,l=>.sl (List.flatMap s.enc l) (List.length l)
 | .unit,_=>.agg []
 | .pair a b,x=>.agg (a.enc x.1++b.enc x.2)
def Sh.ok:(s:Sh)->s.val->Prop
 | .int k,n=>(Lit.int k n).wf=true
 | .bool,_=>True
 | .str,b=>ByteArray.size b<=maxLen
 | .sl s,l=>∀ x:s.val,List.Mem x l->s.ok x
 | .unit,_=>True
 | .pair a b,x=>a.ok x.1/\b.ok x.2
theorem Sh.enc_length:∀ (s:Sh) (x:s.val),(s.enc x).length=s.size
 | .int _,_ | .bool,_ | .str,_ | .sl _,_ | .unit,_=>rfl
 | .pair a b,x=>by simp[Sh.enc,Sh.size,Sh.enc_length a,Sh.enc_length b]
section
variable(P:Program)
def shFs(sh:TypeId->Option Sh):Nat->List Field->Option Sh
 |_,[]=>some .unit
 |off,f::fs=>if f.offset=off then match sh f.type,shFs sh (off+P.cellsOf f.type) fs with
  |some a,some b=>some (.pair a b)
  |_,_=>none
  else none
def shT:Nat->TypeId->Option Sh
 |0,_=>none
 |n+1,t=>match P.underlying t with
  |some .bool=>if P.cellsOf t=1 then some .bool else none
  |some (.int k)=>if P.cellsOf t=1 then some (.int k) else none
  |some .string=>if P.cellsOf t=1 then some .str else none
  |some (.slice e)=>if P.cellsOf t=1/\0<P.cellsOf e then(shT n e).map .sl else none
  |some (.struct fs)=>match shFs P (shT n) 0 fs.toList with
   |some s=>if s.size=P.cellsOf t then some s else none
   |none=>none
  |_=>none
end
section
variable{P:Program}{H:Type}{ec:TypeId×Value->H}{w:World}{base:Nat}{spare:Nat->Bool}{held:Bool}
def Holds(w:World)(ds:List D)(cs:List Value):Prop:=ds.length=cs.length/\∀ (k:Nat) (d:D) (u:Value),ds[k]? =some d->cs[k]? =some u->R (fun _=>False) noRows w d u/\u.oneCell'=true
theorem Holds.app{ds v8:List D}{cs cs':List Value}(h:Holds w ds cs)(h':Holds w v8 cs'):Holds w (ds++v8) (cs++cs'):=by
 refine⟨by simp[h.1,h'.1],fun k d u hd hu=>?_⟩
 by_cases hk:k<ds.length
 .rw[List.getElem?_append_left hk] at hd
  rw[List.getElem?_append_left (by have:=h.1;omega)] at hu
  exact h.2 k d u hd hu
 .rw[List.getElem?_append_right oG] at hd
  rw[List.getElem?_append_right (by have:=h.1;omega), <- h.1] at hu
  exact h'.2 (k - ds.length) d u hd hu
theorem Holds.one{d:D}{u:Value}(h:R (fun _=>False) noRows w d u)(h':u.oneCell'=true):Holds w [d] [u]:=⟨rfl,fun k d' u' hd hu=>by
 cases k with
 |zero=>simp at hd hu;subst hd hu;exact⟨h,h'⟩
 |succ k=>simp at hd⟩
theorem Holds.nil:Holds w [] []:=⟨rfl,by simp⟩
theorem shFs_nil{sh:TypeId->Option Sh}{off:Nat}{s:Sh}(h:shFs P sh off []=some s):s=.unit:=by
 simp only[shFs,Option.some.injEq] at h
 exact h.symm
theorem shFs_cons{sh:TypeId->Option Sh}{off:Nat}{f:Field}{fs:List Field}{s:Sh}(h:shFs P sh off (f::fs)=some s):
 f.offset=off/\∃ a b,sh f.type=some a/\shFs P sh (off+P.cellsOf f.type) fs=some b/\s=.pair a b:=by
 simp only[shFs] at h
 split at h
 .rename_i mJ
  split at h
  .rename_i a b ha hb
   simp only[Option.some.injEq] at h
   exact⟨mJ,a,b,ha,hb,h.symm⟩
  .cases h
 .cases h
theorem shT_size:∀ (n:Nat) (t:TypeId) (s:Sh),shT P n t=some s->s.size=P.cellsOf t
 |0,_,_,h=>by cases h
 |n+1,t,s,h=>by
  unfold shT at h
  split at h
  .split at h
   .rename_i h1;simp only[Option.some.injEq] at h;subst h;exact h1.symm
   .cases h
  .split at h
   .rename_i h1;simp only[Option.some.injEq] at h;subst h;exact h1.symm
   .cases h
  .split at h
   .rename_i h1;simp only[Option.some.injEq] at h;subst h;exact h1.symm
   .cases h
  .split at h
   .rename_i h1
    simp only[Option.map_eq_some_iff] at h
    obtain⟨a,_,rfl⟩:=h
    exact h1.1.symm
   .cases h
  .split at h
   .split at h
    .rename_i h1;simp only[Option.some.injEq] at h;subst h;exact h1
    .cases h
   .cases h
  .cases h
def Reads(P:Program)(w:World)(sh:TypeId->Option Sh)(rd:TypeId->List Value->Option (DataW H×List MemPlace)):Prop:=
 ∀ t s cs x,sh t=some s->cs.length=P.cellsOf t->rd t cs=some x->∃ v:s.val,s.ok v/\Holds w (s.enc v) cs
theorem reads_fs{sh:TypeId->Option Sh}{rd:TypeId->List Value->Option (DataW H×List MemPlace)}(hz:∀ t s,sh t=some s->s.size=P.cellsOf t)(h:Reads P w sh rd){cs:List Value}:∀ (fs:List Field) (off:Nat) (s:Sh),shFs P sh off fs=some s->off+s.size<=cs.length->
 (∀ f∈fs,∃ x,rd f.type ((cs.drop f.offset).take (P.cellsOf f.type))=some x)->∃ v:s.val,s.ok v/\Holds w (s.enc v) ((cs.drop off).take s.size)
 |[],off,s,hs,_,_=>by
  obtain rfl:=shFs_nil hs
  exact⟨(),trivial,by simp[Sh.enc,Sh.size,Holds]⟩
 |f::fs,off,s,hs,hl,hr=>by
  obtain⟨mJ,a,b,ha,hb,rfl⟩:=shFs_cons hs
  obtain⟨x,hx⟩:=hr f (by simp)
  have iJ:off+(a.size+b.size)<=cs.length:=hl
  have bL:=hz _ _ ha
  rw[mJ] at hx
  obtain⟨v,Dt,hv⟩:=h f.type a _ x ha (by simp only[List.length_take,List.length_drop];omega) hx
  rw[<- bL] at hb hv
  obtain⟨v',anI,KF⟩:=reads_fs hz h fs (off+a.size) b hb oG fun g hg=>hr g (by simp[hg])
  refine⟨(v,v'),⟨Dt,anI⟩,?_⟩
  have:=hv.app KF
  show Holds w (a.enc v++b.enc v') ((cs.drop off).take (a.size+b.size))
  rw[List.take_add,List.drop_drop]
  exact this
theorem cells_get{a:Addr}{n:Nat}{cs:List Value}(h:w.cells? base a n=some cs):cs.length=n/\∀ k,k<n->w.cell? (a.add k)=cs[k]? /\k<cs.length:=by
 unfold World.cells? at h
 split at h
 .have hl:cs.length=n:=by simpa using mapM_some_length h
  exact⟨hl,fun k hk=>⟨mapM_some_get h k k (by simp[hk]),by omega⟩⟩
 .cases h
theorem choose_list{α β:Type}{p:Nat->α->β->Prop}:∀ (n:Nat) (l:Nat->α),(∀ i,i<n->∃ y,p i (l i) y)->∃ ys:List β,ys.length=n/\∀ i (h:i<n) y,ys[i]? =some y->p i (l i) y
 |0,_,_=>⟨[],rfl,fun i h=>by omega⟩
 |n+1,l,h=>by
  obtain⟨ys,h1,h2⟩:=choose_list n l fun i hi=>h i oG
  obtain⟨y,hy⟩:=h n oG
  refine⟨ys++[y],by simp[h1],fun i hi z hz=>?_⟩
  by_cases bk:i<n
  .rw[List.getElem?_append_left oG] at hz
   exact h2 i bk z hz
  .have:i=n:=by omega
   subst this
   rw[List.getElem?_append_right oG] at hz
   simp[h1] at hz
   subst hz
   exact hy
theorem flat_get{α:Type}{f:α->List D}{sz:Nat}(hs:∀ x,(f x).length=sz):∀ (l:List α) (i j:Nat),j<sz->(l.flatMap f)[i*sz+j]? =(l[i]?).bind fun x=>(f x)[j]?
 |[],i,j,_=>by simp
 |x::l,0,j,h=>by simp[List.getElem?_append_left (show j<(f x).length by rw[hs];exact h)]
 |x::l,i+1,j,h=>by
  rw[List.flatMap_cons,List.getElem?_append_right (by rw[hs,Nat.add_mul];omega)]
  have:(i+1)*sz+j - (f x).length=i*sz+j:=by rw[hs,Nat.add_mul];omega
  rw[this,flat_get hs l i j h]
  simp
theorem reads_T:∀ (iu n:Nat),Reads P w (shT P n) (DataW.trod ec P w base spare held iu)
 |iu,0,t,s,cs,x,h,_,_=>by cases h
 |iu,n+1,t,s,cs,x,h,hl,hr=>by
  have bL:=shT_size _ _ _ h
  unfold shT at h
  split at h
  .rename_i ht
   split at h
   .simp only[Option.some.injEq] at h;subst h
    obtain⟨b,rfl,_⟩:=DataW.trod_bool ht hr
    exact⟨b,trivial,.one (.s _ rfl) rfl⟩
   .cases h
  .rename_i k ht
   split at h
   .simp only[Option.some.injEq] at h;subst h
    obtain⟨b,rfl,_,hw⟩:=DataW.trod_int ht hr
    exact⟨b,hw,.one (.s _ rfl) rfl⟩
   .cases h
  .rename_i ht
   split at h
   .simp only[Option.some.injEq] at h;subst h
    obtain⟨b,rfl,_,hw⟩:=DataW.trod_string ht hr
    exact⟨b,hw,.one (.s _ rfl) rfl⟩
   .cases h
  .rename_i e ht
   split at h
   .rename_i hc
    simp only[Option.map_eq_some_iff] at h
    obtain⟨a,ha,rfl⟩:=h
    have haz:=shT_size _ _ _ ha
    rcases DataW.trod_slice ht hr with⟨rfl,_⟩|⟨ad,len,cap,T4,rest,fl,rfl,rfl,_,hb,hlc,hm,hlen,CQ,_,_⟩
    .exact⟨([]:List a.val),(fun x h=>nomatch h),.one (by exact .sln none 0) rfl⟩
    .have VF:∀ i,i<len->∃ lu:List Value,w.cells? base (ad.add (i*P.cellsOf e)) (P.cellsOf e)=some lu/\∃ y,DataW.trod ec P w base spare held fl e lu=some y:=fun i hi=>by
      have:=CQ i hi
      have hg:T4[i]? =some T4[i]:=by simp[hlen,hi]
      rw[hg,Option.bind_eq_some_iff] at this
      obtain⟨lu,h1,h2⟩:=this
      exact⟨lu,h1,_,h2⟩
     have Cs:∀ i,i<len->∃ v:a.val,a.ok v/\∃ lu,w.cells? base (ad.add (i*P.cellsOf e)) (P.cellsOf e)=some lu/\Holds w (a.enc v) lu:=fun i hi=>by
      obtain⟨lu,h1,y,h2⟩:=VF i hi
      obtain⟨v,Dt,hv⟩:=reads_T fl n e a lu y ha (cells_get h1).1 h2
      exact⟨v,Dt,lu,h1,hv⟩
     obtain⟨vs,sN,Xc⟩:=choose_list (p:=fun(i:Nat) (_:Nat) (v:a.val)=>a.ok v/\∃ lu,w.cells? base (ad.add (i*P.cellsOf e)) (P.cellsOf e)=some lu/\Holds w (a.enc v) lu) len (fun i=>i) Cs
     have anJ:∀ x:a.val,x∈vs->a.ok x:=fun x hm=>by
      obtain⟨i,hx⟩:=List.getElem?_of_mem hm
      exact(Xc i (by have:=(List.getElem?_eq_some_iff.1 hx).1;omega) x hx).1
     cases len with
     |zero=>
      have:vs=[]:=List.length_eq_zero_iff.1 sN
      subst this
      exact⟨([]:List a.val),(fun x h=>nomatch h),.one (by exact .sln _ cap) rfl⟩
     |succ l=>
      obtain⟨lu,h0,_⟩:=VF 0 oG
      have AD:=(cells_get h0).2 0 hc.2
      simp only[Nat.zero_mul,Addr.add,if_true] at AD
      obtain⟨b,o,sp⟩:=ad
      have EG:∃ u,w.cell? ⟨b,o,sp⟩=some u:=⟨lu[0],by rw[AD.1];simp[AD.2]⟩
      obtain⟨u0,yF⟩:=EG
      unfold World.cell? at yF
      have lX:b<w.heap.size:=by
       cases hh:w.heap[b]? with
       |none=>rw[hh] at yF;cases yF
       |some x=>exact(Array.getElem?_eq_some_iff.1 hh).1
      have pu:sp=none:=by
       cases sp with
       |none=>rfl
       |some q=>
        simp only at yF
        split at yF
        .simp at yF
        .cases yF
      subst pu
      have anK:∀ i j,((⟨b,o,none⟩:Addr).add i).add j=⟨b,o+(i+j),none⟩:=fun i j=>by
       unfold Addr.add
       split<;>split<;>simp_all
       omega
      have hk:∀ k d,(vs.flatMap a.enc)[k]? =some d->∃ u,w.cell? ⟨b,o+k,none⟩=some u/\R (fun _=>False) noRows w d u/\u.oneCell'=true:=fun k d hd=>by
       have kY:0<a.size:=by omega
       have CB:k / a.size*a.size+k % a.size=k:=by rw[Nat.mul_comm];exact Nat.div_add_mod k a.size
       have LL:=Nat.mod_lt k kY
       rw[<- CB,flat_get a.enc_length _ _ _ LL,Option.bind_eq_some_iff] at hd
       obtain⟨x,hx,hd⟩:=hd
       have hi:k / a.size<l+1:=by
        have:=(List.getElem?_eq_some_iff.1 hx).1
        omega
       obtain⟨_,lu,hci,hho⟩:=Xc _ hi x hx
       obtain⟨h1,h2⟩:=(cells_get hci).2 (k % a.size) oG
       rw[anK, <- haz,CB] at h1
       refine⟨lu[k % a.size],by rw[h1];simp[h2],hho.2 _ d _ hd (by simp[h2])⟩
      refine⟨vs,fun x h=>anJ x h,.one (by
       have Ly:(List.length vs)=l+1:=sN
       show R _ _ _ (.sl (List.flatMap a.enc vs) (List.length vs)) _
       rw[Ly]
       refine .sl _ _ b o cap (fun k=>(w.cell? ⟨b,o+k,none⟩).getD undef) (by simp) (fun _ _ h=>by cases h) lX hlc hm (fun k ye=>?_) fun k d hd=>?_
       .obtain⟨u,h1,_,h3⟩:=hk k _ (List.getElem?_eq_getElem ye)
        simp[h1,h3]
       .obtain⟨u,h1,h2,_⟩:=hk k d hd
        simpa[h1] using h2) rfl⟩
   .cases h
  .rename_i fs ht
   obtain⟨xs,fl,rfl,_,_,WG,sP⟩:=DataW.trod_struct ht hr
   split at h
   .rename_i s' dZ
    split at h
    .rename_i hs
     simp only[Option.some.injEq] at h;subst h
     obtain⟨v,Dt,hv⟩:=reads_fs (P:=P) (w:=w) (fun t s=>shT_size n t s) (reads_T fl n) (cs:=cs) fs.toList 0 s' dZ oG fun f hf=>by
      obtain⟨i,hi,rfl⟩:=Array.getElem_of_mem (Array.mem_toList_iff.1 hf)
      have:=sP i fs[i] (by simp[hi])
      exact⟨xs[i],by rw[this];simp[WG,hi]⟩
     refine⟨v,Dt,?_⟩
     rw[List.drop_zero,List.take_of_length_le oG] at hv
     exact hv
    .cases h
   .cases h
  .cases h
theorem arg_R{r:Reach}{b0:Nat}{t:TypeId}{v:Value}{d:DataW H}{ps:List MemPlace}{n:Nat}{s:Sh}(hs:shT P n t=some s)(hv:Value.okWide P w r b0 t v)(hd:DataW.Trod ec P w base spare held t v d ps):
 ∃ x:s.val,s.ok x/\R (fun _=>False) noRows w (s.arg x) v:=by
 cases n with
 |zero=>cases hs
 |succ n=>
  obtain⟨iu,hf⟩:=hd
  have hz:=shT_size _ _ _ hs
  have key:v.cells.toList.length=P.cellsOf t->∃ x:s.val,s.ok x/\Holds w (s.enc x) v.cells.toList:=fun hl=>reads_T iu (n+1) t s _ _ hs hl hf
  unfold shT at hs
  split at hs
  .rename_i ht
   obtain⟨b,rfl⟩:=okWide_bool ht hv
   split at hs
   .simp only[Option.some.injEq] at hs;subst hs
    exact⟨b,trivial,.s _ rfl⟩
   .cases hs
  .rename_i k ht
   obtain⟨b,rfl⟩:=okWide_int ht hv
   split at hs
   .simp only[Option.some.injEq] at hs;subst hs
    obtain⟨c,hc,_,hw⟩:=DataW.trod_int ht hf
    simp[Value.cells] at hc
    subst hc
    exact⟨b,hw,.s _ rfl⟩
   .cases hs
  .rename_i ht
   obtain⟨b,rfl⟩:=okWide_string ht hv
   split at hs
   .simp only[Option.some.injEq] at hs;subst hs
    obtain⟨c,hc,_,hw⟩:=DataW.trod_string ht hf
    simp[Value.cells] at hc
    subst hc
    exact⟨b,hw,.s _ rfl⟩
   .cases hs
  .rename_i e ht
   obtain⟨a,len,cap,rfl⟩:=okWide_slice ht hv
   split at hs
   .rename_i h1
    simp only[Option.map_eq_some_iff] at hs
    obtain⟨q,_,rfl⟩:=hs
    obtain⟨x,iy,hx⟩:=key h1.1.symm
    exact⟨x,iy,(hx.2 0 _ _ rfl rfl).1⟩
   .cases hs
  .rename_i fs ht
   obtain⟨cs,rfl,bL⟩:=okWide_struct ht hv
   obtain⟨x,iy,hx⟩:=key (by simpa[Value.cells] using bL)
   refine⟨x,iy,?_⟩
   have ha:s.arg x=.agg (s.enc x):=by
    split at hs
    .rename_i s' dZ
     split at hs
     .simp only[Option.some.injEq] at hs;subst hs
      cases FY:fs.toList with
      |nil=>
       rw[FY] at dZ
       obtain rfl:=shFs_nil dZ
       rfl
      |cons f Gf=>
       rw[FY] at dZ
       obtain⟨_,a,b,_,_,rfl⟩:=shFs_cons dZ
       rfl
     .cases hs
    .cases hs
   rw[ha]
   have:=hx.1
   simp only[Value.cells] at this hx
   have e:cs=cs.toList.toArray:=by simp
   rw[e]
   exact .agg _ cs.toList this.symm fun k d v h1 h2=>(hx.2 k d v h1 h2).1
  .cases hs
theorem flat_one{α β:Type}(f:α->β):∀ l:List α,(l.flatMap fun x=>[f x])=l.map f
 |[]=>rfl
 |x::l=>by rw[List.flatMap_cons,flat_one f l];rfl
theorem flat_congr{α β γ:Type}{f:α->List γ}{g:β->List γ}{h:α->β}(he:∀ x,f x=g (h x)):∀ l:List α,l.flatMap f=(l.map h).flatMap g
 |[]=>rfl
 |x::l=>by rw[List.flatMap_cons,List.map_cons,List.flatMap_cons,he,flat_congr he l]
end
end Go.Abs
namespace Go.Argus
open Go.Abs
abbrev kV:Sh:=.int .i64
abbrev Cu:Sh:=.int .u8
abbrev BU:Sh:=.pair Cu (.pair kV (.pair kV (.pair kV (.pair kV (.pair (.sl kV) .unit)))))
abbrev Ew:Sh:=.pair .str (.pair kV .unit)
abbrev EV:Sh:=.pair Cu (.pair kV (.pair kV (.pair kV (.pair kV (.pair .str (.pair BU (.pair (.sl kV) (.pair (.sl Ew) (.pair kV .unit)))))))))
abbrev Em:Sh:=.pair (.sl BU) (.pair EV .unit)
abbrev xA:Sh:=.pair .str (.pair .bool (.pair kV (.pair Cu (.pair (.sl Cu) (.pair (.sl Cu) (.pair (.sl .str) (.pair (.sl Em) .unit)))))))
def Jg(x:BU.val):a8:=⟨x.1,x.2.1,x.2.2.1,x.2.2.2.1,x.2.2.2.2.1,x.2.2.2.2.2.1⟩
def R3(x:Ew.val):jv:=⟨x.1,x.2.1⟩
def T5(x:EV.val):End:=⟨x.1,x.2.1,x.2.2.1,x.2.2.2.1,x.2.2.2.2.1,x.2.2.2.2.2.1,Jg x.2.2.2.2.2.2.1,x.2.2.2.2.2.2.2.1,List.map R3 x.2.2.2.2.2.2.2.2.1,x.2.2.2.2.2.2.2.2.2.1⟩
def P'(x:Em.val):bw:=⟨List.map Jg x.1,T5 x.2.1⟩
def R4(x:xA.val):az:=⟨x.1,x.2.1,x.2.2.1,x.2.2.2.1,x.2.2.2.2.1,x.2.2.2.2.2.1,x.2.2.2.2.2.2.1,List.map P' x.2.2.2.2.2.2.2.1⟩
theorem Ex{k:IntKind}(l:List Int):D.sl (List.flatMap (Sh.enc (.int k)) l) l.length=.sl (l.map fun n=>.s (.int k n)) l.length:=congrArg (D.sl · l.length) (flat_one (fun n=>D.s (.int k n)) l)
theorem acO(l:List ByteArray):D.sl (List.flatMap (Sh.enc .str) l) l.length=pD l:=congrArg (D.sl · l.length) (flat_one S l)
theorem Jh{s:Sh}{β:Type}{g:β->List D}{h:s.val->β}(he:∀ x,s.enc x=g (h x))(l:List s.val):D.sl (List.flatMap s.enc l) l.length=.sl ((l.map h).flatMap g) (l.map h).length:=by
 rw[flat_congr he l,List.length_map]
theorem c1'{α β:Type}(f:α->β){a a':α}(h:a=a'):f a=f a':=by rw[h]
theorem c2'{α β γ:Type}(f:α->β->γ){a a':α}{b b':β}(h:a=a')(h2:b=b'):f a b=f a' b':=by rw[h,h2]
theorem c3'{α β γ δ:Type}(f:α->β->γ->δ){a a':α}{b b':β}{c c':γ}(h:a=a')(h2:b=b')(h3:c=c'):f a b c=f a' b' c':=by rw[h,h2,h3]
theorem c4'{α β γ δ ε:Type}(f:α->β->γ->δ->ε){a a':α}{b b':β}{c c':γ}{d d':δ}(h:a=a')(h2:b=b')(h3:c=c')(h4:d=d'):f a b c d=f a' b' c' d':=by rw[h,h2,h3,h4]
theorem Qa(x:BU.val):BU.enc x=a7 (Jg x):=
 c1' (fun q=>[U8 x.1,I x.2.1,I x.2.2.1,I x.2.2.2.1,I x.2.2.2.2.1,q]) (Ex (k:=.i64) x.2.2.2.2.2.1)
theorem aaM(x:Ew.val):Ew.enc x=kJ (R3 x):=rfl
theorem abK(x:EV.val):EV.enc x=aT (T5 x):=
 c3' (fun a b c=>[U8 x.1,I x.2.1,I x.2.2.1,I x.2.2.2.1,I x.2.2.2.2.1,S x.2.2.2.2.2.1]++(a++[b,c,I x.2.2.2.2.2.2.2.2.2.1])) (Qa x.2.2.2.2.2.2.1) (Ex (k:=.i64) x.2.2.2.2.2.2.2.1) (Jh aaM x.2.2.2.2.2.2.2.2.1)
theorem Zw(x:Em.val):Em.enc x=eN (P' x):=by
 have:=c2' (fun a b=>a::(b++[])) (Jh Qa x.1) (abK x.2.1)
 refine Eq.trans this ?_
 rw[List.append_nil]
 rfl
theorem aaw(x:xA.val):xA.arg x=.agg (aB (R4 x)):=
 c4' (fun a b c d=>D.agg [S x.1,B x.2.1,I x.2.2.1,U8 x.2.2.2.1,a,b,c,d]) (Ex (k:=.u8) x.2.2.2.2.1) (Ex (k:=.u8) x.2.2.2.2.2.1) (acO x.2.2.2.2.2.2.1) (Jh Zw x.2.2.2.2.2.2.2.1)
end Go.Argus
namespace Go.Abs
open Go.Argus
class V{α:Type}(x:α)(y:outParam α):Prop where h:x=y
section
variable{P:Program}{Y:YSpec}{ops:Array Oper}{dr:Bool}{cf:List (Nat×Nat)}{Q:Exit->St->Prop}{r:List Oper}{v:Env}{m:Mem}{n:Nat}{q:Tra}{x:Oper}{s:St}{e:List Nat×List Nat}
variable{t:Option Nat}{u:Nat}{ty:TypeId}{pos:String}{after:Array Edge}{j:Nat}{b c:Bool}{op:Op}
def SO(P:Program)(Y:YSpec)(ops:Array Oper)(dr:Bool)(o:Oper)(v:Env)(m:Mem)(n:Nat)(s:St)(e:List Nat×List Nat):Prop:=
 ∀ cf Q r q,AOps P Y ops dr cf Q r s (q++[e])->AOps P Y ops dr cf Q (o::r) ⟨v,m,n⟩ q
theorem ak{l:List Operand}(h:gK v l:=by repeat' (first|exact trivial|exact hc|exact rfl|refine And.intro ?_ ?_)):gK v l:=h
theorem z(K:∀ (x:D) rd,AOps P Y ops dr cf Q r (St.put ⟨v,m,n⟩ t (.opt false x)) (q++[(rd,[])]))(hj:(ops[j]?).bind (·.dst)=some u:=by exact rfl)(hg:guardC (v u) b=some false:=by exact rfl):
 AOps P Y ops dr cf Q (⟨t,op,ty,pos,after,some (j,b)⟩::r) ⟨v,m,n⟩ q:=Sk hj hg K
theorem cl{f:FuncId}{gs:List D}{d:D}{t:Nat}(h:PCall P f gs d)(K:AOps P Y ops dr cf Q r ⟨up v t d,m,n⟩ (q++[([],[])]))(hc:callD (rho v op) op=some (f,gs):=by exact rfl)(ha:gK v op.operands.toList:=by exact ak):
 AOps P Y ops dr cf Q (⟨some t,op,ty,pos,after,none⟩::r) ⟨v,m,n⟩ q:=ade h hc ha K
theorem gc{f:FuncId}{gs:List D}{d:D}{t:Nat}(h:PCall P f gs d)(K:AOps P Y ops dr cf Q r ⟨up v t (.opt c d),m,n⟩ (q++[([],[])]))(hj:(ops[j]?).bind (·.dst)=some u:=by exact rfl)(hg:guardC (v u) b=some c:=by exact rfl)(hl:callD (rho v op) op=some (f,gs):=by exact rfl)(ha:c=true->gK v op.operands.toList:=by exact fun hc=>ak):
 AOps P Y ops dr cf Q (⟨some t,op,ty,pos,after,some (j,b)⟩::r) ⟨v,m,n⟩ q:=Er hj hg hl (fun hc=>⟨ha hc,h⟩) K
theorem J0(K:AOps P Y ops dr cf Q r s (q++[e]))(h:SO P Y ops dr x v m n s e:=by intro _ _ _ _ k;exact aF (iQ (v:=.s (.int _ _)) rfl) ak trivial k):AOps P Y ops dr cf Q (x::r) ⟨v,m,n⟩ q:=h _ _ _ _ K
theorem J1(K:AOps P Y ops dr cf Q r s (q++[e]))(h:SO P Y ops dr x v m n s e:=by intro _ _ _ _ k;exact aF (mi (v:=.s (.bool _)) rfl) ak trivial k):AOps P Y ops dr cf Q (x::r) ⟨v,m,n⟩ q:=h _ _ _ _ K
theorem J2(K:AOps P Y ops dr cf Q r s (q++[e]))(h:SO P Y ops dr x v m n s e:=by intro _ _ _ _ k;exact aF (iQ (v:=.s (.bool _)) rfl) ak trivial k):AOps P Y ops dr cf Q (x::r) ⟨v,m,n⟩ q:=h _ _ _ _ K
theorem J3(K:AOps P Y ops dr cf Q r s (q++[e]))(h:SO P Y ops dr x v m n s e:=by intro _ _ _ _ k;exact aF (mi (v:=.s (.int _ _)) rfl) ak trivial k):AOps P Y ops dr cf Q (x::r) ⟨v,m,n⟩ q:=h _ _ _ _ K
theorem J4(K:AOps P Y ops dr cf Q r s (q++[e]))(h:SO P Y ops dr x v m n s e:=by intro _ _ _ _ k;exact aF (Qg rfl V.h) ak (Qo V.h V.h) k):AOps P Y ops dr cf Q (x::r) ⟨v,m,n⟩ q:=h _ _ _ _ K
theorem J5(K:AOps P Y ops dr cf Q r s (q++[e]))(h:SO P Y ops dr x v m n s e:=by intro _ _ _ _ k;exact bl rfl rfl (Qg rfl V.h) (fun hc=>⟨ak,(Qo V.h V.h)⟩) k):AOps P Y ops dr cf Q (x::r) ⟨v,m,n⟩ q:=h _ _ _ _ K
theorem J6(K:AOps P Y ops dr cf Q r s (q++[e]))(h:SO P Y ops dr x v m n s e:=by intro _ _ _ _ k;exact aF (N5 rfl V.h) ak (sk V.h) k):AOps P Y ops dr cf Q (x::r) ⟨v,m,n⟩ q:=h _ _ _ _ K
theorem J7(K:AOps P Y ops dr cf Q r s (q++[e]))(h:SO P Y ops dr x v m n s e:=by intro _ _ _ _ k;exact bl rfl rfl (N5 rfl V.h) (fun hc=>⟨ak,(sk V.h)⟩) k):AOps P Y ops dr cf Q (x::r) ⟨v,m,n⟩ q:=h _ _ _ _ K
theorem J8(K:AOps P Y ops dr cf Q r s (q++[e]))(h:SO P Y ops dr x v m n s e:=by intro _ _ _ _ k;exact aF (ID rfl rfl) ak rfl k):AOps P Y ops dr cf Q (x::r) ⟨v,m,n⟩ q:=h _ _ _ _ K
theorem J9(K:AOps P Y ops dr cf Q r s (q++[e]))(h:SO P Y ops dr x v m n s e:=by intro _ _ _ _ k;exact aa2 rfl rfl rfl (fun h=>by first|exact trivial|exact rfl|exact h|(show Eq _ _;rw[h];rfl)|(show Eq _ _;simp[h];done)|(show Eq _ _;simp_all;done)) (fun h=>by first|exact trivial|exact rfl|exact h|(show Eq _ _;rw[h];rfl)|(show Eq _ _;simp[h];done)|(show Eq _ _;simp_all;done)) k):AOps P Y ops dr cf Q (x::r) ⟨v,m,n⟩ q:=h _ _ _ _ K
theorem br(K:AOps P Y ops dr cf Q r s (q++[e]))(h:SO P Y ops dr x v m n s e:=by intro _ _ _ _ k;exact bl rfl rfl (iQ (v:=.s (.int _ _)) rfl) (fun hc=>⟨ak,trivial⟩) k):AOps P Y ops dr cf Q (x::r) ⟨v,m,n⟩ q:=h _ _ _ _ K
theorem Ah(K:AOps P Y ops dr cf Q r s (q++[e]))(h:SO P Y ops dr x v m n s e:=by intro _ _ _ _ k;exact aF (R8 rfl rfl oG) ak rfl k):AOps P Y ops dr cf Q (x::r) ⟨v,m,n⟩ q:=h _ _ _ _ K
theorem j4(K:AOps P Y ops dr cf Q r s (q++[e]))(h:SO P Y ops dr x v m n s e:=by intro _ _ _ _ k;exact aF (iQ (v:=.sl _ _) rfl) ak trivial k):AOps P Y ops dr cf Q (x::r) ⟨v,m,n⟩ q:=h _ _ _ _ K
theorem iL(K:AOps P Y ops dr cf Q r s (q++[e]))(h:SO P Y ops dr x v m n s e:=by intro _ _ _ _ k;exact aF (Sa rfl) ak V.h k):AOps P Y ops dr cf Q (x::r) ⟨v,m,n⟩ q:=h _ _ _ _ K
theorem bT(K:AOps P Y ops dr cf Q r s (q++[e]))(h:SO P Y ops dr x v m n s e:=by intro _ _ _ _ k;exact aF (iQ (v:=.rs _ _ _) rfl) ak trivial k):AOps P Y ops dr cf Q (x::r) ⟨v,m,n⟩ q:=h _ _ _ _ K
theorem bB(K:AOps P Y ops dr cf Q r s (q++[e]))(h:SO P Y ops dr x v m n s e:=by intro _ _ _ _ k;exact aF (Iz rfl rfl) ak rfl k):AOps P Y ops dr cf Q (x::r) ⟨v,m,n⟩ q:=h _ _ _ _ K
theorem gl(K:AOps P Y ops dr cf Q r s (q++[e]))(h:SO P Y ops dr x v m n s e:=by intro _ _ _ _ k;exact ZP rfl rfl (by first|exact trivial|exact rfl) k):AOps P Y ops dr cf Q (x::r) ⟨v,m,n⟩ q:=h _ _ _ _ K
theorem dT(K:AOps P Y ops dr cf Q r s (q++[e]))(h:SO P Y ops dr x v m n s e:=by intro _ _ _ _ k;exact aF (uT rfl rfl V.h) ak (sk V.h) k):AOps P Y ops dr cf Q (x::r) ⟨v,m,n⟩ q:=h _ _ _ _ K
theorem cI(K:AOps P Y ops dr cf Q r s (q++[e]))(h:SO P Y ops dr x v m n s e:=by intro _ _ _ _ k;exact ZO rfl rfl (by first|exact trivial|exact rfl) k):AOps P Y ops dr cf Q (x::r) ⟨v,m,n⟩ q:=h _ _ _ _ K
theorem J19(K:AOps P Y ops dr cf Q r s (q++[e]))(h:SO P Y ops dr x v m n s e:=by intro _ _ _ _ k;exact aF (Qm rfl rfl V.h V.h (by assumption)) ak (Qn V.h (by assumption)) k):AOps P Y ops dr cf Q (x::r) ⟨v,m,n⟩ q:=h _ _ _ _ K
theorem dN(K:AOps P Y ops dr cf Q r s (q++[e]))(h:SO P Y ops dr x v m n s e:=by intro _ _ _ _ k;exact bl rfl rfl (ID rfl rfl) (fun hc=>⟨ak,rfl⟩) k):AOps P Y ops dr cf Q (x::r) ⟨v,m,n⟩ q:=h _ _ _ _ K
theorem bJ(K:AOps P Y ops dr cf Q r s (q++[e]))(h:SO P Y ops dr x v m n s e:=by intro _ _ _ _ k;exact aF (mi (v:=.rs _ _ _) rfl) ak trivial k):AOps P Y ops dr cf Q (x::r) ⟨v,m,n⟩ q:=h _ _ _ _ K
theorem c7(K:AOps P Y ops dr cf Q r s (q++[e]))(h:SO P Y ops dr x v m n s e:=by intro _ _ _ _ k;exact aF (mi (v:=.z) rfl) ak trivial k):AOps P Y ops dr cf Q (x::r) ⟨v,m,n⟩ q:=h _ _ _ _ K
theorem cE(K:AOps P Y ops dr cf Q r s (q++[e]))(h:SO P Y ops dr x v m n s e:=by intro _ _ _ _ k;exact gB (aaS V.h) ak V.h k):AOps P Y ops dr cf Q (x::r) ⟨v,m,n⟩ q:=h _ _ _ _ K
theorem dh(K:AOps P Y ops dr cf Q r s (q++[e]))(h:SO P Y ops dr x v m n s e:=by intro _ _ _ _ k;exact aF (lC (vs:=aB _) rfl V.h V.h rfl) ak (lD V.h V.h (by simp)) k):AOps P Y ops dr cf Q (x::r) ⟨v,m,n⟩ q:=h _ _ _ _ K
theorem uH(K:AOps P Y ops dr cf Q r s (q++[e]))(h:SO P Y ops dr x v m n s e:=by intro _ _ _ _ k;exact bl rfl rfl (lC (vs:=bA _ _) rfl V.h V.h rfl) (fun hc=>⟨ak,(lD V.h V.h (by simp))⟩) k):AOps P Y ops dr cf Q (x::r) ⟨v,m,n⟩ q:=h _ _ _ _ K
theorem J26(K:AOps P Y ops dr cf Q r s (q++[e]))(h:SO P Y ops dr x v m n s e:=by intro _ _ _ _ k;exact bl rfl rfl (Qm rfl rfl V.h V.h (by assumption)) (fun hc=>⟨ak,(Qn V.h (by assumption))⟩) k):AOps P Y ops dr cf Q (x::r) ⟨v,m,n⟩ q:=h _ _ _ _ K
theorem eV(K:AOps P Y ops dr cf Q r s (q++[e]))(h:SO P Y ops dr x v m n s e:=by intro _ _ _ _ k;exact aF (ic rfl rfl rfl V.h) ak (ie V.h V.h rfl) k):AOps P Y ops dr cf Q (x::r) ⟨v,m,n⟩ q:=h _ _ _ _ K
theorem dg(K:AOps P Y ops dr cf Q r s (q++[e]))(h:SO P Y ops dr x v m n s e:=by intro _ _ _ _ k;exact bl rfl rfl (iQ (v:=.s (.bool _)) rfl) (fun hc=>⟨ak,trivial⟩) k):AOps P Y ops dr cf Q (x::r) ⟨v,m,n⟩ q:=h _ _ _ _ K
theorem cS(K:AOps P Y ops dr cf Q r s (q++[e]))(h:SO P Y ops dr x v m n s e:=by intro _ _ _ _ k;exact aF (R9 rfl) ak trivial k):AOps P Y ops dr cf Q (x::r) ⟨v,m,n⟩ q:=h _ _ _ _ K
theorem j8(K:AOps P Y ops dr cf Q r s (q++[e]))(h:SO P Y ops dr x v m n s e:=by intro _ _ _ _ k;exact bl rfl rfl (Sa rfl) (fun hc=>⟨ak,V.h⟩) k):AOps P Y ops dr cf Q (x::r) ⟨v,m,n⟩ q:=h _ _ _ _ K
theorem ww(K:AOps P Y ops dr cf Q r s (q++[e]))(h:SO P Y ops dr x v m n s e:=by intro _ _ _ _ k;exact cK (iN (d:=.s (.int _ _)) (cs':=_) rfl rfl rfl rfl rfl) ak (dU V.h V.h (by first|(simp;done)|exact⟨rfl,Nat.le_of_ble_eq_true rfl⟩|(simp;omega)) rfl) k):AOps P Y ops dr cf Q (x::r) ⟨v,m,n⟩ q:=h _ _ _ _ K
theorem qd(K:AOps P Y ops dr cf Q r s (q++[e]))(h:SO P Y ops dr x v m n s e:=by intro _ _ _ _ k;exact bl rfl rfl (lC (vs:=aW _ _ _) rfl V.h V.h rfl) (fun hc=>⟨ak,(lD V.h V.h (by simp))⟩) k):AOps P Y ops dr cf Q (x::r) ⟨v,m,n⟩ q:=h _ _ _ _ K
theorem j6(K:AOps P Y ops dr cf Q r s (q++[e]))(h:SO P Y ops dr x v m n s e:=by intro _ _ _ _ k;exact aF (iQ (v:=_) rfl) ak trivial k):AOps P Y ops dr cf Q (x::r) ⟨v,m,n⟩ q:=h _ _ _ _ K
theorem ej(K:AOps P Y ops dr cf Q r s (q++[e]))(h:SO P Y ops dr x v m n s e:=by intro _ _ _ _ k;exact bl rfl rfl (R9 rfl) (fun hc=>⟨ak,trivial⟩) k):AOps P Y ops dr cf Q (x::r) ⟨v,m,n⟩ q:=h _ _ _ _ K
theorem s8(K:AOps P Y ops dr cf Q r s (q++[e]))(h:SO P Y ops dr x v m n s e:=by intro _ _ _ _ k;exact bl rfl rfl (iQ (v:=.sl _ _) rfl) (fun hc=>⟨ak,trivial⟩) k):AOps P Y ops dr cf Q (x::r) ⟨v,m,n⟩ q:=h _ _ _ _ K
theorem yz(K:AOps P Y ops dr cf Q r s (q++[e]))(h:SO P Y ops dr x v m n s e:=by intro _ _ _ _ k;exact bl rfl rfl (uT rfl rfl V.h) (fun hc=>⟨ak,(sk V.h)⟩) k):AOps P Y ops dr cf Q (x::r) ⟨v,m,n⟩ q:=h _ _ _ _ K
theorem uC(K:AOps P Y ops dr cf Q r s (q++[e]))(h:SO P Y ops dr x v m n s e:=by intro _ _ _ _ k;exact aF (iQ (v:=.pt _) rfl) ak trivial k):AOps P Y ops dr cf Q (x::r) ⟨v,m,n⟩ q:=h _ _ _ _ K
theorem qf(K:AOps P Y ops dr cf Q r s (q++[e]))(h:SO P Y ops dr x v m n s e:=by intro _ _ _ _ k;exact aF (qk (v:=.s (.int _ _)) rfl rfl) ak (by first|decide|simp) k):AOps P Y ops dr cf Q (x::r) ⟨v,m,n⟩ q:=h _ _ _ _ K
theorem ia(K:AOps P Y ops dr cf Q r s (q++[e]))(h:SO P Y ops dr x v m n s e:=by intro _ _ _ _ k;exact gB (sc (cs:=aB _) rfl) ak (by first|rfl|exact tk eW fI|exact iG _|exact tC cX) k):AOps P Y ops dr cf Q (x::r) ⟨v,m,n⟩ q:=h _ _ _ _ K
theorem fJ(K:AOps P Y ops dr cf Q r s (q++[e]))(h:SO P Y ops dr x v m n s e:=by intro _ _ _ _ k;exact aF (mi (v:=.sl _ _) rfl) ak trivial k):AOps P Y ops dr cf Q (x::r) ⟨v,m,n⟩ q:=h _ _ _ _ K
theorem eF(K:AOps P Y ops dr cf Q r s (q++[e]))(h:SO P Y ops dr x v m n s e:=by intro _ _ _ _ k;exact aF (lC (vs:=a7 _) rfl V.h V.h rfl) ak (lD V.h V.h (by simp)) k):AOps P Y ops dr cf Q (x::r) ⟨v,m,n⟩ q:=h _ _ _ _ K
theorem V3(K:AOps P Y ops dr cf Q r s (q++[e]))(h:SO P Y ops dr x v m n s e:=by intro _ _ _ _ k;exact bl rfl rfl (ic rfl rfl rfl V.h) (fun hc=>⟨ak,(ie V.h V.h rfl)⟩) k):AOps P Y ops dr cf Q (x::r) ⟨v,m,n⟩ q:=h _ _ _ _ K
theorem fY(K:AOps P Y ops dr cf Q r s (q++[e]))(h:SO P Y ops dr x v m n s e:=by intro _ _ _ _ k;exact gB (DF (cs:=[_]) V.h V.h V.h rfl rfl) ak ⟨rfl,by decide,V.h,by decide⟩ k):AOps P Y ops dr cf Q (x::r) ⟨v,m,n⟩ q:=h _ _ _ _ K
theorem jC(K:AOps P Y ops dr cf Q r s (q++[e]))(h:SO P Y ops dr x v m n s e:=by intro _ _ _ _ k;exact aF (IE rfl rfl) ak rfl k):AOps P Y ops dr cf Q (x::r) ⟨v,m,n⟩ q:=h _ _ _ _ K
theorem eI(K:AOps P Y ops dr cf Q r s (q++[e]))(h:SO P Y ops dr x v m n s e:=by intro _ _ _ _ k;exact aF (nq rfl rfl rfl V.h V.h) ak ⟨V.h,by omega⟩ k):AOps P Y ops dr cf Q (x::r) ⟨v,m,n⟩ q:=h _ _ _ _ K
theorem m8(K:AOps P Y ops dr cf Q r s (q++[e]))(h:SO P Y ops dr x v m n s e:=by intro _ _ _ _ k;exact bl rfl rfl (IB rfl rfl) (fun hc=>⟨ak,rfl⟩) k):AOps P Y ops dr cf Q (x::r) ⟨v,m,n⟩ q:=h _ _ _ _ K
theorem wI(K:AOps P Y ops dr cf Q r s (q++[e]))(h:SO P Y ops dr x v m n s e:=by intro _ _ _ _ k;exact aF (Hf V.h V.h V.h rfl rfl) ak ⟨V.h,V.h⟩ k):AOps P Y ops dr cf Q (x::r) ⟨v,m,n⟩ q:=h _ _ _ _ K
theorem gS(K:AOps P Y ops dr cf Q r s (q++[e]))(h:SO P Y ops dr x v m n s e:=by intro _ _ _ _ k;exact aF (lC (vs:=aT _) rfl V.h V.h rfl) ak (lD V.h V.h (by simp)) k):AOps P Y ops dr cf Q (x::r) ⟨v,m,n⟩ q:=h _ _ _ _ K
theorem jl(K:AOps P Y ops dr cf Q r s (q++[e]))(h:SO P Y ops dr x v m n s e:=by intro _ _ _ _ k;exact aF (QM rfl rfl iH) ak rfl k):AOps P Y ops dr cf Q (x::r) ⟨v,m,n⟩ q:=h _ _ _ _ K
theorem uB(K:AOps P Y ops dr cf Q r s (q++[e]))(h:SO P Y ops dr x v m n s e:=by intro _ _ _ _ k;exact aF (Qh rfl) ak trivial k):AOps P Y ops dr cf Q (x::r) ⟨v,m,n⟩ q:=h _ _ _ _ K
theorem kF(K:AOps P Y ops dr cf Q r s (q++[e]))(h:SO P Y ops dr x v m n s e:=by intro _ _ _ _ k;exact aF (Ik rfl rfl gC) ak rfl k):AOps P Y ops dr cf Q (x::r) ⟨v,m,n⟩ q:=h _ _ _ _ K
theorem oX(K:AOps P Y ops dr cf Q r s (q++[e]))(h:SO P Y ops dr x v m n s e:=by intro _ _ _ _ k;exact aF (ic rfl av rfl V.h) ak (ie V.h V.h rfl) k):AOps P Y ops dr cf Q (x::r) ⟨v,m,n⟩ q:=h _ _ _ _ K
theorem J53(K:AOps P Y ops dr cf Q r s (q++[e]))(h:SO P Y ops dr x v m n s e:=by intro _ _ _ _ k;exact cK (aau rfl rfl rfl rfl V.h) ak ⟨V.h,by kernel_rfl,by kernel_rfl⟩ k):AOps P Y ops dr cf Q (x::r) ⟨v,m,n⟩ q:=h _ _ _ _ K
theorem l5(K:AOps P Y ops dr cf Q r s (q++[e]))(h:SO P Y ops dr x v m n s e:=by intro _ _ _ _ k;exact aF (u7 rfl rfl V.h V.h (yM) (by assumption)) ak (u9 V.h (yM) (by assumption)) k):AOps P Y ops dr cf Q (x::r) ⟨v,m,n⟩ q:=h _ _ _ _ K
theorem mW(K:AOps P Y ops dr cf Q r s (q++[e]))(h:SO P Y ops dr x v m n s e:=by intro _ _ _ _ k;exact aF (iQ (v:=.fn _ _ _) rfl) ak trivial k):AOps P Y ops dr cf Q (x::r) ⟨v,m,n⟩ q:=h _ _ _ _ K
theorem o5(K:AOps P Y ops dr cf Q r s (q++[e]))(h:SO P Y ops dr x v m n s e:=by intro _ _ _ _ k;exact bl rfl rfl (IE rfl rfl) (fun hc=>⟨ak,rfl⟩) k):AOps P Y ops dr cf Q (x::r) ⟨v,m,n⟩ q:=h _ _ _ _ K
theorem nQ(K:AOps P Y ops dr cf Q r s (q++[e]))(h:SO P Y ops dr x v m n s e:=by intro _ _ _ _ k;exact gB (sc rfl) ak (by first|rfl|exact tk eW fI|exact iG _|exact tC cX) k):AOps P Y ops dr cf Q (x::r) ⟨v,m,n⟩ q:=h _ _ _ _ K
theorem oY(K:AOps P Y ops dr cf Q r s (q++[e]))(h:SO P Y ops dr x v m n s e:=by intro _ _ _ _ k;exact aF (IF rfl rfl oG) ak rfl k):AOps P Y ops dr cf Q (x::r) ⟨v,m,n⟩ q:=h _ _ _ _ K
theorem uu(K:AOps P Y ops dr cf Q r s (q++[e]))(h:SO P Y ops dr x v m n s e:=by intro _ _ _ _ k;exact aF (qk (v:=.s (.bool _)) rfl rfl) ak (by first|decide|simp) k):AOps P Y ops dr cf Q (x::r) ⟨v,m,n⟩ q:=h _ _ _ _ K
theorem kG(K:AOps P Y ops dr cf Q r s (q++[e]))(h:SO P Y ops dr x v m n s e:=by intro _ _ _ _ k;exact cK (iN (d:=.z) (cs':=_) rfl rfl rfl rfl rfl) ak (dU V.h V.h (by first|(simp;done)|exact⟨rfl,Nat.le_of_ble_eq_true rfl⟩|(simp;omega)) rfl) k):AOps P Y ops dr cf Q (x::r) ⟨v,m,n⟩ q:=h _ _ _ _ K
theorem nR(K:AOps P Y ops dr cf Q r s (q++[e]))(h:SO P Y ops dr x v m n s e:=by intro _ _ _ _ k;exact ZQ rfl rfl rfl rfl rfl (by first|exact fun _=>trivial|exact fun _=>rfl|exact fun hc=>hc) (fun hc h=>by first|exact trivial|exact rfl|exact hc|(show Eq _ _;rw[hc,h];rfl)|(show Eq _ _;rw[h,hc];rfl)|(show Eq _ _;simp[hc,h];done)|(show Eq _ _;simp_all;done)) (fun hc h=>by first|exact trivial|exact rfl|exact hc|(show Eq _ _;rw[hc,h];rfl)|(show Eq _ _;rw[h,hc];rfl)|(show Eq _ _;simp[hc,h];done)|(show Eq _ _;simp_all;done)) k):AOps P Y ops dr cf Q (x::r) ⟨v,m,n⟩ q:=h _ _ _ _ K
theorem mX(K:AOps P Y ops dr cf Q r s (q++[e]))(h:SO P Y ops dr x v m n s e:=by intro _ _ _ _ k;exact gB (sc (cs:=aT _) rfl) ak (by first|rfl|exact tk eW fI|exact iG _|exact tC cX) k):AOps P Y ops dr cf Q (x::r) ⟨v,m,n⟩ q:=h _ _ _ _ K
theorem oZ(K:AOps P Y ops dr cf Q r s (q++[e]))(h:SO P Y ops dr x v m n s e:=by intro _ _ _ _ k;exact aF (u7 rfl rfl V.h V.h (DR) (by assumption)) ak (u9 V.h (DR) (by assumption)) k):AOps P Y ops dr cf Q (x::r) ⟨v,m,n⟩ q:=h _ _ _ _ K
theorem l6(K:AOps P Y ops dr cf Q r s (q++[e]))(h:SO P Y ops dr x v m n s e:=by intro _ _ _ _ k;exact aF (lC (vs:=aW _ _ _) rfl V.h V.h rfl) ak (lD V.h V.h (by simp)) k):AOps P Y ops dr cf Q (x::r) ⟨v,m,n⟩ q:=h _ _ _ _ K
theorem p9(K:AOps P Y ops dr cf Q r s (q++[e]))(h:SO P Y ops dr x v m n s e:=by intro _ _ _ _ k;exact aF (ic rfl rfl kd V.h) ak (ie V.h V.h kd) k):AOps P Y ops dr cf Q (x::r) ⟨v,m,n⟩ q:=h _ _ _ _ K
theorem Gc(K:AOps P Y ops dr cf Q r s (q++[e]))(h:SO P Y ops dr x v m n s e:=by intro _ _ _ _ k;exact bl rfl rfl (iQ (v:=.pt _) rfl) (fun hc=>⟨ak,trivial⟩) k):AOps P Y ops dr cf Q (x::r) ⟨v,m,n⟩ q:=h _ _ _ _ K
theorem sS(K:AOps P Y ops dr cf Q r s (q++[e]))(h:SO P Y ops dr x v m n s e:=by intro _ _ _ _ k;exact gB (sc (cs:=a7 _) rfl) ak (by first|rfl|exact tk eW fI|exact iG _|exact tC cX) k):AOps P Y ops dr cf Q (x::r) ⟨v,m,n⟩ q:=h _ _ _ _ K
theorem rB(K:AOps P Y ops dr cf Q r s (q++[e]))(h:SO P Y ops dr x v m n s e:=by intro _ _ _ _ k;exact aF (IC rfl rfl) ak rfl k):AOps P Y ops dr cf Q (x::r) ⟨v,m,n⟩ q:=h _ _ _ _ K
theorem Ag(K:AOps P Y ops dr cf Q r s (q++[e]))(h:SO P Y ops dr x v m n s e:=by intro _ _ _ _ k;exact aF (Ql rfl rfl) ak trivial k):AOps P Y ops dr cf Q (x::r) ⟨v,m,n⟩ q:=h _ _ _ _ K
theorem n2(K:AOps P Y ops dr cf Q r s (q++[e]))(h:SO P Y ops dr x v m n s e:=by intro _ _ _ _ k;exact cK (gT rfl rfl rfl rfl) ak (dU V.h V.h (by first|(simp;done)|exact⟨rfl,Nat.le_of_ble_eq_true rfl⟩|(simp;omega)) (by rfl)) k):AOps P Y ops dr cf Q (x::r) ⟨v,m,n⟩ q:=h _ _ _ _ K
theorem Af(K:AOps P Y ops dr cf Q r s (q++[e]))(h:SO P Y ops dr x v m n s e:=by intro _ _ _ _ k;exact aF (abu rfl rfl rfl V.h V.h V.h) ak ⟨V.h,by omega⟩ k):AOps P Y ops dr cf Q (x::r) ⟨v,m,n⟩ q:=h _ _ _ _ K
theorem nT(K:AOps P Y ops dr cf Q r s (q++[e]))(h:SO P Y ops dr x v m n s e:=by intro _ _ _ _ k;exact aF (nq rfl rfl av V.h V.h) ak ⟨V.h,by omega⟩ k):AOps P Y ops dr cf Q (x::r) ⟨v,m,n⟩ q:=h _ _ _ _ K
theorem pb(K:AOps P Y ops dr cf Q r s (q++[e]))(h:SO P Y ops dr x v m n s e:=by intro _ _ _ _ k;exact aF (iQ (v:=.s (.string _)) rfl) ak trivial k):AOps P Y ops dr cf Q (x::r) ⟨v,m,n⟩ q:=h _ _ _ _ K
theorem o7(K:AOps P Y ops dr cf Q r s (q++[e]))(h:SO P Y ops dr x v m n s e:=by intro _ _ _ _ k;exact gB (sc (cs:=aW _ _ _) rfl) ak (by first|rfl|exact tk eW fI|exact iG _|exact tC cX) k):AOps P Y ops dr cf Q (x::r) ⟨v,m,n⟩ q:=h _ _ _ _ K
theorem pd(K:AOps P Y ops dr cf Q r s (q++[e]))(h:SO P Y ops dr x v m n s e:=by intro _ _ _ _ k;exact bl rfl rfl (lC (vs:=aT _) rfl V.h V.h rfl) (fun hc=>⟨ak,(lD V.h V.h (by simp))⟩) k):AOps P Y ops dr cf Q (x::r) ⟨v,m,n⟩ q:=h _ _ _ _ K
theorem o8(K:AOps P Y ops dr cf Q r s (q++[e]))(h:SO P Y ops dr x v m n s e:=by intro _ _ _ _ k;exact aF (A4 rfl rfl rfl V.h V.h) ak ⟨V.h,by omega⟩ k):AOps P Y ops dr cf Q (x::r) ⟨v,m,n⟩ q:=h _ _ _ _ K
theorem ur(K:AOps P Y ops dr cf Q r s (q++[e]))(h:SO P Y ops dr x v m n s e:=by intro _ _ _ _ k;exact aF (lC (vs:=eN _) rfl V.h V.h rfl) ak (lD V.h V.h (by simp)) k):AOps P Y ops dr cf Q (x::r) ⟨v,m,n⟩ q:=h _ _ _ _ K
theorem wA(K:AOps P Y ops dr cf Q r s (q++[e]))(h:SO P Y ops dr x v m n s e:=by intro _ _ _ _ k;exact YC rfl rfl rfl rfl (by first|exact fun _=>trivial|exact fun _=>rfl|exact fun hc=>hc) (by first|exact fun _=>trivial|exact fun _=>rfl|exact fun hc=>hc) k):AOps P Y ops dr cf Q (x::r) ⟨v,m,n⟩ q:=h _ _ _ _ K
theorem wx(K:AOps P Y ops dr cf Q r s (q++[e]))(h:SO P Y ops dr x v m n s e:=by intro _ _ _ _ k;exact aF (eL rfl rfl V.h V.h (lO (by first|rfl|exact Nat.le_of_ble_eq_true rfl|(simp;done)|(simp;omega)|omega))) ak (eM V.h V.h (by first|rfl|exact Nat.le_of_ble_eq_true rfl|(simp;done)|(simp;omega)|omega)) k):AOps P Y ops dr cf Q (x::r) ⟨v,m,n⟩ q:=h _ _ _ _ K
theorem Az(K:AOps P Y ops dr cf Q r s (q++[e]))(h:SO P Y ops dr x v m n s e:=by intro _ _ _ _ k;exact bl rfl rfl (QK rfl rfl tS) (fun hc=>⟨ak,rfl⟩) k):AOps P Y ops dr cf Q (x::r) ⟨v,m,n⟩ q:=h _ _ _ _ K
theorem rD(K:AOps P Y ops dr cf Q r s (q++[e]))(h:SO P Y ops dr x v m n s e:=by intro _ _ _ _ k;exact aF (ic rfl av kd V.h) ak (ie V.h V.h kd) k):AOps P Y ops dr cf Q (x::r) ⟨v,m,n⟩ q:=h _ _ _ _ K
theorem F8(K:AOps P Y ops dr cf Q r s (q++[e]))(h:SO P Y ops dr x v m n s e:=by intro _ _ _ _ k;exact aF (qk (v:=.sl _ _) rfl rfl) ak (by first|decide|simp) k):AOps P Y ops dr cf Q (x::r) ⟨v,m,n⟩ q:=h _ _ _ _ K
theorem Wd(K:AOps P Y ops dr cf Q r s (q++[e]))(h:SO P Y ops dr x v m n s e:=by intro _ _ _ _ k;exact bl rfl rfl (Qh rfl) (fun hc=>⟨ak,trivial⟩) k):AOps P Y ops dr cf Q (x::r) ⟨v,m,n⟩ q:=h _ _ _ _ K
theorem wy(K:AOps P Y ops dr cf Q r s (q++[e]))(h:SO P Y ops dr x v m n s e:=by intro _ _ _ _ k;exact bl rfl rfl (Iz rfl rfl) (fun hc=>⟨ak,rfl⟩) k):AOps P Y ops dr cf Q (x::r) ⟨v,m,n⟩ q:=h _ _ _ _ K
theorem yr(K:AOps P Y ops dr cf Q r s (q++[e]))(h:SO P Y ops dr x v m n s e:=by intro _ _ _ _ k;exact YB rfl rfl rfl rfl (by first|exact fun _=>trivial|exact fun _=>rfl|exact fun hc=>hc) (by first|exact fun _=>trivial|exact fun _=>rfl|exact fun hc=>hc) k):AOps P Y ops dr cf Q (x::r) ⟨v,m,n⟩ q:=h _ _ _ _ K
theorem CW(K:AOps P Y ops dr cf Q r s (q++[e]))(h:SO P Y ops dr x v m n s e:=by intro _ _ _ _ k;exact aF (mi (v:=.s (.pointer none)) rfl) ak trivial k):AOps P Y ops dr cf Q (x::r) ⟨v,m,n⟩ q:=h _ _ _ _ K
theorem sZ(K:AOps P Y ops dr cf Q r s (q++[e]))(h:SO P Y ops dr x v m n s e:=by intro _ _ _ _ k;exact aF (lC (vs:=bA _ _) rfl V.h V.h rfl) ak (lD V.h V.h (by simp)) k):AOps P Y ops dr cf Q (x::r) ⟨v,m,n⟩ q:=h _ _ _ _ K
theorem s5(K:AOps P Y ops dr cf Q r s (q++[e]))(h:SO P Y ops dr x v m n s e:=by intro _ _ _ _ k;exact aF (eL rfl rfl V.h V.h rfl) ak (eM V.h V.h (by first|(simp;done)|omega|exact Nat.le_of_ble_eq_true rfl)) k):AOps P Y ops dr cf Q (x::r) ⟨v,m,n⟩ q:=h _ _ _ _ K
theorem uw(K:AOps P Y ops dr cf Q r s (q++[e]))(h:SO P Y ops dr x v m n s e:=by intro _ _ _ _ k;exact aF (H' rfl) ak V.h k):AOps P Y ops dr cf Q (x::r) ⟨v,m,n⟩ q:=h _ _ _ _ K
theorem uI(K:AOps P Y ops dr cf Q r s (q++[e]))(h:SO P Y ops dr x v m n s e:=by intro _ _ _ _ k;exact vJ (u6 rfl rfl rfl V.h V.h (Nm qZ) rfl) ak ⟨V.h,rfl,(by first|omega|exact Nat.le_of_ble_eq_true rfl|(simp;done)|(simp;omega)),(by decide),(by first|rfl|(simp;done)|(simp;omega)),(by unfold maxLen;first|omega|(simp;omega)),(by rw[b3];first|omega|(simp;omega)),(by first|(simp;done)|(simp;omega))⟩ k):AOps P Y ops dr cf Q (x::r) ⟨v,m,n⟩ q:=h _ _ _ _ K
theorem uo(K:AOps P Y ops dr cf Q r s (q++[e]))(h:SO P Y ops dr x v m n s e:=by intro _ _ _ _ k;exact gB (yO rfl rfl V.h V.h) ak ⟨by omega,rfl,by omega,by rw[b4];omega,V.h⟩ k):AOps P Y ops dr cf Q (x::r) ⟨v,m,n⟩ q:=h _ _ _ _ K
theorem uq(K:AOps P Y ops dr cf Q r s (q++[e]))(h:SO P Y ops dr x v m n s e:=by intro _ _ _ _ k;exact cK (iN (d:=.s (.bool _)) (cs':=_) rfl rfl rfl rfl rfl) ak (dU V.h V.h (by first|(simp;done)|exact⟨rfl,Nat.le_of_ble_eq_true rfl⟩|(simp;omega)) rfl) k):AOps P Y ops dr cf Q (x::r) ⟨v,m,n⟩ q:=h _ _ _ _ K
theorem Ar(K:AOps P Y ops dr cf Q r s (q++[e]))(h:SO P Y ops dr x v m n s e:=by intro _ _ _ _ k;exact vJ (u6 rfl (au oG av) rfl V.h V.h (wU (up_same _ _ _) rfl) rfl) ak ⟨V.h,rfl,(by first|omega|exact Nat.le_of_ble_eq_true rfl|(simp;done)|(simp;omega)),(by decide),(by first|rfl|(simp;done)|(simp;omega)),(by unfold maxLen;first|omega|(simp;omega)),(by rw[b3];first|omega|(simp;omega)),(by first|(simp;done)|(simp;omega))⟩ k):AOps P Y ops dr cf Q (x::r) ⟨v,m,n⟩ q:=h _ _ _ _ K
theorem Wx(K:AOps P Y ops dr cf Q r s (q++[e]))(h:SO P Y ops dr x v m n s e:=by intro _ _ _ _ k;exact aF (qk (v:=.s (.pointer none)) rfl rfl) ak (by first|decide|simp) k):AOps P Y ops dr cf Q (x::r) ⟨v,m,n⟩ q:=h _ _ _ _ K
theorem Wy(K:AOps P Y ops dr cf Q r s (q++[e]))(h:SO P Y ops dr x v m n s e:=by intro _ _ _ _ k;exact aF (qk (v:=.pt _) rfl rfl) ak (by first|decide|simp) k):AOps P Y ops dr cf Q (x::r) ⟨v,m,n⟩ q:=h _ _ _ _ K
theorem uG(K:AOps P Y ops dr cf Q r s (q++[e]))(h:SO P Y ops dr x v m n s e:=by intro _ _ _ _ k;exact gB (sc (cs:=bA _ _) rfl) ak (by first|rfl|exact tk eW fI|exact iG _|exact tC cX) k):AOps P Y ops dr cf Q (x::r) ⟨v,m,n⟩ q:=h _ _ _ _ K
theorem wv(K:AOps P Y ops dr cf Q r s (q++[e]))(h:SO P Y ops dr x v m n s e:=by intro _ _ _ _ k;exact aF (u7 rfl rfl V.h V.h (AL) (by assumption)) ak (u9 V.h (AL) (by assumption)) k):AOps P Y ops dr cf Q (x::r) ⟨v,m,n⟩ q:=h _ _ _ _ K
theorem wF(K:AOps P Y ops dr cf Q r s (q++[e]))(h:SO P Y ops dr x v m n s e:=by intro _ _ _ _ k;exact bl rfl rfl (IA rfl rfl) (fun hc=>⟨ak,rfl⟩) k):AOps P Y ops dr cf Q (x::r) ⟨v,m,n⟩ q:=h _ _ _ _ K
theorem Aq(K:AOps P Y ops dr cf Q r s (q++[e]))(h:SO P Y ops dr x v m n s e:=by intro _ _ _ _ k;exact aF (iQ (v:=.mp _) rfl) ak trivial k):AOps P Y ops dr cf Q (x::r) ⟨v,m,n⟩ q:=h _ _ _ _ K
theorem vU(K:AOps P Y ops dr cf Q r s (q++[e]))(h:SO P Y ops dr x v m n s e:=by intro _ _ _ _ k;exact cK (iN (d:=.s (.string _)) (cs':=_) rfl rfl rfl rfl rfl) ak (dU V.h V.h (by first|(simp;done)|exact⟨rfl,Nat.le_of_ble_eq_true rfl⟩|(simp;omega)) rfl) k):AOps P Y ops dr cf Q (x::r) ⟨v,m,n⟩ q:=h _ _ _ _ K
theorem vV(K:AOps P Y ops dr cf Q r s (q++[e]))(h:SO P Y ops dr x v m n s e:=by intro _ _ _ _ k;exact bl rfl rfl (Ik rfl rfl gC) (fun hc=>⟨ak,rfl⟩) k):AOps P Y ops dr cf Q (x::r) ⟨v,m,n⟩ q:=h _ _ _ _ K
theorem Uj(K:AOps P Y ops dr cf Q r s (q++[e]))(h:SO P Y ops dr x v m n s e:=by intro _ _ _ _ k;exact aF (acq rfl rfl Uh) ak ⟨rfl,by omega⟩ k):AOps P Y ops dr cf Q (x::r) ⟨v,m,n⟩ q:=h _ _ _ _ K
theorem vK(K:AOps P Y ops dr cf Q r s (q++[e]))(h:SO P Y ops dr x v m n s e:=by intro _ _ _ _ k;exact cK (gT rfl rfl rfl (H0 (by first|rfl|exact Nat.le_of_ble_eq_true rfl|(simp;done)|(simp;omega)|omega) (by first|rfl|exact Nat.le_of_ble_eq_true rfl|(simp;done)|(simp;omega)|omega))) ak (AU (by first|rfl|exact Nat.le_of_ble_eq_true rfl|(simp;done)|(simp;omega)|omega) (by first|rfl|exact Nat.le_of_ble_eq_true rfl|(simp;done)|(simp;omega)|omega) (by first|rfl|exact iG _|(simp[iG];done)|exact A0)) k):AOps P Y ops dr cf Q (x::r) ⟨v,m,n⟩ q:=h _ _ _ _ K
theorem zF(K:AOps P Y ops dr cf Q r s (q++[e]))(h:SO P Y ops dr x v m n s e:=by intro _ _ _ _ k;exact aF (H9 rfl rfl) ak V.h k):AOps P Y ops dr cf Q (x::r) ⟨v,m,n⟩ q:=h _ _ _ _ K
theorem xN(K:AOps P Y ops dr cf Q r s (q++[e]))(h:SO P Y ops dr x v m n s e:=by intro _ _ _ _ k;exact cK (gT (cs':=eN _) rfl rfl (up_same _ _ _) rfl) ak (dU V.h V.h (by first|(simp;done)|exact⟨rfl,Nat.le_of_ble_eq_true rfl⟩|(simp;omega)) (by rfl)) k):AOps P Y ops dr cf Q (x::r) ⟨v,m,n⟩ q:=h _ _ _ _ K
theorem Ci(K:AOps P Y ops dr cf Q r s (q++[e]))(h:SO P Y ops dr x v m n s e:=by intro _ _ _ _ k;exact aF (QL rfl rfl sI) ak rfl k):AOps P Y ops dr cf Q (x::r) ⟨v,m,n⟩ q:=h _ _ _ _ K
theorem vS(K:AOps P Y ops dr cf Q r s (q++[e]))(h:SO P Y ops dr x v m n s e:=by intro _ _ _ _ k;exact aF (nq rfl rfl fF V.h V.h) ak ⟨V.h,by omega⟩ k):AOps P Y ops dr cf Q (x::r) ⟨v,m,n⟩ q:=h _ _ _ _ K
theorem vT(K:AOps P Y ops dr cf Q r s (q++[e]))(h:SO P Y ops dr x v m n s e:=by intro _ _ _ _ k;exact aF (iQ (v:=.rp _ _) rfl) ak trivial k):AOps P Y ops dr cf Q (x::r) ⟨v,m,n⟩ q:=h _ _ _ _ K
theorem Kd(K:AOps P Y ops dr cf Q r s (q++[e]))(h:SO P Y ops dr x v m n s e:=by intro _ _ _ _ k;exact aF (mi (v:=.pt _) rfl) ak trivial k):AOps P Y ops dr cf Q (x::r) ⟨v,m,n⟩ q:=h _ _ _ _ K
theorem xR(K:AOps P Y ops dr cf Q r s (q++[e]))(h:SO P Y ops dr x v m n s e:=by intro _ _ _ _ k;exact aF (IB rfl rfl) ak rfl k):AOps P Y ops dr cf Q (x::r) ⟨v,m,n⟩ q:=h _ _ _ _ K
theorem xZ(K:AOps P Y ops dr cf Q r s (q++[e]))(h:SO P Y ops dr x v m n s e:=by intro _ _ _ _ k;exact cK (gT rfl rfl (up_same _ _ _) rfl) ak (dU V.h V.h (by first|(simp;done)|exact⟨rfl,Nat.le_of_ble_eq_true rfl⟩|(simp;omega)) (by rfl)) k):AOps P Y ops dr cf Q (x::r) ⟨v,m,n⟩ q:=h _ _ _ _ K
theorem xV(K:AOps P Y ops dr cf Q r s (q++[e]))(h:SO P Y ops dr x v m n s e:=by intro _ _ _ _ k;exact bl rfl rfl (lC (vs:=a7 _) rfl V.h V.h rfl) (fun hc=>⟨ak,(lD V.h V.h (by simp))⟩) k):AOps P Y ops dr cf Q (x::r) ⟨v,m,n⟩ q:=h _ _ _ _ K
theorem xW(K:AOps P Y ops dr cf Q r s (q++[e]))(h:SO P Y ops dr x v m n s e:=by intro _ _ _ _ k;exact gB (DF (cs:=[_,_]) V.h V.h V.h rfl rfl) ak ⟨rfl,by decide,V.h,by decide⟩ k):AOps P Y ops dr cf Q (x::r) ⟨v,m,n⟩ q:=h _ _ _ _ K
theorem Un(K:AOps P Y ops dr cf Q r s (q++[e]))(h:SO P Y ops dr x v m n s e:=by intro _ _ _ _ k;exact aF (acs rfl rfl Um) ak rfl k):AOps P Y ops dr cf Q (x::r) ⟨v,m,n⟩ q:=h _ _ _ _ K
theorem zy(K:AOps P Y ops dr cf Q r s (q++[e]))(h:SO P Y ops dr x v m n s e:=by intro _ _ _ _ k;exact aF (Qu rfl rfl vL) ak rfl k):AOps P Y ops dr cf Q (x::r) ⟨v,m,n⟩ q:=h _ _ _ _ K
theorem Fa(K:AOps P Y ops dr cf Q r s (q++[e]))(h:SO P Y ops dr x v m n s e:=by intro _ _ _ _ k;exact cK (gT (cs':=a7 _) rfl rfl (up_same _ _ _) rfl) ak (dU V.h V.h (by first|(simp;done)|exact⟨rfl,Nat.le_of_ble_eq_true rfl⟩|(simp;omega)) (by rfl)) k):AOps P Y ops dr cf Q (x::r) ⟨v,m,n⟩ q:=h _ _ _ _ K
theorem atQ(K:AOps P Y ops dr cf Q r s (q++[e]))(h:SO P Y ops dr x v m n s e:=by intro _ _ _ _ k;exact aF (eL rfl av V.h V.h (lO (by first|rfl|exact Nat.le_of_ble_eq_true rfl|(simp;done)|(simp;omega)|omega))) ak (eM V.h V.h (by first|rfl|exact Nat.le_of_ble_eq_true rfl|(simp;done)|(simp;omega)|omega)) k):AOps P Y ops dr cf Q (x::r) ⟨v,m,n⟩ q:=h _ _ _ _ K
theorem Ve(K:AOps P Y ops dr cf Q r s (q++[e]))(h:SO P Y ops dr x v m n s e:=by intro _ _ _ _ k;exact bl rfl rfl (IC rfl rfl) (fun hc=>⟨ak,rfl⟩) k):AOps P Y ops dr cf Q (x::r) ⟨v,m,n⟩ q:=h _ _ _ _ K
theorem FB(K:AOps P Y ops dr cf Q r s (q++[e]))(h:SO P Y ops dr x v m n s e:=by intro _ _ _ _ k;exact bl rfl rfl (IF rfl rfl oG) (fun hc=>⟨ak,rfl⟩) k):AOps P Y ops dr cf Q (x::r) ⟨v,m,n⟩ q:=h _ _ _ _ K
theorem VB(K:AOps P Y ops dr cf Q r s (q++[e]))(h:SO P Y ops dr x v m n s e:=by intro _ _ _ _ k;exact aF (qk (v:=.z) rfl rfl) ak (by first|decide|simp) k):AOps P Y ops dr cf Q (x::r) ⟨v,m,n⟩ q:=h _ _ _ _ K
theorem zG(K:AOps P Y ops dr cf Q r s (q++[e]))(h:SO P Y ops dr x v m n s e:=by intro _ _ _ _ k;exact bl rfl rfl (iQ (v:=.s (.string _)) rfl) (fun hc=>⟨ak,trivial⟩) k):AOps P Y ops dr cf Q (x::r) ⟨v,m,n⟩ q:=h _ _ _ _ K
theorem JA(K:AOps P Y ops dr cf Q r s (q++[e]))(h:SO P Y ops dr x v m n s e:=by intro _ _ _ _ k;exact gB (En (d:=.s (.int _ _)) rfl rfl) ak rfl k):AOps P Y ops dr cf Q (x::r) ⟨v,m,n⟩ q:=h _ _ _ _ K
theorem zM(K:AOps P Y ops dr cf Q r s (q++[e]))(h:SO P Y ops dr x v m n s e:=by intro _ _ _ _ k;exact gB (DF (cs:=[]) V.h V.h V.h rfl rfl) ak ⟨rfl,by decide,V.h,by decide⟩ k):AOps P Y ops dr cf Q (x::r) ⟨v,m,n⟩ q:=h _ _ _ _ K
theorem B1(K:AOps P Y ops dr cf Q r s (q++[e]))(h:SO P Y ops dr x v m n s e:=by intro _ _ _ _ k;exact gB (abS rfl rfl V.h V.h (wU (up_same _ _ _) rfl)) ak ⟨V.h,(by first|omega|exact Nat.le_of_ble_eq_true rfl|(simp;done)|(simp;omega)),(by decide),(by unfold maxLen;first|omega|(simp;omega)),(by rw[b3];first|omega|(simp;omega))⟩ k):AOps P Y ops dr cf Q (x::r) ⟨v,m,n⟩ q:=h _ _ _ _ K
theorem B2(K:AOps P Y ops dr cf Q r s (q++[e]))(h:SO P Y ops dr x v m n s e:=by intro _ _ _ _ k;exact bl rfl rfl (iQ (v:=.rs _ _ _) rfl) (fun hc=>⟨ak,trivial⟩) k):AOps P Y ops dr cf Q (x::r) ⟨v,m,n⟩ q:=h _ _ _ _ K
theorem zz(K:AOps P Y ops dr cf Q r s (q++[e]))(h:SO P Y ops dr x v m n s e:=by intro _ _ _ _ k;exact aF (nq rfl rfl (up_same _ _ _) V.h V.h) ak ⟨V.h,by omega⟩ k):AOps P Y ops dr cf Q (x::r) ⟨v,m,n⟩ q:=h _ _ _ _ K
theorem zC(K:AOps P Y ops dr cf Q r s (q++[e]))(h:SO P Y ops dr x v m n s e:=by intro _ _ _ _ k;exact bl rfl rfl (uT rfl (up_same _ _ _) V.h) (fun hc=>⟨ak,(sk V.h)⟩) k):AOps P Y ops dr cf Q (x::r) ⟨v,m,n⟩ q:=h _ _ _ _ K
theorem zD(K:AOps P Y ops dr cf Q r s (q++[e]))(h:SO P Y ops dr x v m n s e:=by intro _ _ _ _ k;exact bl rfl rfl (ic rfl (up_same _ _ _) rfl V.h) (fun hc=>⟨ak,(ie V.h V.h rfl)⟩) k):AOps P Y ops dr cf Q (x::r) ⟨v,m,n⟩ q:=h _ _ _ _ K
theorem zU(K:AOps P Y ops dr cf Q r s (q++[e]))(h:SO P Y ops dr x v m n s e:=by intro _ _ _ _ k;exact aF (u7 rfl rfl V.h V.h (Mw) (by assumption)) ak (u9 V.h (Mw) (by assumption)) k):AOps P Y ops dr cf Q (x::r) ⟨v,m,n⟩ q:=h _ _ _ _ K
theorem zX(K:AOps P Y ops dr cf Q r s (q++[e]))(h:SO P Y ops dr x v m n s e:=by intro _ _ _ _ k;exact bl rfl rfl (lC (vs:=aB _) rfl V.h V.h rfl) (fun hc=>⟨ak,(lD V.h V.h (by simp))⟩) k):AOps P Y ops dr cf Q (x::r) ⟨v,m,n⟩ q:=h _ _ _ _ K
theorem JY(K:AOps P Y ops dr cf Q r s (q++[e]))(h:SO P Y ops dr x v m n s e:=by intro _ _ _ _ k;exact gB ac1 ak trivial k):AOps P Y ops dr cf Q (x::r) ⟨v,m,n⟩ q:=h _ _ _ _ K
theorem B8(K:AOps P Y ops dr cf Q r s (q++[e]))(h:SO P Y ops dr x v m n s e:=by intro _ _ _ _ k;exact aF (mi (v:=.mp _) rfl) ak trivial k):AOps P Y ops dr cf Q (x::r) ⟨v,m,n⟩ q:=h _ _ _ _ K
theorem Ch(K:AOps P Y ops dr cf Q r s (q++[e]))(h:SO P Y ops dr x v m n s e:=by intro _ _ _ _ k;exact aF (eL (vs:=aB _) rfl rfl V.h V.h rfl) ak (eM V.h V.h (by first|(simp;done)|omega|exact Nat.le_of_ble_eq_true rfl)) k):AOps P Y ops dr cf Q (x::r) ⟨v,m,n⟩ q:=h _ _ _ _ K
theorem Uk(K:AOps P Y ops dr cf Q r s (q++[e]))(h:SO P Y ops dr x v m n s e:=by intro _ _ _ _ k;exact aF (acr rfl rfl Ui) ak ⟨rfl,by omega⟩ k):AOps P Y ops dr cf Q (x::r) ⟨v,m,n⟩ q:=h _ _ _ _ K
theorem E7(K:AOps P Y ops dr cf Q r s (q++[e]))(h:SO P Y ops dr x v m n s e:=by intro _ _ _ _ k;exact aF (uT rfl (up_same _ _ _) V.h) ak (sk V.h) k):AOps P Y ops dr cf Q (x::r) ⟨v,m,n⟩ q:=h _ _ _ _ K
theorem JD(K:AOps P Y ops dr cf Q r s (q++[e]))(h:SO P Y ops dr x v m n s e:=by intro _ _ _ _ k;exact bl rfl rfl (Qu rfl rfl vL) (fun hc=>⟨ak,rfl⟩) k):AOps P Y ops dr cf Q (x::r) ⟨v,m,n⟩ q:=h _ _ _ _ K
theorem E'(K:AOps P Y ops dr cf Q r s (q++[e]))(h:SO P Y ops dr x v m n s e:=by intro _ _ _ _ k;exact aF (H9 rfl av) ak V.h k):AOps P Y ops dr cf Q (x::r) ⟨v,m,n⟩ q:=h _ _ _ _ K
theorem B4(K:AOps P Y ops dr cf Q r s (q++[e]))(h:SO P Y ops dr x v m n s e:=by intro _ _ _ _ k;exact aF (eL (vs:=aT _) rfl rfl V.h V.h rfl) ak (eM V.h V.h (by first|(simp;done)|omega|exact Nat.le_of_ble_eq_true rfl)) k):AOps P Y ops dr cf Q (x::r) ⟨v,m,n⟩ q:=h _ _ _ _ K
theorem Fb(K:AOps P Y ops dr cf Q r s (q++[e]))(h:SO P Y ops dr x v m n s e:=by intro _ _ _ _ k;exact aF (eL (vs:=a7 _) rfl (up_same _ _ _) V.h V.h rfl) ak (eM V.h V.h (by first|(simp;done)|omega|exact Nat.le_of_ble_eq_true rfl)) k):AOps P Y ops dr cf Q (x::r) ⟨v,m,n⟩ q:=h _ _ _ _ K
theorem Ca(K:AOps P Y ops dr cf Q r s (q++[e]))(h:SO P Y ops dr x v m n s e:=by intro _ _ _ _ k;exact cK (iN (d:=.s (.bool _)) (cs':=_) rfl rfl fF rfl rfl) ak (dU V.h V.h (by first|(simp;done)|exact⟨rfl,Nat.le_of_ble_eq_true rfl⟩|(simp;omega)) rfl) k):AOps P Y ops dr cf Q (x::r) ⟨v,m,n⟩ q:=h _ _ _ _ K
theorem Kc(K:AOps P Y ops dr cf Q r s (q++[e]))(h:SO P Y ops dr x v m n s e:=by intro _ _ _ _ k;exact aF (uT rfl av V.h) ak (sk V.h) k):AOps P Y ops dr cf Q (x::r) ⟨v,m,n⟩ q:=h _ _ _ _ K
theorem Cm(K:AOps P Y ops dr cf Q r s (q++[e]))(h:SO P Y ops dr x v m n s e:=by intro _ _ _ _ k;exact bl rfl rfl (u7 rfl rfl V.h V.h (DR) (by assumption)) (fun hc=>⟨ak,(u9 V.h (DR) (by assumption))⟩) k):AOps P Y ops dr cf Q (x::r) ⟨v,m,n⟩ q:=h _ _ _ _ K
theorem Co(K:AOps P Y ops dr cf Q r s (q++[e]))(h:SO P Y ops dr x v m n s e:=by intro _ _ _ _ k;exact aF (lC rfl V.h V.h rfl) ak (lD V.h V.h (by simp)) k):AOps P Y ops dr cf Q (x::r) ⟨v,m,n⟩ q:=h _ _ _ _ K
theorem Cp(K:AOps P Y ops dr cf Q r s (q++[e]))(h:SO P Y ops dr x v m n s e:=by intro _ _ _ _ k;exact bl rfl rfl (QL rfl rfl sI) (fun hc=>⟨ak,rfl⟩) k):AOps P Y ops dr cf Q (x::r) ⟨v,m,n⟩ q:=h _ _ _ _ K
theorem E3(K:AOps P Y ops dr cf Q r s (q++[e]))(h:SO P Y ops dr x v m n s e:=by intro _ _ _ _ k;exact aF (lC (vs:=kJ _) rfl V.h V.h rfl) ak (lD V.h V.h (by simp)) k):AOps P Y ops dr cf Q (x::r) ⟨v,m,n⟩ q:=h _ _ _ _ K
theorem FD(K:AOps P Y ops dr cf Q r s (q++[e]))(h:SO P Y ops dr x v m n s e:=by intro _ _ _ _ k;exact bl rfl rfl (acp rfl rfl Vi) (fun hc=>⟨ak,rfl⟩) k):AOps P Y ops dr cf Q (x::r) ⟨v,m,n⟩ q:=h _ _ _ _ K
theorem E5(K:AOps P Y ops dr cf Q r s (q++[e]))(h:SO P Y ops dr x v m n s e:=by intro _ _ _ _ k;exact bl rfl rfl (Ik rfl rfl EK) (fun hc=>⟨ak,rfl⟩) k):AOps P Y ops dr cf Q (x::r) ⟨v,m,n⟩ q:=h _ _ _ _ K
theorem E6(K:AOps P Y ops dr cf Q r s (q++[e]))(h:SO P Y ops dr x v m n s e:=by intro _ _ _ _ k;exact bl rfl rfl (iQ (v:=.fn _ _ _) rfl) (fun hc=>⟨ak,trivial⟩) k):AOps P Y ops dr cf Q (x::r) ⟨v,m,n⟩ q:=h _ _ _ _ K
theorem E8(K:AOps P Y ops dr cf Q r s (q++[e]))(h:SO P Y ops dr x v m n s e:=by intro _ _ _ _ k;exact vJ (u6 rfl (au oG fF) rfl V.h V.h (wU (up_same _ _ _) rfl) rfl) ak ⟨V.h,rfl,(by first|omega|exact Nat.le_of_ble_eq_true rfl|(simp;done)|(simp;omega)),(by decide),(by first|rfl|(simp;done)|(simp;omega)),(by unfold maxLen;first|omega|(simp;omega)),(by rw[b3];first|omega|(simp;omega)),(by first|(simp;done)|(simp;omega))⟩ k):AOps P Y ops dr cf Q (x::r) ⟨v,m,n⟩ q:=h _ _ _ _ K
theorem Ut(K:AOps P Y ops dr cf Q r s (q++[e]))(h:SO P Y ops dr x v m n s e:=by intro _ _ _ _ k;exact aF (QK rfl rfl tS) ak rfl k):AOps P Y ops dr cf Q (x::r) ⟨v,m,n⟩ q:=h _ _ _ _ K
theorem E9(K:AOps P Y ops dr cf Q r s (q++[e]))(h:SO P Y ops dr x v m n s e:=by intro _ _ _ _ k;exact cK (iN (d:=.s (.int _ _)) (cs':=_) rfl rfl (up_same _ _ _) rfl rfl) ak (dU V.h V.h (by first|(simp;done)|exact⟨rfl,Nat.le_of_ble_eq_true rfl⟩|(simp;omega)) rfl) k):AOps P Y ops dr cf Q (x::r) ⟨v,m,n⟩ q:=h _ _ _ _ K
theorem Ff(K:AOps P Y ops dr cf Q r s (q++[e]))(h:SO P Y ops dr x v m n s e:=by intro _ _ _ _ k;exact cK (gT rfl rfl (up_same _ _ _) (H0 (by first|rfl|exact Nat.le_of_ble_eq_true rfl|(simp;done)|(simp;omega)|omega) (by first|rfl|exact Nat.le_of_ble_eq_true rfl|(simp;done)|(simp;omega)|omega))) ak (AU (by first|rfl|exact Nat.le_of_ble_eq_true rfl|(simp;done)|(simp;omega)|omega) (by first|rfl|exact Nat.le_of_ble_eq_true rfl|(simp;done)|(simp;omega)|omega) (by first|rfl|exact iG _|(simp[iG];done)|exact A0)) k):AOps P Y ops dr cf Q (x::r) ⟨v,m,n⟩ q:=h _ _ _ _ K
theorem Fg(K:AOps P Y ops dr cf Q r s (q++[e]))(h:SO P Y ops dr x v m n s e:=by intro _ _ _ _ k;exact gB (yO rfl rfl V.h V.h) ak ⟨by omega,rfl,by omega,by rw[WY];omega,V.h⟩ k):AOps P Y ops dr cf Q (x::r) ⟨v,m,n⟩ q:=h _ _ _ _ K
theorem JR(K:AOps P Y ops dr cf Q r s (q++[e]))(h:SO P Y ops dr x v m n s e:=by intro _ _ _ _ k;exact cK (iN (d:=.rs _ _ _) (cs':=_) rfl rfl (au oG (au oG av)) rfl rfl) ak (dU V.h V.h (by first|(simp;done)|exact⟨rfl,Nat.le_of_ble_eq_true rfl⟩|(simp;omega)) rfl) k):AOps P Y ops dr cf Q (x::r) ⟨v,m,n⟩ q:=h _ _ _ _ K
theorem JT(K:AOps P Y ops dr cf Q r s (q++[e]))(h:SO P Y ops dr x v m n s e:=by intro _ _ _ _ k;exact cK (iN (d:=.rs _ _ _) (cs':=_) rfl rfl (au oG (au oG (au oG av))) rfl rfl) ak (dU V.h V.h (by first|(simp;done)|exact⟨rfl,Nat.le_of_ble_eq_true rfl⟩|(simp;omega)) rfl) k):AOps P Y ops dr cf Q (x::r) ⟨v,m,n⟩ q:=h _ _ _ _ K
theorem UD(K:AOps P Y ops dr cf Q r s (q++[e]))(h:SO P Y ops dr x v m n s e:=by intro _ _ _ _ k;exact aF (ab5 rfl rfl V.h V.h (by assumption) (by assumption)) ak (ab6 V.h (by assumption) (by assumption) oG) k):AOps P Y ops dr cf Q (x::r) ⟨v,m,n⟩ q:=h _ _ _ _ K
theorem UE(K:AOps P Y ops dr cf Q r s (q++[e]))(h:SO P Y ops dr x v m n s e:=by intro _ _ _ _ k;exact aF (lC rfl V.h V.h (Z2 (by assumption))) ak (lD V.h V.h (by simp;omega)) k):AOps P Y ops dr cf Q (x::r) ⟨v,m,n⟩ q:=h _ _ _ _ K
theorem atS(K:AOps P Y ops dr cf Q r s (q++[e]))(h:SO P Y ops dr x v m n s e:=by intro _ _ _ _ k;exact cK (gT rfl rfl rfl (abI (by first|rfl|exact Nat.le_of_ble_eq_true rfl|(simp;done)|(simp;omega)|omega) (by first|rfl|exact Nat.le_of_ble_eq_true rfl|(simp;done)|(simp;omega)|omega))) ak (aaL (by first|rfl|exact Nat.le_of_ble_eq_true rfl|(simp;done)|(simp;omega)|omega) (by first|rfl|exact Nat.le_of_ble_eq_true rfl|(simp;done)|(simp;omega)|omega) (by first|rfl|exact iG _|(simp[iG];done)|exact A0)) k):AOps P Y ops dr cf Q (x::r) ⟨v,m,n⟩ q:=h _ _ _ _ K
theorem Fl(K:AOps P Y ops dr cf Q r s (q++[e]))(h:SO P Y ops dr x v m n s e:=by intro _ _ _ _ k;exact vJ (u6 rfl rfl rfl V.h V.h (wU rfl rfl) rfl) ak ⟨V.h,rfl,(by first|omega|exact Nat.le_of_ble_eq_true rfl|(simp;done)|(simp;omega)),(by decide),(by first|rfl|(simp;done)|(simp;omega)),(by unfold maxLen;first|omega|(simp;omega)),(by rw[b3];first|omega|(simp;omega)),(by first|(simp;done)|(simp;omega))⟩ k):AOps P Y ops dr cf Q (x::r) ⟨v,m,n⟩ q:=h _ _ _ _ K
theorem J'(K:AOps P Y ops dr cf Q r s (q++[e]))(h:SO P Y ops dr x v m n s e:=by intro _ _ _ _ k;exact aF (ic rfl fF kd V.h) ak (ie V.h V.h kd) k):AOps P Y ops dr cf Q (x::r) ⟨v,m,n⟩ q:=h _ _ _ _ K
theorem Fs(K:AOps P Y ops dr cf Q r s (q++[e]))(h:SO P Y ops dr x v m n s e:=by intro _ _ _ _ k;exact aF (Qi rfl fF) ak trivial k):AOps P Y ops dr cf Q (x::r) ⟨v,m,n⟩ q:=h _ _ _ _ K
theorem Ft(K:AOps P Y ops dr cf Q r s (q++[e]))(h:SO P Y ops dr x v m n s e:=by intro _ _ _ _ k;exact aF (uT rfl fF V.h) ak (sk V.h) k):AOps P Y ops dr cf Q (x::r) ⟨v,m,n⟩ q:=h _ _ _ _ K
theorem Fu(K:AOps P Y ops dr cf Q r s (q++[e]))(h:SO P Y ops dr x v m n s e:=by intro _ _ _ _ k;exact aF (ic rfl fF rfl V.h) ak (ie V.h V.h rfl) k):AOps P Y ops dr cf Q (x::r) ⟨v,m,n⟩ q:=h _ _ _ _ K
theorem atT(K:AOps P Y ops dr cf Q r s (q++[e]))(h:SO P Y ops dr x v m n s e:=by intro _ _ _ _ k;exact cK (gT rfl rfl av (abI (by first|rfl|exact Nat.le_of_ble_eq_true rfl|(simp;done)|(simp;omega)|omega) (by first|rfl|exact Nat.le_of_ble_eq_true rfl|(simp;done)|(simp;omega)|omega))) ak (aaL (by first|rfl|exact Nat.le_of_ble_eq_true rfl|(simp;done)|(simp;omega)|omega) (by first|rfl|exact Nat.le_of_ble_eq_true rfl|(simp;done)|(simp;omega)|omega) (by first|rfl|exact iG _|(simp[iG];done)|exact A0)) k):AOps P Y ops dr cf Q (x::r) ⟨v,m,n⟩ q:=h _ _ _ _ K
theorem Fw(K:AOps P Y ops dr cf Q r s (q++[e]))(h:SO P Y ops dr x v m n s e:=by intro _ _ _ _ k;exact aF (Qk rfl rfl) ak ⟨V.h,by omega,by omega⟩ k):AOps P Y ops dr cf Q (x::r) ⟨v,m,n⟩ q:=h _ _ _ _ K
theorem Fx(K:AOps P Y ops dr cf Q r s (q++[e]))(h:SO P Y ops dr x v m n s e:=by intro _ _ _ _ k;exact bl rfl rfl (Qk rfl rfl) (fun hc=>⟨ak,⟨V.h,by omega,by omega⟩⟩) k):AOps P Y ops dr cf Q (x::r) ⟨v,m,n⟩ q:=h _ _ _ _ K
theorem Ki(K:AOps P Y ops dr cf Q r s (q++[e]))(h:SO P Y ops dr x v m n s e:=by intro _ _ _ _ k;exact bl rfl rfl (H7 rfl rfl) (fun hc=>⟨ak,trivial⟩) k):AOps P Y ops dr cf Q (x::r) ⟨v,m,n⟩ q:=h _ _ _ _ K
theorem Jy(K:AOps P Y ops dr cf Q r s (q++[e]))(h:SO P Y ops dr x v m n s e:=by intro _ _ _ _ k;exact cK (gT (cs':=kJ _) rfl rfl (up_same _ _ _) rfl) ak (dU V.h V.h (by first|(simp;done)|exact⟨rfl,Nat.le_of_ble_eq_true rfl⟩|(simp;omega)) (by rfl)) k):AOps P Y ops dr cf Q (x::r) ⟨v,m,n⟩ q:=h _ _ _ _ K
theorem Uu(K:AOps P Y ops dr cf Q r s (q++[e]))(h:SO P Y ops dr x v m n s e:=by intro _ _ _ _ k;exact aF (IA rfl rfl) ak rfl k):AOps P Y ops dr cf Q (x::r) ⟨v,m,n⟩ q:=h _ _ _ _ K
theorem UI(K:AOps P Y ops dr cf Q r s (q++[e]))(h:SO P Y ops dr x v m n s e:=by intro _ _ _ _ k;exact aF (Hf (cs:=aW _ _ _) V.h V.h V.h rfl rfl) ak ⟨V.h,V.h⟩ k):AOps P Y ops dr cf Q (x::r) ⟨v,m,n⟩ q:=h _ _ _ _ K
theorem Uq(K:AOps P Y ops dr cf Q r s (q++[e]))(h:SO P Y ops dr x v m n s e:=by intro _ _ _ _ k;exact cK (iN (d:=.s (.int _ _)) (cs':=[_]) rfl rfl rfl rfl rfl) ak (dU V.h V.h (by first|(simp;done)|exact⟨rfl,Nat.le_of_ble_eq_true rfl⟩|(simp;omega)) rfl) k):AOps P Y ops dr cf Q (x::r) ⟨v,m,n⟩ q:=h _ _ _ _ K
theorem Kn(K:AOps P Y ops dr cf Q r s (q++[e]))(h:SO P Y ops dr x v m n s e:=by intro _ _ _ _ k;exact ab0 rfl rfl (DF (cs:=[_]) V.h V.h V.h rfl rfl) ak ⟨rfl,by decide,V.h,by decide⟩ k):AOps P Y ops dr cf Q (x::r) ⟨v,m,n⟩ q:=h _ _ _ _ K
theorem Kq(K:AOps P Y ops dr cf Q r s (q++[e]))(h:SO P Y ops dr x v m n s e:=by intro _ _ _ _ k;exact bl rfl rfl (eL rfl rfl V.h V.h rfl) (fun hc=>⟨ak,(eM V.h V.h (by first|(simp;done)|omega|exact Nat.le_of_ble_eq_true rfl))⟩) k):AOps P Y ops dr cf Q (x::r) ⟨v,m,n⟩ q:=h _ _ _ _ K
theorem Ul(K:AOps P Y ops dr cf Q r s (q++[e]))(h:SO P Y ops dr x v m n s e:=by intro _ _ _ _ k;exact aF (acY rfl rfl) ak rfl k):AOps P Y ops dr cf Q (x::r) ⟨v,m,n⟩ q:=h _ _ _ _ K
theorem aj'(K:AOps P Y ops dr cf Q r s (q++[e]))(h:SO P Y ops dr x v m n s e:=by intro _ _ _ _ k;exact aF (acZ rfl rfl) ak oG k):AOps P Y ops dr cf Q (x::r) ⟨v,m,n⟩ q:=h _ _ _ _ K
theorem aka(K:AOps P Y ops dr cf Q r s (q++[e]))(h:SO P Y ops dr x v m n s e:=by intro _ _ _ _ k;exact aF (aj4 rfl rfl) ak rfl k):AOps P Y ops dr cf Q (x::r) ⟨v,m,n⟩ q:=h _ _ _ _ K
theorem akc(K:AOps P Y ops dr cf Q r s (q++[e]))(h:SO P Y ops dr x v m n s e:=by intro _ _ _ _ k;exact aF (mi (v:=.fn _ _ _) rfl) ak trivial k):AOps P Y ops dr cf Q (x::r) ⟨v,m,n⟩ q:=h _ _ _ _ K
theorem Up(K:AOps P Y ops dr cf Q r s (q++[e]))(h:SO P Y ops dr x v m n s e:=by intro _ _ _ _ k;exact aF (ic rfl (up_same _ _ _) rfl V.h) ak (ie V.h V.h rfl) k):AOps P Y ops dr cf Q (x::r) ⟨v,m,n⟩ q:=h _ _ _ _ K
theorem Ur(K:AOps P Y ops dr cf Q r s (q++[e]))(h:SO P Y ops dr x v m n s e:=by intro _ _ _ _ k;exact cK (iN (d:=.rs _ _ _) (cs':=[_]) rfl rfl (au oG (au oG av)) rfl rfl) ak (dU V.h V.h (by first|(simp;done)|exact⟨rfl,Nat.le_of_ble_eq_true rfl⟩|(simp;omega)) rfl) k):AOps P Y ops dr cf Q (x::r) ⟨v,m,n⟩ q:=h _ _ _ _ K
theorem Us(K:AOps P Y ops dr cf Q r s (q++[e]))(h:SO P Y ops dr x v m n s e:=by intro _ _ _ _ k;exact cK (iN (d:=.rs _ _ _) (cs':=[_]) rfl rfl (au oG (au oG (au oG av))) rfl rfl) ak (dU V.h V.h (by first|(simp;done)|exact⟨rfl,Nat.le_of_ble_eq_true rfl⟩|(simp;omega)) rfl) k):AOps P Y ops dr cf Q (x::r) ⟨v,m,n⟩ q:=h _ _ _ _ K
theorem JE(K:AOps P Y ops dr cf Q r s (q++[e]))(h:SO P Y ops dr x v m n s e:=by intro _ _ _ _ k;exact aF (ic rfl (up_same _ _ _) kd V.h) ak (ie V.h V.h kd) k):AOps P Y ops dr cf Q (x::r) ⟨v,m,n⟩ q:=h _ _ _ _ K
theorem JG(K:AOps P Y ops dr cf Q r s (q++[e]))(h:SO P Y ops dr x v m n s e:=by intro _ _ _ _ k;exact aF (aa4 rfl rfl (up_same _ _ _) V.h V.h) ak ⟨V.h,by omega⟩ k):AOps P Y ops dr cf Q (x::r) ⟨v,m,n⟩ q:=h _ _ _ _ K
theorem JJ(K:AOps P Y ops dr cf Q r s (q++[e]))(h:SO P Y ops dr x v m n s e:=by intro _ _ _ _ k;exact bl rfl rfl (eL rfl (au oG rfl) V.h V.h (lO (by first|rfl|exact Nat.le_of_ble_eq_true rfl|(simp;done)|(simp;omega)|omega))) (fun hc=>⟨ak,(eM V.h V.h (by first|rfl|exact Nat.le_of_ble_eq_true rfl|(simp;done)|(simp;omega)|omega))⟩) k):AOps P Y ops dr cf Q (x::r) ⟨v,m,n⟩ q:=h _ _ _ _ K
theorem JK(K:AOps P Y ops dr cf Q r s (q++[e]))(h:SO P Y ops dr x v m n s e:=by intro _ _ _ _ k;exact aF (eL rfl (au oG rfl) V.h V.h (lO (by first|rfl|exact Nat.le_of_ble_eq_true rfl|(simp;done)|(simp;omega)|omega))) ak (eM V.h V.h (by first|rfl|exact Nat.le_of_ble_eq_true rfl|(simp;done)|(simp;omega)|omega)) k):AOps P Y ops dr cf Q (x::r) ⟨v,m,n⟩ q:=h _ _ _ _ K
theorem JL(K:AOps P Y ops dr cf Q r s (q++[e]))(h:SO P Y ops dr x v m n s e:=by intro _ _ _ _ k;exact cK (gT rfl rfl (au oG rfl) (H0 (by first|rfl|exact Nat.le_of_ble_eq_true rfl|(simp;done)|(simp;omega)|omega) (by first|rfl|exact Nat.le_of_ble_eq_true rfl|(simp;done)|(simp;omega)|omega))) ak (AU (by first|rfl|exact Nat.le_of_ble_eq_true rfl|(simp;done)|(simp;omega)|omega) (by first|rfl|exact Nat.le_of_ble_eq_true rfl|(simp;done)|(simp;omega)|omega) (by first|rfl|exact iG _|(simp[iG];done)|exact A0)) k):AOps P Y ops dr cf Q (x::r) ⟨v,m,n⟩ q:=h _ _ _ _ K
theorem Uw(K:AOps P Y ops dr cf Q r s (q++[e]))(h:SO P Y ops dr x v m n s e:=by intro _ _ _ _ k;exact bl rfl rfl (QM rfl rfl iH) (fun hc=>⟨ak,rfl⟩) k):AOps P Y ops dr cf Q (x::r) ⟨v,m,n⟩ q:=h _ _ _ _ K
theorem JN(K:AOps P Y ops dr cf Q r s (q++[e]))(h:SO P Y ops dr x v m n s e:=by intro _ _ _ _ k;exact cK (gT rfl rfl rfl (SK (by decide) (by assumption) (by assumption) (by first|assumption|(simp;omega)|(simp;done)))) ak (AU (by first|(simp;omega)|(simp;done)) (xE (by assumption) (by assumption)) (iG _)) k):AOps P Y ops dr cf Q (x::r) ⟨v,m,n⟩ q:=h _ _ _ _ K
theorem JO(K:AOps P Y ops dr cf Q r s (q++[e]))(h:SO P Y ops dr x v m n s e:=by intro _ _ _ _ k;exact aF (qk (v:=.agg _) rfl rfl) ak (by first|decide|simp) k):AOps P Y ops dr cf Q (x::r) ⟨v,m,n⟩ q:=h _ _ _ _ K
theorem JQ(K:AOps P Y ops dr cf Q r s (q++[e]))(h:SO P Y ops dr x v m n s e:=by intro _ _ _ _ k;exact aF (nq rfl rfl (au oG (au oG av)) V.h V.h) ak ⟨V.h,by omega⟩ k):AOps P Y ops dr cf Q (x::r) ⟨v,m,n⟩ q:=h _ _ _ _ K
theorem JS(K:AOps P Y ops dr cf Q r s (q++[e]))(h:SO P Y ops dr x v m n s e:=by intro _ _ _ _ k;exact aF (nq rfl rfl (au oG (au oG (au oG av))) V.h V.h) ak ⟨V.h,by omega⟩ k):AOps P Y ops dr cf Q (x::r) ⟨v,m,n⟩ q:=h _ _ _ _ K
theorem UM(K:AOps P Y ops dr cf Q r s (q++[e]))(h:SO P Y ops dr x v m n s e:=by intro _ _ _ _ k;exact cK (iN (d:=.rs _ _ _) (cs':=[_]) rfl rfl rfl rfl rfl) ak (dU V.h V.h (by first|(simp;done)|exact⟨rfl,Nat.le_of_ble_eq_true rfl⟩|(simp;omega)) rfl) k):AOps P Y ops dr cf Q (x::r) ⟨v,m,n⟩ q:=h _ _ _ _ K
theorem Kb(K:AOps P Y ops dr cf Q r s (q++[e]))(h:SO P Y ops dr x v m n s e:=by intro _ _ _ _ k;exact aF (Qi rfl av) ak trivial k):AOps P Y ops dr cf Q (x::r) ⟨v,m,n⟩ q:=h _ _ _ _ K
theorem atU(K:AOps P Y ops dr cf Q r s (q++[e]))(h:SO P Y ops dr x v m n s e:=by intro _ _ _ _ k;exact aF (arD rfl rfl) ak V.h k):AOps P Y ops dr cf Q (x::r) ⟨v,m,n⟩ q:=h _ _ _ _ K
theorem Kf(K:AOps P Y ops dr cf Q r s (q++[e]))(h:SO P Y ops dr x v m n s e:=by intro _ _ _ _ k;exact cK (iN (d:=.rs _ _ _) (cs':=_) rfl rfl rfl rfl rfl) ak (dU V.h V.h (by first|(simp;done)|exact⟨rfl,Nat.le_of_ble_eq_true rfl⟩|(simp;omega)) rfl) k):AOps P Y ops dr cf Q (x::r) ⟨v,m,n⟩ q:=h _ _ _ _ K
theorem Ks(K:AOps P Y ops dr cf Q r s (q++[e]))(h:SO P Y ops dr x v m n s e:=by intro _ _ _ _ k;exact bl rfl rfl (Qf rfl rfl) (fun hc=>⟨ak,V.h⟩) k):AOps P Y ops dr cf Q (x::r) ⟨v,m,n⟩ q:=h _ _ _ _ K
theorem Kt(K:AOps P Y ops dr cf Q r s (q++[e]))(h:SO P Y ops dr x v m n s e:=by intro _ _ _ _ k;exact aF (eL rfl (up_same _ _ _) V.h V.h rfl) ak (eM V.h V.h (by first|(simp;done)|omega|exact Nat.le_of_ble_eq_true rfl)) k):AOps P Y ops dr cf Q (x::r) ⟨v,m,n⟩ q:=h _ _ _ _ K
variable{x2 x3 x4 x5:Oper}{e2 e3 e4 e5:List Nat×List Nat}
def iM(P:Program)(Y:YSpec)(ops:Array Oper)(dr:Bool)(x x2:Oper)(v:Env)(m:Mem)(n:Nat)(s:St)(e e2:List Nat×List Nat):Prop:=
 ∀ cf Q r q,AOps P Y ops dr cf Q r s (q++[e]++[e2])->AOps P Y ops dr cf Q (x::x2::r) ⟨v,m,n⟩ q
def rP(P:Program)(Y:YSpec)(ops:Array Oper)(dr:Bool)(x x2 x3:Oper)(v:Env)(m:Mem)(n:Nat)(s:St)(e e2 e3:List Nat×List Nat):Prop:=
 ∀ cf Q r q,AOps P Y ops dr cf Q r s (q++[e]++[e2]++[e3])->AOps P Y ops dr cf Q (x::x2::x3::r) ⟨v,m,n⟩ q
def Gx(P:Program)(Y:YSpec)(ops:Array Oper)(dr:Bool)(x x2 x3 x4:Oper)(v:Env)(m:Mem)(n:Nat)(s:St)(e e2 e3 e4:List Nat×List Nat):Prop:=
 ∀ cf Q r q,AOps P Y ops dr cf Q r s (q++[e]++[e2]++[e3]++[e4])->AOps P Y ops dr cf Q (x::x2::x3::x4::r) ⟨v,m,n⟩ q
def LX(P:Program)(Y:YSpec)(ops:Array Oper)(dr:Bool)(x x2 x3 x4 x5:Oper)(v:Env)(m:Mem)(n:Nat)(s:St)(e e2 e3 e4 e5:List Nat×List Nat):Prop:=
 ∀ cf Q r q,AOps P Y ops dr cf Q r s (q++[e]++[e2]++[e3]++[e4]++[e5])->AOps P Y ops dr cf Q (x::x2::x3::x4::x5::r) ⟨v,m,n⟩ q
theorem bt(K:AOps P Y ops dr cf Q r s (q++[e]++[e2]))(h:iM P Y ops dr x x2 v m n s e e2:=by intro _ _ _ _ k;refine J7 ?_;exact J5 k):AOps P Y ops dr cf Q (x::x2::r) ⟨v,m,n⟩ q:=h _ _ _ _ K
theorem aG(K:AOps P Y ops dr cf Q r s (q++[e]++[e2]))(h:iM P Y ops dr x x2 v m n s e e2:=by intro _ _ _ _ k;refine J6 ?_;exact J4 k):AOps P Y ops dr cf Q (x::x2::r) ⟨v,m,n⟩ q:=h _ _ _ _ K
theorem ay(K:AOps P Y ops dr cf Q r s (q++[e]++[e2]))(h:iM P Y ops dr x x2 v m n s e e2:=by intro _ _ _ _ k;refine J8 ?_;exact J1 k):AOps P Y ops dr cf Q (x::x2::r) ⟨v,m,n⟩ q:=h _ _ _ _ K
theorem di(K:AOps P Y ops dr cf Q r s (q++[e]++[e2]))(h:iM P Y ops dr x x2 v m n s e e2:=by intro _ _ _ _ k;refine J9 ?_;exact J2 k):AOps P Y ops dr cf Q (x::x2::r) ⟨v,m,n⟩ q:=h _ _ _ _ K
theorem Wf(K:AOps P Y ops dr cf Q r s (q++[e]++[e2]))(h:iM P Y ops dr x x2 v m n s e e2:=by intro _ _ _ _ k;refine J0 ?_;exact Ah k):AOps P Y ops dr cf Q (x::x2::r) ⟨v,m,n⟩ q:=h _ _ _ _ K
theorem bd(K:AOps P Y ops dr cf Q r s (q++[e]++[e2]++[e3]))(h:rP P Y ops dr x x2 x3 v m n s e e2 e3:=by intro _ _ _ _ k;refine Wf ?_;exact J3 k):AOps P Y ops dr cf Q (x::x2::x3::r) ⟨v,m,n⟩ q:=h _ _ _ _ K
theorem o4(K:AOps P Y ops dr cf Q r s (q++[e]++[e2]))(h:iM P Y ops dr x x2 v m n s e e2:=by intro _ _ _ _ k;refine J19 ?_;exact J4 k):AOps P Y ops dr cf Q (x::x2::r) ⟨v,m,n⟩ q:=h _ _ _ _ K
theorem bD(K:AOps P Y ops dr cf Q r s (q++[e]++[e2]))(h:iM P Y ops dr x x2 v m n s e e2:=by intro _ _ _ _ k;refine J9 ?_;exact J1 k):AOps P Y ops dr cf Q (x::x2::r) ⟨v,m,n⟩ q:=h _ _ _ _ K
theorem dG(K:AOps P Y ops dr cf Q r s (q++[e]++[e2]++[e3]))(h:rP P Y ops dr x x2 x3 v m n s e e2 e3:=by intro _ _ _ _ k;refine aG ?_;exact iL k):AOps P Y ops dr cf Q (x::x2::x3::r) ⟨v,m,n⟩ q:=h _ _ _ _ K
theorem rK(K:AOps P Y ops dr cf Q r s (q++[e]++[e2]++[e3]))(h:rP P Y ops dr x x2 x3 v m n s e e2 e3:=by intro _ _ _ _ k;refine uH ?_;exact bt k):AOps P Y ops dr cf Q (x::x2::x3::r) ⟨v,m,n⟩ q:=h _ _ _ _ K
theorem gM(K:AOps P Y ops dr cf Q r s (q++[e]++[e2]++[e3]))(h:rP P Y ops dr x x2 x3 v m n s e e2 e3:=by intro _ _ _ _ k;refine J0 ?_;exact o4 k):AOps P Y ops dr cf Q (x::x2::x3::r) ⟨v,m,n⟩ q:=h _ _ _ _ K
theorem zO(K:AOps P Y ops dr cf Q r s (q++[e]++[e2]))(h:iM P Y ops dr x x2 v m n s e e2:=by intro _ _ _ _ k;refine J26 ?_;exact J5 k):AOps P Y ops dr cf Q (x::x2::r) ⟨v,m,n⟩ q:=h _ _ _ _ K
theorem cr(K:AOps P Y ops dr cf Q r s (q++[e]++[e2]))(h:iM P Y ops dr x x2 v m n s e e2:=by intro _ _ _ _ k;refine Ah ?_;exact J0 k):AOps P Y ops dr cf Q (x::x2::r) ⟨v,m,n⟩ q:=h _ _ _ _ K
theorem ct(K:AOps P Y ops dr cf Q r s (q++[e]++[e2]++[e3]))(h:rP P Y ops dr x x2 x3 v m n s e e2 e3:=by intro _ _ _ _ k;refine J2 ?_;exact bt k):AOps P Y ops dr cf Q (x::x2::x3::r) ⟨v,m,n⟩ q:=h _ _ _ _ K
theorem fB(K:AOps P Y ops dr cf Q r s (q++[e]++[e2]++[e3]))(h:rP P Y ops dr x x2 x3 v m n s e e2 e3:=by intro _ _ _ _ k;refine br ?_;exact zO k):AOps P Y ops dr cf Q (x::x2::x3::r) ⟨v,m,n⟩ q:=h _ _ _ _ K
theorem cL(K:AOps P Y ops dr cf Q r s (q++[e]++[e2]))(h:iM P Y ops dr x x2 v m n s e e2:=by intro _ _ _ _ k;refine bT ?_;exact J0 k):AOps P Y ops dr cf Q (x::x2::r) ⟨v,m,n⟩ q:=h _ _ _ _ K
theorem c6(K:AOps P Y ops dr cf Q r s (q++[e]++[e2]))(h:iM P Y ops dr x x2 v m n s e e2:=by intro _ _ _ _ k;refine dT ?_;exact ww k):AOps P Y ops dr cf Q (x::x2::r) ⟨v,m,n⟩ q:=h _ _ _ _ K
theorem jx(K:AOps P Y ops dr cf Q r s (q++[e]++[e2]++[e3]))(h:rP P Y ops dr x x2 x3 v m n s e e2 e3:=by intro _ _ _ _ k;refine dN ?_;exact di k):AOps P Y ops dr cf Q (x::x2::x3::r) ⟨v,m,n⟩ q:=h _ _ _ _ K
theorem dL(K:AOps P Y ops dr cf Q r s (q++[e]++[e2]))(h:iM P Y ops dr x x2 v m n s e e2:=by intro _ _ _ _ k;refine gl ?_;exact J2 k):AOps P Y ops dr cf Q (x::x2::r) ⟨v,m,n⟩ q:=h _ _ _ _ K
theorem lU(K:AOps P Y ops dr cf Q r s (q++[e]++[e2]))(h:iM P Y ops dr x x2 v m n s e e2:=by intro _ _ _ _ k;refine yz ?_;exact V3 k):AOps P Y ops dr cf Q (x::x2::r) ⟨v,m,n⟩ q:=h _ _ _ _ K
theorem dS(K:AOps P Y ops dr cf Q r s (q++[e]++[e2]++[e3]))(h:rP P Y ops dr x x2 x3 v m n s e e2 e3:=by intro _ _ _ _ k;refine qd ?_;exact bt k):AOps P Y ops dr cf Q (x::x2::x3::r) ⟨v,m,n⟩ q:=h _ _ _ _ K
theorem dY(K:AOps P Y ops dr cf Q r s (q++[e]++[e2]))(h:iM P Y ops dr x x2 v m n s e e2:=by intro _ _ _ _ k;refine cI ?_;exact J2 k):AOps P Y ops dr cf Q (x::x2::r) ⟨v,m,n⟩ q:=h _ _ _ _ K
theorem fc(K:AOps P Y ops dr cf Q r s (q++[e]++[e2]++[e3]++[e4]))(h:Gx P Y ops dr x x2 x3 x4 v m n s e e2 e3 e4:=by intro _ _ _ _ k;refine j4 ?_;exact gM k):AOps P Y ops dr cf Q (x::x2::x3::x4::r) ⟨v,m,n⟩ q:=h _ _ _ _ K
theorem fe(K:AOps P Y ops dr cf Q r s (q++[e]++[e2]++[e3]))(h:rP P Y ops dr x x2 x3 v m n s e e2 e3:=by intro _ _ _ _ k;refine bt ?_;exact j8 k):AOps P Y ops dr cf Q (x::x2::x3::r) ⟨v,m,n⟩ q:=h _ _ _ _ K
theorem fy(K:AOps P Y ops dr cf Q r s (q++[e]++[e2]))(h:iM P Y ops dr x x2 v m n s e e2:=by intro _ _ _ _ k;refine dT ?_;exact eV k):AOps P Y ops dr cf Q (x::x2::r) ⟨v,m,n⟩ q:=h _ _ _ _ K
theorem tN(K:AOps P Y ops dr cf Q r s (q++[e]++[e2]))(h:iM P Y ops dr x x2 v m n s e e2:=by intro _ _ _ _ k;refine j4 ?_;exact iL k):AOps P Y ops dr cf Q (x::x2::r) ⟨v,m,n⟩ q:=h _ _ _ _ K
theorem gD(K:AOps P Y ops dr cf Q r s (q++[e]++[e2]++[e3]++[e4]++[e5]))(h:LX P Y ops dr x x2 x3 x4 x5 v m n s e e2 e3 e4 e5:=by intro _ _ _ _ k;refine di ?_;exact rK k):AOps P Y ops dr cf Q (x::x2::x3::x4::x5::r) ⟨v,m,n⟩ q:=h _ _ _ _ K
theorem gL(K:AOps P Y ops dr cf Q r s (q++[e]++[e2]))(h:iM P Y ops dr x x2 v m n s e e2:=by intro _ _ _ _ k;refine J0 ?_;exact J0 k):AOps P Y ops dr cf Q (x::x2::r) ⟨v,m,n⟩ q:=h _ _ _ _ K
theorem gO(K:AOps P Y ops dr cf Q r s (q++[e]++[e2]++[e3]++[e4]))(h:Gx P Y ops dr x x2 x3 x4 v m n s e e2 e3 e4:=by intro _ _ _ _ k;refine J2 ?_;exact rK k):AOps P Y ops dr cf Q (x::x2::x3::x4::r) ⟨v,m,n⟩ q:=h _ _ _ _ K
theorem gZ(K:AOps P Y ops dr cf Q r s (q++[e]++[e2]))(h:iM P Y ops dr x x2 v m n s e e2:=by intro _ _ _ _ k;refine gl ?_;exact J1 k):AOps P Y ops dr cf Q (x::x2::r) ⟨v,m,n⟩ q:=h _ _ _ _ K
theorem g9(K:AOps P Y ops dr cf Q r s (q++[e]++[e2]++[e3]++[e4]++[e5]))(h:LX P Y ops dr x x2 x3 x4 x5 v m n s e e2 e3 e4 e5:=by intro _ _ _ _ k;refine lU ?_;exact jx k):AOps P Y ops dr cf Q (x::x2::x3::x4::x5::r) ⟨v,m,n⟩ q:=h _ _ _ _ K
theorem hC(K:AOps P Y ops dr cf Q r s (q++[e]++[e2]))(h:iM P Y ops dr x x2 v m n s e e2:=by intro _ _ _ _ k;refine wI ?_;exact J53 k):AOps P Y ops dr cf Q (x::x2::r) ⟨v,m,n⟩ q:=h _ _ _ _ K
theorem iF(K:AOps P Y ops dr cf Q r s (q++[e]++[e2]))(h:iM P Y ops dr x x2 v m n s e e2:=by intro _ _ _ _ k;refine J0 ?_;exact J3 k):AOps P Y ops dr cf Q (x::x2::r) ⟨v,m,n⟩ q:=h _ _ _ _ K
theorem iX(K:AOps P Y ops dr cf Q r s (q++[e]++[e2]))(h:iM P Y ops dr x x2 v m n s e e2:=by intro _ _ _ _ k;refine j4 ?_;exact J0 k):AOps P Y ops dr cf Q (x::x2::r) ⟨v,m,n⟩ q:=h _ _ _ _ K
theorem anH(K:AOps P Y ops dr cf Q r s (q++[e]++[e2]++[e3]++[e4]))(h:Gx P Y ops dr x x2 x3 x4 v m n s e e2 e3 e4:=by intro _ _ _ _ k;refine J0 ?_;exact dG k):AOps P Y ops dr cf Q (x::x2::x3::x4::r) ⟨v,m,n⟩ q:=h _ _ _ _ K
theorem jy(K:AOps P Y ops dr cf Q r s (q++[e]++[e2]++[e3]++[e4]++[e5]))(h:LX P Y ops dr x x2 x3 x4 x5 v m n s e e2 e3 e4 e5:=by intro _ _ _ _ k;refine anH ?_;exact bB k):AOps P Y ops dr cf Q (x::x2::x3::x4::x5::r) ⟨v,m,n⟩ q:=h _ _ _ _ K
theorem jz(K:AOps P Y ops dr cf Q r s (q++[e]++[e2]++[e3]++[e4]))(h:Gx P Y ops dr x x2 x3 x4 v m n s e e2 e3 e4:=by intro _ _ _ _ k;refine s8 ?_;exact fB k):AOps P Y ops dr cf Q (x::x2::x3::x4::r) ⟨v,m,n⟩ q:=h _ _ _ _ K
theorem jU(K:AOps P Y ops dr cf Q r s (q++[e]++[e2]))(h:iM P Y ops dr x x2 v m n s e e2:=by intro _ _ _ _ k;refine J2 ?_;exact br k):AOps P Y ops dr cf Q (x::x2::r) ⟨v,m,n⟩ q:=h _ _ _ _ K
theorem kB(K:AOps P Y ops dr cf Q r s (q++[e]++[e2]++[e3]))(h:rP P Y ops dr x x2 x3 v m n s e e2 e3:=by intro _ _ _ _ k;refine J0 ?_;exact tN k):AOps P Y ops dr cf Q (x::x2::x3::r) ⟨v,m,n⟩ q:=h _ _ _ _ K
theorem lb(K:AOps P Y ops dr cf Q r s (q++[e]++[e2]++[e3]))(h:rP P Y ops dr x x2 x3 v m n s e e2 e3:=by intro _ _ _ _ k;refine m8 ?_;exact di k):AOps P Y ops dr cf Q (x::x2::x3::r) ⟨v,m,n⟩ q:=h _ _ _ _ K
variable{rf:Bool}{W:Exit->St->Prop}{o:Array Oper}{B:Code}{i:Nat}{k:St}
theorem ws[dR Y](h:AOps P Y o false [] (fS fun k=>AW P Y rf B W k) o.toList k []):AW P Y rf (.seq (.region i o false) B) W k:=ag h
theorem er[dR Y](h:AOps P Y o false [] (fS fun k=>AW P Y rf B W k) o.toList k []):AOps P Y ops dr [] (fS fun k=>AW P Y rf (.seq (.region i o false) B) W k) [] k q:=ab (ag h)
end
end Go.Abs
theorem eH{p:Prop}(h:p:=by repeat' (first|exact trivial|exact rfl|refine And.intro ?_ ?_)):p:=h
namespace Go.Proofs.Tryz.K
open Go.Abs
instance atV:V (prog.cellsOf 1) (1):=⟨c1⟩
instance atW:V (aggP prog 1) (false):=⟨a1⟩
instance atX:V (tyOk prog 1) (true):=⟨t1⟩
instance atY:V (prog.bytesOf 1) (8):=⟨b1⟩
instance atZ:V (prog.cellsOf 2) (1):=⟨c2⟩
instance at0:V (prog.bytesOf 2) (8):=⟨b2⟩
instance at1:V (aggP prog 2) (false):=⟨a2⟩
instance at2:V (tyOk prog 2) (true):=⟨t2⟩
instance at3:V (prog.cellsOf 3) (1):=⟨c3⟩
instance at4:V (prog.bytesOf 3) (8):=⟨b3⟩
instance at5:V (aggP prog 3) (false):=⟨a3⟩
instance at6:V (tyOk prog 3) (true):=⟨t3⟩
instance at7:V (zeroP prog 3) ([.s (.int .i64 0)]):=⟨z3⟩
instance at8:V (prog.cellsOf 4) (1):=⟨c4⟩
instance at9:V (prog.bytesOf 4) (1):=⟨b4⟩
instance aua:V (aggP prog 4) (false):=⟨a4⟩
instance aub:V (tyOk prog 4) (true):=⟨t4⟩
instance auc:V (zeroP prog 4) ([.s (.bool false)]):=⟨z4⟩
instance asC:V (boT prog 4) (true):=⟨bo4⟩
instance aud:V (prog.cellsOf 5) (1):=⟨c5⟩
instance aue:V (prog.bytesOf 5) (1):=⟨b5⟩
instance auf:V (aggP prog 5) (false):=⟨a5⟩
instance aug:V (tyOk prog 5) (true):=⟨t5⟩
instance auh:V (zeroP prog 5) ([.s (.int .u8 0)]):=⟨z5⟩
instance aui:V (prog.bytesOf 6) (1):=⟨b6⟩
instance auj:V (aggP prog 6) (false):=⟨a6⟩
instance auk:V (prog.cellsOf 9) (1):=⟨c9⟩
instance aul:V (aggP prog 9) (false):=⟨a9⟩
instance aum:V (tyOk prog 9) (true):=⟨t9⟩
instance asD:V (stT prog 9) (true):=⟨st9⟩
instance asE:V (elemP prog 15) (275):=⟨Dg⟩
instance asF:V (elemP prog 16) (278):=⟨Dh⟩
instance asG:V (elemP prog 17) (287):=⟨Df⟩
instance asH:V (prog.cellsOf 22) (1):=⟨c22⟩
instance asI:V (aggP prog 22) (false):=⟨a22⟩
instance asJ:V (tyOk prog 22) (true):=⟨t22⟩
instance asK:V (elemP prog 22) (5):=⟨Wb⟩
instance arE:V (slT prog 22) (true):=⟨UG⟩
instance asL:V (prog.cellsOf 23) (1):=⟨c23⟩
instance asM:V (aggP prog 23) (false):=⟨a23⟩
instance asN:V (tyOk prog 23) (true):=⟨t23⟩
instance asO:V (elemP prog 23) (9):=⟨e23⟩
instance arF:V (slT prog 23) (true):=⟨al8⟩
instance asP:V (prog.cellsOf 24) (1):=⟨c24⟩
instance asQ:V (aggP prog 24) (false):=⟨a24⟩
instance asR:V (tyOk prog 24) (true):=⟨t24⟩
instance asS:V (elemP prog 24) (72):=⟨e24⟩
instance arG:V (slT prog 24) (true):=⟨al9⟩
instance asT:V (prog.cellsOf 26) (8):=⟨c26⟩
instance asU:V (aggP prog 26) (true):=⟨a26⟩
instance asV:V (tyOk prog 26) (true):=⟨t26⟩
instance asW:V (zeroP prog 26) ([.s (.string "".toUTF8),.s (.bool false),.s (.int .i64 0),.s (.int .u8 0),.z,.z,.z,.z]):=⟨z26⟩
instance aqQ:V (fieldP prog 26 0) (some (0,9)):=⟨ahT⟩
instance aqR:V (fieldP prog 26 1) (some (1,4)):=⟨ahU⟩
instance aqS:V (fieldP prog 26 2) (some (2,3)):=⟨ahV⟩
instance aqT:V (fieldP prog 26 3) (some (3,5)):=⟨ahW⟩
instance aqU:V (fieldP prog 26 4) (some (4,22)):=⟨ahX⟩
instance aqV:V (fieldP prog 26 5) (some (5,22)):=⟨ahY⟩
instance aqW:V (fieldP prog 26 6) (some (6,23)):=⟨ahZ⟩
instance aqX:V (fieldP prog 26 7) (some (7,24)):=⟨ah0⟩
instance asX:V (prog.cellsOf 27) (1):=⟨Ao⟩
instance asY:V (prog.bytesOf 27) (24):=⟨WY⟩
instance asZ:V (aggP prog 27) (false):=⟨a27⟩
instance as0:V (tyOk prog 27) (true):=⟨t27⟩
instance as1:V (zeroP prog 27) ([.z]):=⟨z27⟩
instance as2:V (elemP prog 27) (3):=⟨De⟩
instance arH:V (slT prog 27) (true):=⟨Cj⟩
instance as3:V (prog.cellsOf 28) (1):=⟨c28⟩
instance as4:V (aggP prog 28) (false):=⟨a28⟩
instance as5:V (tyOk prog 28) (true):=⟨t28⟩
instance as6:V (elemP prog 28) (27):=⟨e28⟩
instance arI:V (slT prog 28) (true):=⟨al'⟩
instance as7:V (prog.cellsOf 52) (1):=⟨WV⟩
instance as8:V (prog.bytesOf 52) (24):=⟨WU⟩
instance as9:V (aggP prog 52) (false):=⟨a52⟩
instance as':V (tyOk prog 52) (true):=⟨t52⟩
instance ata:V (zeroP prog 52) ([.z]):=⟨z52⟩
instance atb:V (elemP prog 52) (4):=⟨e52⟩
instance arJ:V (slT prog 52) (true):=⟨ama⟩
instance atc:V (prog.cellsOf 66) (6):=⟨c66⟩
instance atd:V (aggP prog 66) (true):=⟨a66⟩
instance ate:V (tyOk prog 66) (true):=⟨t66⟩
instance atf:V (zeroP prog 66) ([.s (.int .u8 0),.s (.int .i64 0),.s (.int .i64 0),.s (.int .i64 0),.s (.int .i64 0),.z]):=⟨z66⟩
instance aqY:V (fieldP prog 66 0) (some (0,5)):=⟨ah1⟩
instance aqZ:V (fieldP prog 66 1) (some (1,3)):=⟨ah2⟩
instance aq0:V (fieldP prog 66 2) (some (2,3)):=⟨ah3⟩
instance aq1:V (fieldP prog 66 3) (some (3,3)):=⟨ah4⟩
instance aq2:V (fieldP prog 66 4) (some (4,3)):=⟨ah5⟩
instance aq3:V (fieldP prog 66 5) (some (5,27)):=⟨ah6⟩
instance atg:V (prog.cellsOf 67) (1):=⟨c67⟩
instance ath:V (aggP prog 67) (false):=⟨a67⟩
instance ati:V (tyOk prog 67) (true):=⟨t67⟩
instance atj:V (elemP prog 67) (199):=⟨e67⟩
instance arK:V (slT prog 67) (true):=⟨amb⟩
instance atk:V (prog.cellsOf 69) (15):=⟨c69⟩
instance atl:V (aggP prog 69) (true):=⟨a69⟩
instance atm:V (tyOk prog 69) (true):=⟨t69⟩
instance atn:V (zeroP prog 69) ([.s (.int .u8 0),.s (.int .i64 0),.s (.int .i64 0),.s (.int .i64 0),.s (.int .i64 0),.s (.string "".toUTF8),.s (.int .u8 0),.s (.int .i64 0),.s (.int .i64 0),.s (.int .i64 0),.s (.int .i64 0),.z,.z,.z,.s (.int .i64 0)]):=⟨z69⟩
instance aq4:V (fieldP prog 69 0) (some (0,5)):=⟨ah7⟩
instance aq5:V (fieldP prog 69 1) (some (1,3)):=⟨ah8⟩
instance aq6:V (fieldP prog 69 2) (some (2,3)):=⟨ah9⟩
instance aq7:V (fieldP prog 69 3) (some (3,3)):=⟨ah'⟩
instance aq8:V (fieldP prog 69 4) (some (4,3)):=⟨aia⟩
instance aq9:V (fieldP prog 69 5) (some (5,9)):=⟨aib⟩
instance aq':V (fieldP prog 69 6) (some (6,66)):=⟨aic⟩
instance ara:V (fieldP prog 69 7) (some (12,27)):=⟨aid⟩
instance arb:V (fieldP prog 69 8) (some (13,67)):=⟨aie⟩
instance arc:V (fieldP prog 69 9) (some (14,3)):=⟨aif⟩
instance ato:V (prog.cellsOf 70) (1):=⟨c70⟩
instance atp:V (aggP prog 70) (false):=⟨a70⟩
instance atq:V (tyOk prog 70) (true):=⟨t70⟩
instance atr:V (elemP prog 70) (66):=⟨e70⟩
instance arL:V (slT prog 70) (true):=⟨amc⟩
instance ats:V (prog.cellsOf 72) (16):=⟨c72⟩
instance att:V (aggP prog 72) (true):=⟨a72⟩
instance atu:V (tyOk prog 72) (true):=⟨t72⟩
instance atv:V (zeroP prog 72) ([.z,.s (.int .u8 0),.s (.int .i64 0),.s (.int .i64 0),.s (.int .i64 0),.s (.int .i64 0),.s (.string "".toUTF8),.s (.int .u8 0),.s (.int .i64 0),.s (.int .i64 0),.s (.int .i64 0),.s (.int .i64 0),.z,.z,.z,.s (.int .i64 0)]):=⟨z72⟩
instance ard:V (fieldP prog 72 0) (some (0,70)):=⟨aih⟩
instance are:V (fieldP prog 72 1) (some (1,69)):=⟨aii⟩
instance atw:V (prog.cellsOf 79) (1):=⟨c79⟩
instance atx:V (aggP prog 79) (false):=⟨a79⟩
instance aty:V (tyOk prog 79) (true):=⟨t79⟩
instance atz:V (tyOk prog 89) (true):=⟨t89⟩
instance atA:V (zeroP prog 89) ([.s (.string "".toUTF8),.s (.bool false),.s (.int .i64 0),.s (.int .u8 0),.z,.z,.z,.z,.z,.z,.z]):=⟨z89⟩
instance arf:V (fieldP prog 89 0) (some (0,26)):=⟨aij⟩
instance arh:V (fieldP prog 89 1) (some (8,28)):=⟨aik⟩
instance ari:V (fieldP prog 89 2) (some (9,28)):=⟨ail⟩
instance arj:V (fieldP prog 89 3) (some (10,52)):=⟨aim⟩
instance atB:V (prog.cellsOf 98) (1):=⟨c98⟩
instance atC:V (aggP prog 98) (false):=⟨a98⟩
instance atD:V (tyOk prog 98) (true):=⟨t98⟩
instance arM:V (elemP prog 102) (52):=⟨amd⟩
instance ark:V (slT prog 102) (true):=⟨ain⟩
instance arN:V (prog.cellsOf 128) (1):=⟨ame⟩
instance arO:V (aggP prog 128) (false):=⟨amf⟩
instance arP:V (tyOk prog 128) (true):=⟨t128⟩
instance arQ:V (zeroP prog 128) ([.s .nilFunc]):=⟨amg⟩
instance arR:V (prog.cellsOf 131) (1):=⟨amh⟩
instance arS:V (aggP prog 131) (false):=⟨ami⟩
instance arU:V (tyOk prog 131) (true):=⟨t131⟩
instance arV:V (prog.cellsOf 133) (10):=⟨Vd⟩
instance arW:V (aggP prog 133) (true):=⟨Vc⟩
instance arX:V (tyOk prog 133) (true):=⟨t133⟩
instance arY:V (zeroP prog 133) ([.s (.string "".toUTF8),.s (.bool false),.s (.int .i64 0),.s (.int .u8 0),.z,.z,.z,.z,.s (.map none),.s (.map none)]):=⟨amj⟩
instance aqA:V (fieldP prog 133 0) (some (0,26)):=⟨acv⟩
instance aqB:V (fieldP prog 133 1) (some (8,131)):=⟨acw⟩
instance aqC:V (fieldP prog 133 2) (some (9,131)):=⟨acx⟩
instance arZ:V (elemP prog 155) (158):=⟨amk⟩
instance arl:V (slT prog 155) (true):=⟨aio⟩
instance ar0:V (prog.cellsOf 158) (2):=⟨ld⟩
instance ar1:V (prog.bytesOf 158) (32):=⟨Vj⟩
instance ar2:V (aggP prog 158) (true):=⟨q7⟩
instance ar3:V (tyOk prog 158) (true):=⟨t158⟩
instance ar4:V (zeroP prog 158) ([.s (.bool false),.z]):=⟨aml⟩
instance aqD:V (fieldP prog 158 0) (some (0,4)):=⟨acy⟩
instance aqE:V (fieldP prog 158 1) (some (1,52)):=⟨acz⟩
instance ar5:V (prog.cellsOf 199) (2):=⟨amm⟩
instance ar6:V (aggP prog 199) (true):=⟨amn⟩
instance ar7:V (tyOk prog 199) (true):=⟨t199⟩
instance ar8:V (zeroP prog 199) ([.s (.string "".toUTF8),.s (.int .i64 0)]):=⟨amo⟩
instance aqF:V (fieldP prog 199 0) (some (0,9)):=⟨acA⟩
instance aqG:V (fieldP prog 199 1) (some (1,3)):=⟨acB⟩
instance ar9:V (prog.cellsOf 205) (6):=⟨amp⟩
instance ar':V (aggP prog 205) (true):=⟨Ko⟩
instance asa:V (tyOk prog 205) (true):=⟨t205⟩
instance asb:V (zeroP prog 205) ([.s (.int .i64 0),.s (.int .i64 0),.s (.int .i64 0),.s (.int .i64 0),.s (.int .i64 0),.s (.int .i64 0)]):=⟨Kp⟩
instance aqH:V (fieldP prog 205 0) (some (0,3)):=⟨acC⟩
instance aqI:V (fieldP prog 205 1) (some (1,3)):=⟨acD⟩
instance aqJ:V (fieldP prog 205 2) (some (2,3)):=⟨acE⟩
instance aqK:V (fieldP prog 205 3) (some (3,3)):=⟨acF⟩
instance aqL:V (fieldP prog 205 4) (some (4,3)):=⟨acG⟩
instance aqM:V (fieldP prog 205 5) (some (5,3)):=⟨acH⟩
instance asc:V (prog.cellsOf 208) (9):=⟨amq⟩
instance asd:V (aggP prog 208) (true):=⟨amr⟩
instance ase:V (tyOk prog 208) (true):=⟨t208⟩
instance asf:V (zeroP prog 208) ([.s (.string "".toUTF8),.s (.bool false),.s (.int .i64 0),.s (.int .u8 0),.z,.z,.z,.z,.z]):=⟨ams⟩
instance aqN:V (fieldP prog 208 0) (some (0,26)):=⟨acI⟩
instance aqO:V (fieldP prog 208 1) (some (8,28)):=⟨acJ⟩
instance asg:V (elemP prog 227) (231):=⟨amt⟩
instance arm:V (slT prog 227) (true):=⟨aip⟩
instance ash:V (prog.cellsOf 231) (20):=⟨qV⟩
instance asi:V (prog.bytesOf 231) (160):=⟨Uy⟩
instance asj:V (aggP prog 231) (true):=⟨tP⟩
instance asl:V (tyOk prog 231) (true):=⟨t231⟩
instance asm:V (zeroP prog 231) ([.s (.int .u64 0),.s (.int .u64 0),.s (.int .u64 0),.s (.int .u64 0),.s (.int .u64 0),.s (.int .u64 0),.s (.int .u64 0),.s (.int .u64 0),.s (.int .u64 0),.s (.int .u64 0),.s (.int .u64 0),.s (.int .u64 0),.s (.int .u64 0),.s (.int .u64 0),.s (.int .u64 0),.s (.int .u64 0),.s (.int .u64 0),.s (.int .u64 0),.s (.int .u64 0),.s (.int .u64 0)]):=⟨Ux⟩
instance asn:V (elemP prog 231) (98):=⟨amu⟩
instance arn:V (arT prog 231) (true):=⟨aiq⟩
instance aso:V (lenP prog 231) (20):=⟨amv⟩
instance aun:V (prog.underlying 8) (some (.struct (dX prog 8))):=⟨u8⟩
instance atE:V (prog.underlying 22) (some (.slice 5)):=⟨u22⟩
instance atF:V (prog.underlying 66) (some (.struct (dX prog 66))):=⟨u66⟩
instance asp:V (((dX prog 66).toList.map fun f=>(f.offset,prog.cellsOf f.type))) ([(0,1),(1,1),(2,1),(3,1),(4,1),(5,1)]):=⟨amw⟩
instance asq:V (((dX prog 66).toList.all fun f=>(prog.info? f.type).isSome)) (true):=⟨amx⟩
instance atG:V (prog.underlying 89) (some (.struct (dX prog 89))):=⟨u89⟩
instance asr:V (((dX prog 89).toList.map fun f=>(f.offset,prog.cellsOf f.type))) ([(0,8),(8,1),(9,1),(10,1)]):=⟨amy⟩
instance ass:V (((dX prog 89).toList.all fun f=>(prog.info? f.type).isSome)) (true):=⟨amz⟩
instance aro:V (mkeyP prog 127) (3):=⟨IX⟩
instance arp:V (mapT prog 127) (true):=⟨IY⟩
instance arq:V (mkeyP prog 131) (5):=⟨air⟩
instance arr:V (mapT prog 131) (true):=⟨ais⟩
instance ars:V (melP prog 131) (205):=⟨I8⟩
instance ast:V (prog.underlying 133) (some (.struct (dX prog 133))):=⟨amA⟩
instance art:V (((dX prog 133).toList.map fun f=>(f.offset,prog.cellsOf f.type))) ([(0,8),(8,1),(9,1)]):=⟨ait⟩
instance aru:V (((dX prog 133).toList.all fun f=>(prog.info? f.type).isSome)) (true):=⟨aiu⟩
instance asu:V (prog.underlying 158) (some (.struct (dX prog 158))):=⟨amB⟩
instance arv:V (((dX prog 158).toList.map fun f=>(f.offset,prog.cellsOf f.type))) ([(0,1),(1,1)]):=⟨aiv⟩
instance arw:V (((dX prog 158).toList.all fun f=>(prog.info? f.type).isSome)) (true):=⟨aiw⟩
instance asv:V (prog.underlying 205) (some (.struct (dX prog 205))):=⟨amC⟩
instance arx:V (((dX prog 205).toList.map fun f=>(f.offset,prog.cellsOf f.type))) ([(0,1),(1,1),(2,1),(3,1),(4,1),(5,1)]):=⟨aix⟩
instance ary:V (((dX prog 205).toList.all fun f=>(prog.info? f.type).isSome)) (true):=⟨aiy⟩
instance asw:V (prog.underlying 208) (some (.struct (dX prog 208))):=⟨amD⟩
instance arz:V (((dX prog 208).toList.map fun f=>(f.offset,prog.cellsOf f.type))) ([(0,8),(8,1)]):=⟨aiz⟩
instance arA:V (((dX prog 208).toList.all fun f=>(prog.info? f.type).isSome)) (true):=⟨aiA⟩
instance auo:V (prog.underlying 2) (some (.int .i64)):=⟨u2⟩
instance aup:V (prog.underlying 3) (some (.int .i64)):=⟨u3⟩
instance auq:V (prog.underlying 5) (some (.int .u8)):=⟨u5⟩
instance asx:V (prog.underlying 189) (some (.int .u64)):=⟨amE⟩
end Go.Proofs.Tryz.K
namespace Go.Abs
open Go.ChangeShapes Go.WideShapes
inductive zc:List Sh->List D->Prop
 |nil:zc [] []
 |cons {s:Sh} {l:List Sh} {ds:List D} (x:s.val) (hx:s.ok x) (h:zc l ds):zc (s::l) (s.arg x::ds)
def vY(P:Program)(n:Nat):List TypeId->Option (List Sh)
 |[]=>some []
 |t::ts=>match shT P n t,vY P n ts with
  |some s,some l=>some (s::l)
  |_,_=>none
theorem Zx{P:Program}{n:Nat}{t:TypeId}{ts:List TypeId}{l:List Sh}(h:vY P n (t::ts)=some l):∃ s l',shT P n t=some s/\vY P n ts=some l'/\l=s::l':=by
 simp only[vY] at h
 split at h
 .rename_i s l' h1 h2
  simp only[Option.some.injEq] at h
  exact⟨s,l',h1,h2,h.symm⟩
 .cases h
section
variable{P:Program}{H:Type}{ec:TypeId×Value->H}{w w':World}{base b0:Nat}{r:Reach}
theorem R5{n:Nat}:∀ {ts:List TypeId} {yG:List Sh} {vs:List Value} {ds:List (DataW H)} {ps:List MemPlace},vY P n ts=some yG->
 (∀ (j:Nat) t v,ts[j]? =some t->vs[j]? =some v->Value.okWide P w r b0 t v)->DataW.TrodAll ec P w base (fun _=>true) true ts vs ds ps->
 ∃ aS,zc yG aS/\aS.length=vs.length/\∀ (k:Nat) (d:D) (v:Value),aS[k]? =some d->vs[k]? =some v->R (fun _=>False) noRows w d v
 |[],yG,[],[],_,hs,_,_=>by
  simp only[vY,Option.some.injEq] at hs
  subst hs
  exact⟨[],.nil,rfl,by simp⟩
 |t::ts,yG,v::vs,d::ds,ps,hs,bQ,h=>by
  obtain⟨p,q,h1,h2,_⟩:=h
  obtain⟨s,l',g1,g2,rfl⟩:=Zx hs
  obtain⟨x,iy,hx⟩:=arg_R g1 (bQ 0 t v rfl rfl) h1
  obtain⟨aS,a1,a2,a3⟩:=R5 g2 (fun j t v hj hv=>bQ (j+1) t v (by simpa using hj) (by simpa using hv)) h2
  refine⟨s.arg x::aS,.cons x iy a1,by simp[a2],fun k d v hd hv=>?_⟩
  cases k with
  |zero=>
   simp only[List.getElem?_cons_zero,Option.some.injEq] at hd hv
   subst hd hv
   exact hx
  |succ k=>exact a3 k d v (by simpa using hd) (by simpa using hv)
 |[],_,_::_,_,_,_,_,h=>by simp[DataW.TrodAll] at h
 |[],_,[],_::_,_,_,_,h=>by simp[DataW.TrodAll] at h
 |_::_,_,[],_,_,_,_,h=>by simp[DataW.TrodAll] at h
 |_::_,_,_::_,[],_,_,_,h=>by simp[DataW.TrodAll] at h
theorem Kept.same(h:Kept w w'){p:MemPlace}(hp:p.block<w.heap.size):w.sameAt w' p:=by
 cases p with
 |cell b o=>exact Go.World.cell?_of_block (w:=w) (h.2.1 b hp)
 |map b=>exact h.2.1 b hp
theorem Kept.frame(h:Kept w w')(may:MemPlace->Prop):w.keptBut w' may:=by
 refine⟨h.2.2.1,h.2.2.2,fun i hi=>?_⟩
 rw[h.2.1 i hi]
 split<;>simp_all
theorem L1(hl:laidOutB P=true)(h:Kept w w'):∀ {ts:List TypeId} {vs:List Value} {ds:List (DataW H)} {ps:List MemPlace},(ts.all fun t=>P.readableRec t&&decide (t<P.types.size))=true->
 DataW.TrodAll ec P w 0 (fun _=>true) true ts vs ds ps->DataW.TrodAll ec P w' 0 (fun b=>decide (b<w.heap.size)) true ts vs ds ps
 |[],[],[],_,_,h0=>h0
 |t::ts,v::vs,d::ds,ps,ht,h0=>by
  obtain⟨p,q,h1,h2,rfl⟩:=h0
  simp only[List.all_cons,Bool.and_eq_true,decide_eq_true_eq] at ht
  have aj:∀ x∈p,x.block<w.heap.size:=by obtain⟨m,hm⟩:=h1;exact DataW.trod_lt m _ _ _ hm
  exact⟨p,q,WideElems.Trod_stays hl ht.1.1 ht.1.2 h1 (fun x hx=>h.same (aj x hx)) (fun x hx=>by simpa using aj x hx),L1 hl h (by simpa using ht.2) h2,rfl⟩
 |[],_::_,_,_,_,h0=>by simp[DataW.TrodAll] at h0
 |[],[],_::_,_,_,h0=>by simp[DataW.TrodAll] at h0
 |_::_,[],_,_,_,h0=>by simp[DataW.TrodAll] at h0
 |_::_,_::_,[],_,_,h0=>by simp[DataW.TrodAll] at h0
theorem Mf:∀ {ts:List TypeId} {vs:List Value} {ds:List (DataW H)} {ps:List MemPlace},DataW.TrodAll ec P w 0 (fun _=>true) true ts vs ds ps->ds.length=ts.length
 |[],[],[],_,_=>rfl
 |t::ts,v::vs,d::ds,ps,h0=>by
  obtain⟨p,q,h1,h2,rfl⟩:=h0
  simp[Mf h2]
 |[],_::_,_,_,h0=>by simp[DataW.TrodAll] at h0
 |[],[],_::_,_,h0=>by simp[DataW.TrodAll] at h0
 |_::_,[],_,_,h0=>by simp[DataW.TrodAll] at h0
 |_::_,_::_,[],_,h0=>by simp[DataW.TrodAll] at h0
end
theorem Xs{C:Checked}{f:FuncId}{fn:Func}{s:ChangeSpec}{H:Type}{ec:TypeId×Value->H}{n:Nat}{yG:List Sh}{tb:TypeId}
 (T6:s.vars=[]) (hs:∀ ds:List (DataW H),ds.length=fn.params.size->s.fn H ds={ results:=[.lit (.bool true)],args:=ds })
 (ajP:laidOutB C.prog=true) (ajQ:(fn.params.toList.all fun t=>C.prog.readableRec t&&decide (t<C.prog.types.size))=true) (fR:fn.resultTypes= #[tb]) (hb:C.prog.underlying tb=some .bool)
 (hsh:vY C.prog n fn.params.toList=some yG) (h:∀ aS,zc yG aS->PCall C.prog f aS (.s (.bool true)))
 (W:World) (base:Nat) (args:Array Value) (ds gs:List (DataW H)) (before:List MemPlace)
 (Cs:∀ (j:Nat) t v,fn.params[j]? =some t->args[j]? =some v->Value.okWide C.prog W .any base t v)
 (hW:DataW.Whole ec C.prog fn.params.toList s.vars false W args.toList ds gs before):
 Calls C.prog f args W fun e W'=>∃ v,e=.returned v/\s.post ec C.prog fn false true false false W args v W':=by
 have hW':=hW
 obtain⟨p,q,hA,hV,rfl,hfz,dA⟩:=hW
 rw[T6] at hV
 have hg:gs=[]/\q=[]:=by
  cases gs with
  |nil=>exact⟨rfl,hV⟩
  |cons g gs=>exact hV.elim
 obtain⟨rfl,rfl⟩:=hg
 obtain⟨aS,a1,a2,a3⟩:=R5 hsh (fun j t v hj hv=>Cs j t v (by simpa using hj) (by simpa using hv)) hA
 refine((h aS a1).2.2 (fun _=>False) W args (fun _ hf=>hf.elim) ⟨by simpa using a2.symm,fun k d v hd hv=>a3 k d v hd (by simpa using hv)⟩).mono ?_
 rintro e W' ⟨v,rfl,hv,hk⟩
 obtain⟨rfl,_⟩:=hv.s_inv
 have hlen:ds.length=fn.params.size:=by simpa using Mf hA
 refine⟨_,rfl,ds,[],_,[],p,[],hW',?_,?_,?_,hk.frame _,fun h=>by cases h⟩
 .rw[List.append_nil,hs ds hlen,fR]
  exact⟨[],[],⟨1,by simp[DataW.trod,Value.cells,hb]⟩,rfl,rfl⟩
 .rw[List.append_nil,hs ds hlen]
  exact L1 ajP hk ajQ hA
 .rw[List.append_nil,hs ds hlen,T6]
  rfl
end Go.Abs
section
open Go Go.Abs Go.Proofs Go.Argus
namespace Go.Proofs.Tryz.K
set_option maxRecDepth 10000
theorem Jt{l:List Int}{g:FuncId}{fs cs:List D}{p:Int->Bool}(ht:Tr (.fn (.func g) fs cs))(hg:∀ x∈l,PCall prog g (fs++[U8 x]++cs) (B (p x))):PCall prog 252 [jF l,.fn (.func g) fs cs] (I (pP p l)):=by
 refine pw IS.he (.cons (pA _) (.cons ht .nil)) fun gW=>?_
 have hlen:=(gW (jF l) (by simp)).sl.1
 unfold maxLen at hlen
 refine aY mixed IS (by rw[adg];rfl) (.cons (pA _) (.cons ht .nil)) (Tr.s _) ?_
 rw[adh,adi]
 refine ws ?_;refine J3 ?_
 refine ab (aC (aq ?_))
 refine tN ?_;refine J0 ?_
 refine ab (bM (fun s=>Ghost prog s ⟨ax [],fun _=>none,0⟩/\∀ (j:Nat) y,l[j]? =some y->p y=false) (eX (α:=Nat) (fun k=>⟨ax [(0,jF l),(1,.fn (.func g) fs cs),(7,I l.length),(8,I k)],fun _=>none,0⟩)
  (fun k=>k<=l.length/\∀ j y,j<k->l[j]? =some y->p y=false) (fun k=>l.length - k) 0 (ao eH) ⟨by omega,fun j y hj=>by omega⟩ ?_) ?_)
 .rintro k ⟨hk,hinv⟩
  refine bB ?_
  refine ab ⟨_,rfl,fun h=>?_,fun h=>?_⟩
  .have aj:k<l.length:=by simpa using h
   have hx:l[k]? =some l[k]:=by simp[aj]
   generalize l[k]=x at hx
   have kc:=hg x (List.mem_of_getElem? hx)
   refine ws ?_;refine iF ?_;refine er ?_;refine mW ?_;refine fc ?_;refine cl kc ?_
   refine ab (al rfl (fun hp=>?_) fun hp=>?_)
   .refine ws ?_;refine iF ?_
    refine ab (aO (cm (aM (ap rfl ?_))))
    rw[DI hx hp hinv]
    rfl
   .refine cx ?_
    refine cr ?_
    refine ab (aK (k+1) (ao eH) ⟨by omega,fun j y hj hy=>?_⟩ oG)
    by_cases e:j=k
    .subst e;rw[hx] at hy;cases hy;exact hp
    .exact hinv j y oG hy
  .have aZ:¬ k<l.length:=by simpa using h
   exact⟨.forget _ _ _ _ fun _=>.inr rfl,fun j y hy=>hinv j y (by have:=(List.getElem?_eq_some_iff.1 hy).1;omega) hy⟩
 .rintro s ⟨hg,jO⟩
  refine⟨_,hg,ag ?_⟩
  refine J3 ?_
  refine ab (ap rfl ?_)
  rw[DJ jO]
  rfl
theorem tO{l:List Int}{g:FuncId}{fs cs:List D}{p:Int->Bool}(ht:Tr (.fn (.func g) fs cs))(hg:∀ x∈l,PCall prog g (fs++[U8 x]++cs) (B (p x))):PCall prog 228 [jF l,.fn (.func g) fs cs] (B (l.any p)):=by
 have Jt:=Jt ht hg
 refine aY mixed Sl (by rw[adj];rfl) (.cons (pA _) (.cons ht .nil)) (Tr.s _) ?_
 rw[adk,adl]
 refine ws ?_;refine J1 ?_;refine er ?_;refine j4 ?_;refine mW ?_;refine cl Jt ?_;refine rB ?_;refine J1 ?_
 refine ab (ap rfl ?_)
 rw[<- DY]
 rfl
theorem Ju{l:List ByteArray}{g:FuncId}{fs cs:List D}{p:ByteArray->Bool}(ht:Tr (.fn (.func g) fs cs))(hg:∀ x∈l,PCall prog g (fs++[S x]++cs) (B (p x))):PCall prog 231 [pD l,.fn (.func g) fs cs] (I (pP p l)):=by
 refine pw IT.he (.cons (w7 _) (.cons ht .nil)) fun gW=>?_
 have hlen:=(gW (pD l) (by simp)).sl.1
 unfold maxLen at hlen
 refine aY mixed IT (by rw[adm];rfl) (.cons (w7 _) (.cons ht .nil)) (Tr.s _) ?_
 rw[adn,ado]
 refine ws ?_;refine J3 ?_
 refine ab (aC (aq ?_))
 refine tN ?_;refine J0 ?_
 refine ab (bM (fun s=>Ghost prog s ⟨ax [],fun _=>none,0⟩/\∀ (j:Nat) y,l[j]? =some y->p y=false) (eX (α:=Nat) (fun k=>⟨ax [(0,pD l),(1,.fn (.func g) fs cs),(7,I l.length),(8,I k)],fun _=>none,0⟩)
  (fun k=>k<=l.length/\∀ j y,j<k->l[j]? =some y->p y=false) (fun k=>l.length - k) 0 (ao eH) ⟨by omega,fun j y hj=>by omega⟩ ?_) ?_)
 .rintro k ⟨hk,hinv⟩
  refine bB ?_
  refine ab ⟨_,rfl,fun h=>?_,fun h=>?_⟩
  .have aj:k<l.length:=by simpa using h
   have hx:l[k]? =some l[k]:=by simp[aj]
   generalize l[k]=x at hx
   have kc:=hg x (List.mem_of_getElem? hx)
   refine ws ?_;refine iF ?_;refine er ?_;refine mW ?_;refine fc ?_;refine cl kc ?_
   refine ab (al rfl (fun hp=>?_) fun hp=>?_)
   .refine ws ?_;refine iF ?_
    refine ab (aO (cm (aM (ap rfl ?_))))
    rw[DI hx hp hinv]
    rfl
   .refine cx ?_
    refine cr ?_
    refine ab (aK (k+1) (ao eH) ⟨by omega,fun j y hj hy=>?_⟩ oG)
    by_cases e:j=k
    .subst e;rw[hx] at hy;cases hy;exact hp
    .exact hinv j y oG hy
  .have aZ:¬ k<l.length:=by simpa using h
   exact⟨.forget _ _ _ _ fun _=>.inr rfl,fun j y hy=>hinv j y (by have:=(List.getElem?_eq_some_iff.1 hy).1;omega) hy⟩
 .rintro s ⟨hg,jO⟩
  refine⟨_,hg,ag ?_⟩
  refine J3 ?_
  refine ab (ap rfl ?_)
  rw[DJ jO]
  rfl
theorem E2{l:List ByteArray}{g:FuncId}{fs cs:List D}{p:ByteArray->Bool}(ht:Tr (.fn (.func g) fs cs))(hg:∀ x∈l,PCall prog g (fs++[S x]++cs) (B (p x))):PCall prog 192 [pD l,.fn (.func g) fs cs] (B (l.any p)):=by
 have Ju:=Ju ht hg
 refine aY mixed Sm (by rw[adp];rfl) (.cons (w7 _) (.cons ht .nil)) (Tr.s _) ?_
 rw[adq,adr]
 refine ws ?_;refine J1 ?_;refine er ?_;refine j4 ?_;refine mW ?_;refine cl Ju ?_;refine rB ?_;refine J1 ?_
 refine ab (ap rfl ?_)
 rw[<- DY]
 rfl
theorem Jv{l:List jv}{g:FuncId}{fs cs:List D}{p:jv->Bool}(ht:Tr (.fn (.func g) fs cs))(hg:∀ x∈l,PCall prog g (fs++[.agg (kJ x)]++cs) (B (p x))):PCall prog 260 [n6 l,.fn (.func g) fs cs] (I (pP p l)):=by
 refine pw IU.he (.cons (jm _) (.cons ht .nil)) fun gW=>?_
 have hlen:=(gW (n6 l) (by simp)).sl.1
 unfold maxLen at hlen
 refine aY mixed IU (by rw[ads];rfl) (.cons (jm _) (.cons ht .nil)) (Tr.s _) ?_
 rw[adt,adu]
 refine ws ?_;refine J3 ?_
 refine ab (aC (aq ?_))
 refine tN ?_;refine J0 ?_
 refine ab (bM (fun s=>Ghost prog s ⟨ax [],fun _=>none,0⟩/\∀ (j:Nat) y,l[j]? =some y->p y=false) (eX (α:=Nat) (fun k=>⟨ax [(0,n6 l),(1,.fn (.func g) fs cs),(7,I l.length),(8,I k)],fun _=>none,0⟩)
  (fun k=>k<=l.length/\∀ j y,j<k->l[j]? =some y->p y=false) (fun k=>l.length - k) 0 (ao eH) ⟨by omega,fun j y hj=>by omega⟩ ?_) ?_)
 .rintro k ⟨hk,hinv⟩
  refine bB ?_
  refine ab ⟨_,rfl,fun h=>?_,fun h=>?_⟩
  .have aj:k<l.length:=by simpa using h
   have hx:l[k]? =some l[k]:=by simp[aj]
   generalize l[k]=x at hx
   have kc:=hg x (List.mem_of_getElem? hx)
   refine ws ?_;refine iF ?_;refine er ?_;refine mW ?_;refine iX ?_;refine wv ?_;refine E3 ?_;refine cl kc ?_
   refine ab (al rfl (fun hp=>?_) fun hp=>?_)
   .refine ws ?_;refine iF ?_
    refine ab (aO (cm (aM (ap rfl ?_))))
    rw[DI hx hp hinv]
    rfl
   .refine cx ?_
    refine cr ?_
    refine ab (aK (k+1) (ao eH) ⟨by omega,fun j y hj hy=>?_⟩ oG)
    by_cases e:j=k
    .subst e;rw[hx] at hy;cases hy;exact hp
    .exact hinv j y oG hy
  .have aZ:¬ k<l.length:=by simpa using h
   exact⟨.forget _ _ _ _ fun _=>.inr rfl,fun j y hy=>hinv j y (by have:=(List.getElem?_eq_some_iff.1 hy).1;omega) hy⟩
 .rintro s ⟨hg,jO⟩
  refine⟨_,hg,ag ?_⟩
  refine J3 ?_
  refine ab (ap rfl ?_)
  rw[DJ jO]
  rfl
theorem BY{l:List jv}{g:FuncId}{fs cs:List D}{p:jv->Bool}(ht:Tr (.fn (.func g) fs cs))(hg:∀ x∈l,PCall prog g (fs++[.agg (kJ x)]++cs) (B (p x))):PCall prog 254 [n6 l,.fn (.func g) fs cs] (B (l.any p)):=by
 have Jv:=Jv ht hg
 refine aY mixed So (by rw[adv];rfl) (.cons (jm _) (.cons ht .nil)) (Tr.s _) ?_
 rw[adw,adx]
 refine ws ?_;refine J1 ?_;refine er ?_;refine j4 ?_;refine mW ?_;refine cl Jv ?_;refine rB ?_;refine J1 ?_
 refine ab (ap rfl ?_)
 rw[<- DY]
 rfl
theorem Jw{l:List Int}{g:FuncId}{fs cs:List D}{p:Int->Bool}(ht:Tr (.fn (.func g) fs cs))(hg:∀ x∈l,PCall prog g (fs++[I x]++cs) (B (p x))):PCall prog 130 [aw l,.fn (.func g) fs cs] (I (pP p l)):=by
 refine pw IV.he (.cons (cN _) (.cons ht .nil)) fun gW=>?_
 have hlen:=(gW (aw l) (by simp)).sl.1
 unfold maxLen at hlen
 refine aY mixed IV (by rw[ady];rfl) (.cons (cN _) (.cons ht .nil)) (Tr.s _) ?_
 rw[adz,adA]
 refine ws ?_;refine J3 ?_
 refine ab (aC (aq ?_))
 refine tN ?_;refine J0 ?_
 refine ab (bM (fun s=>Ghost prog s ⟨ax [],fun _=>none,0⟩/\∀ (j:Nat) y,l[j]? =some y->p y=false) (eX (α:=Nat) (fun k=>⟨ax [(0,aw l),(1,.fn (.func g) fs cs),(7,I l.length),(8,I k)],fun _=>none,0⟩)
  (fun k=>k<=l.length/\∀ j y,j<k->l[j]? =some y->p y=false) (fun k=>l.length - k) 0 (ao eH) ⟨by omega,fun j y hj=>by omega⟩ ?_) ?_)
 .rintro k ⟨hk,hinv⟩
  refine bB ?_
  refine ab ⟨_,rfl,fun h=>?_,fun h=>?_⟩
  .have aj:k<l.length:=by simpa using h
   have hx:l[k]? =some l[k]:=by simp[aj]
   generalize l[k]=x at hx
   have kc:=hg x (List.mem_of_getElem? hx)
   refine ws ?_;refine iF ?_;refine er ?_;refine mW ?_;refine fc ?_;refine cl kc ?_
   refine ab (al rfl (fun hp=>?_) fun hp=>?_)
   .refine ws ?_;refine iF ?_
    refine ab (aO (cm (aM (ap rfl ?_))))
    rw[DI hx hp hinv]
    rfl
   .refine cx ?_
    refine cr ?_
    refine ab (aK (k+1) (ao eH) ⟨by omega,fun j y hj hy=>?_⟩ oG)
    by_cases e:j=k
    .subst e;rw[hx] at hy;cases hy;exact hp
    .exact hinv j y oG hy
  .have aZ:¬ k<l.length:=by simpa using h
   exact⟨.forget _ _ _ _ fun _=>.inr rfl,fun j y hy=>hinv j y (by have:=(List.getElem?_eq_some_iff.1 hy).1;omega) hy⟩
 .rintro s ⟨hg,jO⟩
  refine⟨_,hg,ag ?_⟩
  refine J3 ?_
  refine ab (ap rfl ?_)
  rw[DJ jO]
  rfl
theorem zw{l:List Int}{g:FuncId}{fs cs:List D}{p:Int->Bool}(ht:Tr (.fn (.func g) fs cs))(hg:∀ x∈l,PCall prog g (fs++[I x]++cs) (B (p x))):PCall prog 119 [aw l,.fn (.func g) fs cs] (B (l.any p)):=by
 have Jw:=Jw ht hg
 refine aY mixed Sp (by rw[adB];rfl) (.cons (cN _) (.cons ht .nil)) (Tr.s _) ?_
 rw[adC,adD]
 refine ws ?_;refine J1 ?_;refine er ?_;refine j4 ?_;refine mW ?_;refine cl Jw ?_;refine rB ?_;refine J1 ?_
 refine ab (ap rfl ?_)
 rw[<- DY]
 rfl
theorem lm{n a b:Int}:PCall prog 96 [I n,I a,I b] (B (cu n a b)):=by
 refine aY mixed UB (by rw[aku];rfl) (by simp[Tr.s]) (Tr.s _) ?_
 rw[akv,akw]
 refine ws ?_;refine J1 ?_;refine er ?_;refine gL ?_;refine rB ?_;refine jU ?_;refine br ?_;refine wF ?_;refine bD ?_
 refine ab (ap (d:=.s (.bool _)) rfl ?_)
 simp[cu]
theorem akx{b:Int}:PCall prog 229 [U8 b] (B (rT b)):=by
 refine aY mixed SM (by rw[aeD];rfl) (by simp[Tr.s]) (Tr.s _) ?_
 rw[aeE,aeF]
 refine ws ?_;refine J1 ?_;refine er ?_;refine J0 ?_;refine bB ?_;refine jU ?_;refine m8 ?_;refine bD ?_
 refine ab (ap (d:=.s (.bool _)) rfl ?_)
 simp[rT]
theorem aky{b:Int}:PCall prog 232 [U8 b] (B (rU b)):=by
 refine aY mixed SN (by rw[aeG];rfl) (by simp[Tr.s]) (Tr.s _) ?_
 rw[aeH,aeI]
 refine ws ?_;refine J1 ?_;refine er ?_;refine J0 ?_;refine bB ?_;refine jU ?_;refine lb ?_;refine br ?_;refine wy ?_;refine dg ?_;refine br ?_;refine m8 ?_;refine nR ?_;refine bD ?_
 refine ab (ap (d:=.s (.bool _)) rfl ?_)
 simp[rU]
theorem qW{s:ByteArray}:PCall prog 190 [S s] (B (kq s)):=by
 refine aY mixed SP (by rw[aeJ];rfl) (by simp[Tr.s]) (Tr.s _) ?_
 have tO:=tO (l:=b9 s) (g:=229) (fs:=[]) (cs:=[]) (p:=rT) (.fn (by simp) (by simp)) (fun x _=>akx)
 rw[aeK,aeL]
 refine ws ?_;refine J1 ?_;refine er ?_;refine pb ?_;refine uw ?_;refine cl lm ?_;refine J2 ?_;refine zG ?_
 refine bl rfl rfl (Nn rfl V.h V.h) (fun hc=>⟨ak,⟨V.h,by have:=jH.1 (by simpa using hc);unfold maxLen;omega⟩⟩) ?_
 refine gc tO ?_;refine ej ?_;refine bD ?_
 refine ab (ap (d:=.s (.bool _)) rfl ?_)
 simp[kq]
theorem B5{s:ByteArray}:PCall prog 194 [S s] (B (isName s)):=by
 refine aY mixed SQ (by rw[aeM];rfl) (by simp[Tr.s]) (Tr.s _) ?_
 have tO:=tO (l:=b9 s) (g:=232) (fs:=[]) (cs:=[]) (p:=rU) (.fn (by simp) (by simp)) (fun x _=>aky)
 rw[aeN,aeO]
 refine ws ?_;refine J1 ?_;refine er ?_;refine pb ?_;refine uw ?_;refine cl lm ?_;refine J2 ?_;refine zG ?_
 refine bl rfl rfl (Nn rfl V.h V.h) (fun hc=>⟨ak,⟨V.h,by have:=jH.1 (by simpa using hc);unfold maxLen;omega⟩⟩) ?_
 refine gc tO ?_;refine ej ?_;refine bD ?_
 refine ab (ap (d:=.s (.bool _)) rfl ?_)
 simp[isName]
theorem akz{s:ByteArray}:PCall prog 193 [S s] (B !(isName s)):=by
 refine aY mixed SR (by rw[aeP];rfl) (by simp[Tr.s]) (Tr.s _) ?_
 rw[aeQ,aeR]
 refine ws ?_;refine J1 ?_;refine er ?_;refine pb ?_;refine cl B5 ?_;refine cS ?_;refine J1 ?_
 refine ab (ap rfl rfl)
theorem akA{b m:Int}:PCall prog 230 [U8 b,.pt [U8 m]] (B (lz m b)):=by
 refine aY mixed SS (by rw[aeS];rfl) (.cons (.s _) (.cons (.pt (by simp[Tr.s])) .nil)) (Tr.s _) ?_
 rw[aeT,aeU]
 refine ws ?_;refine J1 ?_;refine er ?_;refine J0 ?_;refine bB ?_;refine jU ?_;refine J5 ?_;refine m8 ?_;refine bD ?_
 refine ab (ap (d:=.s (.bool _)) rfl ?_)
 simp[lz]
theorem JU{l:List Int}{m:Int}:PCall prog 191 [jF l,U8 m] (B (ez l m)):=by
 refine aY mixed SU (by rw[aeV];rfl) (.cons (pA _) (.cons (.s _) .nil)) (Tr.s _) ?_
 have tO:=tO (l:=l) (g:=230) (fs:=[]) (cs:=[.pt [U8 m]]) (p:=lz m) (.fn (by simp) (.cons (.pt (by simp[Tr.s])) .nil)) (fun x _=>akA)
 rw[aeW,aeX]
 refine aq ?_
 refine JA ?_;refine J1 ?_
 refine ab (aJ (bg [(0,[U8 m],5)] eH (l:=[(0,jF l),(3,.pt [U8 m])]) eH) (ag ?_))
 refine j4 ?_;refine Ag ?_;refine cl tO ?_;refine cS ?_;refine J1 ?_
 refine ab (ap rfl rfl)
theorem G5{p q:D}{f:az}(h:Real (.agg (aW p q f))):f.af.length<=maxLen/\f.aL.length<=maxLen/\f.signals.length<=maxLen/\f.blocks.length<=maxLen:=
 ⟨(h.agg (jF f.af) (by simp[aW])).sl.1,(h.agg (jF f.aL) (by simp[aW])).sl.1,(h.agg (pD f.signals) (by simp[aW])).sl.1,(h.agg (fu f.blocks) (by simp[aW])).sl.1⟩
section
variable{p q:D}{f:az}(hp:Tr p)(hq:Tr q)(eW:p.one=true)(fI:q.one=true)
include hp hq eW fI
theorem iY{n:Int}:PCall prog 233 [.agg (aW p q f),I n] (B (cu n 0 (f.blocks.length - 1))):=by
 have aP:∀ a∈[D.agg (aW p q f),I n],Tr a:=.cons (lE hp hq f) (.cons (.s _) .nil)
 refine pw I2.he aP fun gW=>?_
 obtain⟨l1,l2,l3,l4⟩:=G5 (gW _ (List.mem_cons_self ..))
 unfold maxLen at*
 refine aY mixed I2 (by rw[aff];rfl) aP (Tr.s _) ?_
 rw[afg,afh]
 refine ws ?_;refine o7 ?_;refine J1 ?_;refine er ?_;refine J0 ?_;refine dT ?_;refine fy ?_;refine iL ?_;refine oY ?_;refine cl lm ?_;refine J1 ?_
 refine ab (ap rfl rfl)
theorem ff{r:Int}:PCall prog 234 [.agg (aW p q f),I r] (U8 (bO f.af r)):=by
 have aP:∀ a∈[D.agg (aW p q f),I r],Tr a:=.cons (lE hp hq f) (.cons (.s _) .nil)
 refine pw I3.he aP fun gW=>?_
 obtain⟨l1,l2,l3,l4⟩:=G5 (gW _ (List.mem_cons_self ..))
 unfold maxLen at*
 refine aY mixed I3 (by rw[afi];rfl) aP (Tr.s _) ?_
 rw[afj,afk]
 refine ws ?_;refine o7 ?_;refine J3 ?_
 refine ab (aC (ag ?_))
 refine J0 ?_;refine dT ?_;refine fy ?_;refine iL ?_;refine oY ?_;refine cl lm ?_;refine cS ?_
 refine ab (bp rfl (fun h=>?_) fun h=>?_)
 .refine aC (ag ?_)
  refine J3 ?_
  refine ab (dn (ap rfl ?_))
  rw[G2 (fun hh=>by simp[cu] at h;omega)]
  rfl
 .have hh:0<=r/\r<f.af.length:=by simp[cu] at h;omega
  obtain⟨i,rfl⟩:=Int.eq_ofNat_of_zero_le hh.1
  have aj:i<f.af.length:=by omega
  have hx:f.af[i]? =some f.af[i]:=by simp[aj]
  generalize f.af[i]=x at hx
  refine b8 (ag ?_)
  refine dT ?_;refine fy ?_;refine gM ?_;refine J3 ?_
  refine ab (ap rfl ?_)
  rw[rW hx]
  rfl
theorem akM{r:Int}:PCall prog 256 [I r,.pt (aW p q f)] (B !(dW f.af r)):=by
 have aP:∀ a∈[I r,D.pt (aW p q f)],Tr a:=.cons (.s _) (.cons (.pt (AX hp hq f)) .nil)
 have ff:=ff (f:=f) (r:=r) hp hq eW fI
 refine aY mixed S1 (by rw[afl];rfl) aP (Tr.s _) ?_
 rw[afm,afn]
 refine ws ?_;refine J1 ?_;refine er ?_;refine l6 ?_;refine J0 ?_;refine cl ff ?_;refine jC ?_;refine J2 ?_;refine qd ?_;refine br ?_;refine gc ff ?_;refine o5 ?_;refine bD ?_
 refine ab (ap (d:=.s (.bool _)) rfl ?_)
 unfold dW
 generalize bO f.af r=k
 show D.s (.bool _)=D.s (.bool _)
 simp only[bne]
 cases (k==1)<;>cases (k==2)<;>rfl
theorem gN{l:List Int}:PCall prog 237 [.agg (aW p q f),aw l] (B (fO f.af l)):=by
 have aP:∀ a∈[D.agg (aW p q f),aw l],Tr a:=.cons (lE hp hq f) (.cons (cN _) .nil)
 have zw:=zw (l:=l) (g:=256) (fs:=[]) (cs:=[.pt (aW p q f)]) (p:=fun r=> !(dW f.af r)) (.fn (by simp) (.cons (.pt (AX hp hq f)) .nil)) (fun x _=>akM hp hq eW fI)
 refine aY mixed S2 (by rw[afo];rfl) aP (Tr.s _) ?_
 rw[afp,afq]
 refine aq ?_
 refine o7 ?_;refine J1 ?_
 refine ab (aJ (bg [(0,aW p q f,133)] eH (l:=[(1,aw l),(2,.pt (aW p q f))]) eH) (ag ?_))
 refine j4 ?_;refine Ag ?_;refine cl zw ?_;refine cS ?_;refine J1 ?_
 refine ab (ap (d:=.s (.bool _)) rfl ?_)
 simp[fO,List.all_eq_not_any_not]
theorem Fo{r n:Int}:PCall prog 239 [.agg (aW p q f),I r,I n] (B (kQ f.af f.aL r n)):=by
 have aP:∀ a∈[D.agg (aW p q f),I r,I n],Tr a:=.cons (lE hp hq f) (.cons (.s _) (.cons (.s _) .nil))
 refine pw I4.he aP fun gW=>?_
 obtain⟨l1,l2,l3,l4⟩:=G5 (gW _ (List.mem_cons_self ..))
 unfold maxLen at*
 have ff:=ff (f:=f) (r:=r) hp hq eW fI
 refine aY mixed I4 (by rw[afr];rfl) aP (Tr.s _) ?_
 rw[afs,aft]
 have lm:=lm (n:=n) (a:=0) (b:=f.aL.length - 1)
 by_cases hh:0<=n/\n<f.aL.length
 .obtain⟨i,rfl⟩:=Int.eq_ofNat_of_zero_le hh.1
  have aj:i<f.aL.length:=by omega
  have hx:f.aL[i]? =some f.aL[i]:=by simp[aj]
  generalize f.aL[i]=x at hx
  have bk:cu (i:Int) 0 (f.aL.length - 1)=true:=jH.2 oG
  rw[bk] at lm
  refine ws ?_;refine o7 ?_;refine J1 ?_
  refine ab (dP MR ?_)
  refine J0 ?_;refine dT ?_;refine fy ?_;refine iL ?_;refine oY ?_;refine cl lm ?_;refine J2 ?_
  refine bl rfl rfl (eL (vs:=aW _ _ _) rfl rfl V.h V.h rfl) (fun hc=>⟨ak,(eM V.h V.h (by first|(simp;done)|omega|exact Nat.le_of_ble_eq_true rfl))⟩) ?_
  refine br ?_;refine gc ff ?_;refine yz ?_;refine lU ?_;refine fB ?_;refine dN ?_;refine cI ?_;refine J1 ?_
  refine bc (by simp[apartT]) ?_
  refine ap (d:=.s (.bool _)) rfl ?_
  simp[kQ,bk,rW hx]
 .have bk:cu n 0 (f.aL.length - 1)=false:=YT.2 oG
  rw[bk] at lm
  refine ws ?_;refine o7 ?_;refine J1 ?_
  refine ab (dP MR ?_)
  refine J0 ?_;refine dT ?_;refine fy ?_;refine iL ?_;refine oY ?_;refine cl lm ?_;refine J2 ?_;refine z fun _ _=>?_;refine z fun _ _=>?_;refine z fun _ _=>?_;refine z fun _ _=>?_;refine z fun _ _=>?_;refine z fun _ _=>?_;refine z fun _ _=>?_;refine z fun _ _=>?_;refine z fun _ _=>?_;refine z fun _ _=>?_;refine gZ ?_
  refine bc (by simp[apartT]) ?_
  refine ap (d:=.s (.bool _)) rfl ?_
  simp[kQ,bk]
end
section
variable{p q:D}{f:az}(hp:Tr p)(hq:Tr q)(eW:p.one=true)(fI:q.one=true)
include hp hq eW fI
theorem Cd{r want kd:Int}:PCall prog 253 [.agg (aW p q f),I r,I want,U8 kd] (B (kN f.af r want kd)):=by
 have aP:∀ a∈[D.agg (aW p q f),I r,I want,U8 kd],Tr a:=.cons (lE hp hq f) (.cons (.s _) (.cons (.s _) (.cons (.s _) .nil)))
 have ff:=ff (f:=f) (r:=r) hp hq eW fI
 refine aY mixed S5 (by rw[afA];rfl) aP (Tr.s _) ?_
 rw[afB,afC]
 refine ws ?_;refine o7 ?_;refine J1 ?_;refine er ?_
 refine aF (eL (vs:=aW _ _ _) rfl rfl V.h V.h rfl) ak (eM V.h V.h (by first|(simp;done)|omega|exact Nat.le_of_ble_eq_true rfl)) ?_
 refine J0 ?_;refine cl ff ?_;refine J3 ?_
 refine ab (aC (ag ?_))
 refine J0 ?_
 refine ab (mg (ag ?_))
 refine ay ?_
 refine ab (al rfl (fun h0=>?_) fun h0=>?_)
 .have h0:want=0:=by simpa using h0
  refine ws ?_;refine J0 ?_;refine ay ?_
  refine ab (aO (bh (aM (ap (d:=.s (.bool _)) rfl ?_))))
  simp[kN,h0]
 have h0:¬ want=0:=by simpa using h0
 refine ws ?_;refine ay ?_
 refine ab (al rfl (fun h1=>?_) fun h1=>?_)
 .have h1:want=1:=by simpa using h1
  refine ws ?_;refine J0 ?_;refine ay ?_
  refine ab (aO (bh (aM (ap (d:=.s (.bool _)) rfl ?_))))
  simp[kN,h1]
 have h1:¬ want=1:=by simpa using h1
 refine ws ?_;refine ay ?_
 refine ab (al rfl (fun h2=>?_) fun h2=>?_)
 .have h2:want=2:=by simpa using h2
  refine ws ?_;refine J0 ?_;refine ay ?_
  refine ab (aO (bh (aM (ap (d:=.s (.bool _)) rfl ?_))))
  simp[kN,h2]
 have h2:¬ want=2:=by simpa using h2
 refine ws ?_;refine ay ?_
 refine ab (al rfl (fun h3=>?_) fun h3=>?_)
 .have h3:want=3:=by simpa using h3
  refine ws ?_;refine J0 ?_;refine J8 ?_;refine jU ?_;refine dN ?_;refine bD ?_
  refine ab (aO (bh (aM (ap (d:=.s (.bool _)) rfl ?_))))
  simp[kN,h3,dW,ib]
 have h3:¬ want=3:=by simpa using h3
 refine lH (ag ?_)
 refine J0 ?_;refine jC ?_;refine jU ?_;refine br ?_;refine dN ?_;refine bD ?_
 refine ab (ap (d:=.s (.bool _)) rfl ?_)
 simp[kN,h0,h1,h2,h3,ib,bne]
theorem zI{x:a8}{s:Shape}:PCall prog 235 [.agg (aW p q f),.agg (a7 x),.agg (iO s)] (B (n8 f.af x s)):=by
 have aP:∀ a∈[D.agg (aW p q f),.agg (a7 x),.agg (iO s)],Tr a:=.cons (lE hp hq f) (.cons (.agg (pE x)) (.cons (.agg (MU s)) .nil))
 have ff:=fun r=>ff (f:=f) (r:=r) hp hq eW fI
 have Cd:= @Cd p q f hp hq eW fI
 have gN:=gN (f:=f) hp hq eW fI (l:=x.args)
 have atM:=lm (n:=x.n) (a:=s.low) (b:=s.high)
 refine aY mixed S6 (by rw[afD];rfl) aP (Tr.s _) ?_
 rw[afE,afF]
 refine aq ?_
 refine o7 ?_;refine sS ?_
 refine gB (sc (cs:=iO _) rfl) ak (by first|rfl|exact tk eW fI|exact iG _|exact tC cX) ?_
 refine J1 ?_
 refine ab (aJ (bg [(0,aW p q f,133),(1,a7 x,66),(2,iO s,205)] eH (l:=[(3,.pt (aW p q f)),(4,.pt (a7 x)),(5,.pt (iO s))]) eH) (ag ?_))
 have afG:=ff
 have ff:=ff x.to
 refine l6 ?_;refine aG ?_;refine cl ff ?_;refine J3 ?_
 refine ab ?_
 refine dV (fun s'=>Ghost prog s' ⟨ax [(3,.pt (aW p q f)),(4,.pt (a7 x)),(5,.pt (iO s)),(7,U8 (pC f.af x s))],fun _=>none,3⟩) (ag ?_) fun s' hg=>⟨_,hg,?_⟩
 .refine aG ?_;refine J8 ?_;refine ct ?_;refine dN ?_;refine J9 ?_
  refine ab (al rfl (fun h=>kp ?_) fun h=>aR ?_)
  .have h:s.to=0\/s.to=1:=by simpa[ib] using h
   have ff:=afG x.a
   refine l6 ?_;refine aG ?_;refine cl ff ?_;refine J3 ?_
   refine ab ?_
   show Ghost _ _ _
   refine ao (l:=[(3,_),(4,_),(5,_),(7,_)]) ⟨rfl,rfl,rfl,?_,trivial⟩
   simp only[pC,if_pos h];rfl
  .have h:¬ (s.to=0\/s.to=1):=by simpa[ib] using h
   show Ghost _ _ _
   refine ao (l:=[(3,_),(4,_),(5,_),(7,_)]) ⟨rfl,rfl,rfl,?_,trivial⟩
   simp only[pC,if_neg h];rfl
 refine ws ?_;refine dG ?_;refine ay ?_
 refine ab ?_
 refine dV (fun s'=>Ghost prog s' ⟨ax [(3,.pt (aW p q f)),(4,.pt (a7 x)),(5,.pt (iO s)),(7,U8 (pC f.af x s)),(8,B (py f.af x s))],fun _=>none,3⟩) (ag ?_) fun s' hg=>⟨_,hg,?_⟩
 .refine aG ?_
  refine ab (qp (ag ?_))
  refine ay ?_
  refine ab (al rfl (fun h=>nk ?_) fun h=>ag ?_)
  .have h:s.args=5:=by simpa using h
   have lm:=lm (n:=x.args.length) (a:=1) (b:=6)
   refine dG ?_;refine cl lm ?_;refine J2 ?_;refine dS ?_;refine gc gN ?_;refine bD ?_
   refine ab ?_
   refine ao ⟨rfl,rfl,rfl,rfl,?_,trivial⟩
   show D.s (.bool _)=_
   simp[py,h]
  .have h5:¬ s.args=5:=by simpa using h
   refine ay ?_
   refine ab (al rfl (fun h=>nk ?_) fun h=>Hl ?_)
   .have h:s.args=6:=by simpa using h
    refine dG ?_;refine J8 ?_;refine J2 ?_;refine dS ?_;refine gc gN ?_;refine bD ?_
    refine ab ?_
    refine ao ⟨rfl,rfl,rfl,rfl,?_,trivial⟩
    show D.s (.bool _)=_
    simp[py,h,ib]
   .have h6:¬ s.args=6:=by simpa using h
    refine ao ⟨rfl,rfl,rfl,rfl,?_,trivial⟩
    show D.s (.bool _)=_
    simp[py,h5,h6,ib]
 refine ws ?_;refine l6 ?_;refine aG ?_;refine aG ?_;refine cl Cd ?_;refine J2 ?_;refine dS ?_;refine bt ?_;refine br ?_;refine gc Cd ?_;refine di ?_;refine dS ?_;refine bt ?_;refine br ?_;refine gc Cd ?_;refine di ?_;refine dg ?_;refine di ?_;refine bt ?_;refine bt ?_;refine bt ?_;refine gc lm ?_;refine bD ?_
 refine ab (ap (d:=.s (.bool _)) rfl ?_)
 simp[n8,Bool.and_assoc]
end
theorem Kg{x:a8}:PCall prog 257 [.agg (a7 x)] (B (BG x)):=by
 have aP:∀ a∈[D.agg (a7 x)],Tr a:=.cons (.agg (pE x)) .nil
 refine aY mixed Ta (by rw[afJ];rfl) aP (Tr.s _) ?_
 rw[afK,afL]
 refine ws ?_;refine sS ?_;refine J1 ?_;refine er ?_;refine fy ?_;refine J8 ?_;refine J2 ?_;refine g9 ?_;refine g9 ?_;refine g9 ?_;refine g9 ?_;refine lU ?_;refine j8 ?_;refine dN ?_;refine bD ?_
 refine ab (ap (d:=.s (.bool _)) rfl ?_)
 simp only[BG,ib]
 cases decide (x.op=0)<;>cases decide (x.to=0)<;>cases decide (x.a=0)<;>cases decide (x.b=0)<;>cases decide (x.n=0)<;>rfl
theorem Kh{x:Argus.End}:PCall prog 238 [.agg (aT x)] (B (xF x)):=by
 have aP:∀ a∈[D.agg (aT x)],Tr a:=.cons (.agg (ki x)) .nil
 have Kg:=Kg (x:=x.ins)
 refine aY mixed Tb (by rw[afM];rfl) aP (Tr.s _) ?_
 rw[afN,afO]
 refine ws ?_;refine mX ?_;refine J1 ?_;refine er ?_;refine fy ?_;refine J8 ?_;refine J2 ?_;refine g9 ?_;refine g9 ?_;refine g9 ?_;refine g9 ?_;refine lU ?_;refine Ki ?_;refine di ?_;refine g9 ?_;refine lU ?_;refine j8 ?_;refine jx ?_;refine lU ?_;refine j8 ?_;refine jx ?_;refine yz ?_
 refine bl rfl rfl (eL (vs:=a7 _) rfl rfl V.h V.h rfl) (fun hc=>⟨ak,(eM V.h V.h (by first|(simp;done)|omega|exact Nat.le_of_ble_eq_true rfl))⟩) ?_
 refine gc Kg ?_;refine bD ?_
 refine ab (ap (d:=.s (.bool _)) rfl ?_)
 have:decide (x.name.toList=[])=x.name.toList.isEmpty:=by cases x.name.toList<;>rfl
 simp[xF,ib,Bool.and_assoc,this]
theorem ak6{w v:jv}:PCall prog 255 [.agg (kJ v),.pt (kJ w)] (B (v.name.toList==w.name.toList)):=by
 have aP:∀ a∈[D.agg (kJ v),.pt (kJ w)],Tr a:=.cons (.agg (D3 v)) (.cons (.pt (D3 w)) .nil)
 refine aY mixed Tc (by rw[afP];rfl) aP (Tr.s _) ?_
 rw[afQ,afR]
 refine ws ?_
 refine gB (sc (cs:=kJ _) rfl) ak (by first|rfl|exact tk eW fI|exact iG _|exact tC cX) ?_
 refine J1 ?_;refine er ?_;refine fy ?_;refine aG ?_
 refine aF (H7 rfl rfl) ak trivial ?_
 refine J1 ?_
 exact ab (ap rfl rfl)
section
variable{p q:D}{f:az}(hp:Tr p)(hq:Tr q)(eW:p.one=true)(fI:q.one=true)
include hp hq eW fI
theorem sC{x:Argus.End}:PCall prog 236 [.agg (aW p q f),.agg (aT x)] (B (lB f x)):=by
 have aP:∀ a∈[D.agg (aW p q f),.agg (aT x)],Tr a:=.cons (lE hp hq f) (.cons (.agg (ki x)) .nil)
 refine pw I5.he aP fun gW=>?_
 have hlen:x.aD.length<=maxLen:=((gW _ (List.mem_cons_of_mem _ (List.mem_cons_self ..))).agg (n6 x.aD) (by simp[aT])).sl.1
 unfold maxLen at hlen
 have iY:= @iY p q f hp hq eW fI
 refine aY mixed I5 (by rw[afS];rfl) aP (Tr.s _) ?_
 rw[afT,afU]
 refine aq ?_
 refine o7 ?_;refine mX ?_;refine J1 ?_
 refine ab (aJ (bg [(0,aW p q f,133),(1,aT x,69)] eH (l:=[(2,.pt (aW p q f)),(3,.pt (aT x))]) eH) (aC (aq ?_)))
 refine dG ?_;refine J0 ?_
 refine ab (bM (fun s=>∃ n,Ghost prog s ⟨ax [(2,.pt (aW p q f)),(3,.pt (aT x))],fun _=>none,n⟩/\∀ (j:Nat) y,x.aD[j]? =some y->nE f x.aD j y=true) (eX (α:=Nat) (fun k=>⟨ax [(2,.pt (aW p q f)),(3,.pt (aT x)),(8,n6 x.aD),(9,I x.aD.length),(10,I k)],fun _=>none,2+k⟩)
  (fun k=>k<=x.aD.length/\∀ j y,j<k->x.aD[j]? =some y->nE f x.aD j y=true) (fun k=>x.aD.length - k) 0 (ao eH) ⟨by omega,fun j y hj=>by omega⟩ ?_) ?_)
 .rintro k ⟨hk,hinv⟩
  refine bB ?_
  refine ab ⟨_,rfl,fun h=>?_,fun h=>?_⟩
  .have aj:k<x.aD.length:=by simpa using h
   have hx:x.aD[k]? =some x.aD[k]:=by simp[aj]
   generalize x.aD[k]=w at hx
   refine aq ?_
   refine J0 ?_;refine wv ?_;refine E3 ?_;refine cE ?_;refine J3 ?_;refine Jy ?_
   refine ab (aJ (bg [(2+k,kJ w,199)] ⟨up_same _ _ _,trivial⟩ (l:=[(2,.pt (aW p q f)),(3,.pt (aT x)),(5,I k),(6,.pt (kJ w)),(8,n6 x.aD),(9,I x.aD.length),(10,I k)]) ⟨rfl,rfl,rfl,mG (sz:=prog.cellsOf 199),rfl,rfl,rfl,trivial⟩) (ag ?_))
   have B5:=B5 (s:=w.name)
   have BY:=BY (l:=x.aD.take k) (g:=255) (fs:=[]) (cs:=[.pt (kJ w)]) (p:=fun v=>v.name.toList==w.name.toList) (.fn (by simp) (.cons (.pt (D3 w)) .nil)) (fun v _=>ak6)
   unfold n6 at BY
   rw[<- abd AL hk] at BY
   refine aG ?_;refine cl B5 ?_;refine cS ?_;refine J2 ?_;refine dS ?_;refine gc iY ?_;refine ej ?_;refine di ?_;refine bt ?_;refine br ?_
   refine bl rfl rfl (wZ rfl V.h V.h rfl rfl rfl) (fun hc=>⟨ak,⟨V.h,by omega,by omega,by omega⟩⟩) ?_
   refine bl rfl rfl (Ql rfl rfl) (fun hc=>⟨ak,trivial⟩) ?_
   refine gc BY ?_;refine J9 ?_
   have hb:((isName w.name&&(bF f w.to&& !(x.aD.take k).any fun v=>v.name.toList==w.name.toList)))=nE f x.aD k w:=rfl
   refine ab (al rfl (fun hp=>?_) fun hp=>?_)
   .refine ws ?_;refine J1 ?_
    refine ab (aO (cm (aM (ap (d:=.s (.bool _)) rfl ?_))))
    have hw:nE f x.aD k w=false:=by
     rw[<- hb];simp only[bF]
     revert hp
     generalize isName w.name=a
     generalize cu w.to 0 (f.blocks.length - 1)=b
     generalize (List.any _ _)=c
     cases a<;>cases b<;>cases c<;>simp
    simp[lB,GB hx hw]
   .refine cx ?_
    have hw:nE f x.aD k w=true:=by
     rw[<- hb];simp only[bF]
     revert hp
     generalize isName w.name=a
     generalize cu w.to 0 (f.blocks.length - 1)=b
     generalize (List.any _ _)=c
     cases a<;>cases b<;>cases c<;>simp
    refine cr ?_
    refine ab (aK (k+1) (ao eH) ⟨by omega,fun j y hj hy=>?_⟩ oG)
    by_cases e:j=k
    .subst e;rw[hx] at hy;cases hy;exact hw
    .exact hinv j y oG hy
  .have aZ:¬ k<x.aD.length:=by simpa using h
   exact⟨2+k,.forget _ _ _ _ fun t=>n7 (l:=[(2,.pt (aW p q f)),(3,.pt (aT x))]) ⟨rfl,rfl,trivial⟩ t,fun j y hy=>hinv j y (by have:=(List.getElem?_eq_some_iff.1 hy).1;omega) hy⟩
 .rintro s ⟨n,hg,bj⟩
  refine⟨_,hg,ag ?_⟩
  refine dG ?_;refine Uu ?_;refine ct ?_;refine dN ?_;refine dg ?_;refine dS ?_;refine gc iY ?_;refine nR ?_;refine bD ?_
  refine ab (ap (d:=.s (.bool _)) rfl ?_)
  have Al:=Md bj
  simp[lB,bF,Al,ib]
end
abbrev P0:D:=.im (pV nu)
abbrev Q0:D:=.im (pV iS)
theorem alf:PCall prog 166 [] (.tup [P0,Q0]):=by
 refine aY mixed Td (by rw[afV];rfl) Tr.nil (.tup (.cons (zn _) (.cons (zn _) .nil))) ?_
 rw[afW,afX]
 refine ws ?_
 refine aF (mi (v:=.s (.map none)) rfl) ak trivial ?_
 refine aF (mi (v:=.s (.map none)) rfl) ak trivial ?_
 refine er ?_;refine JY ?_;refine hC ?_;refine hC ?_;refine hC ?_;refine hC ?_;refine hC ?_;refine hC ?_;refine hC ?_;refine hC ?_;refine hC ?_;refine hC ?_;refine hC ?_;refine hC ?_;refine hC ?_;refine hC ?_;refine hC ?_;refine Aq ?_;refine B8 ?_;refine er ?_;refine JY ?_;refine hC ?_;refine hC ?_;refine hC ?_;refine hC ?_;refine hC ?_;refine hC ?_;refine hC ?_;refine hC ?_;refine hC ?_;refine Aq ?_;refine B8 ?_
 refine ab (aq ?_)
 refine Aq ?_;refine Aq ?_;refine B8 ?_;refine B8 ?_
 refine ab (aJ (aad [(0,pV nu),(1,pV iS)] eH (l:=[(0,P0),(1,Q0)]) eH) ?_)
 exact kM rfl rfl rfl
abbrev qO(f:az):D:=.agg (aW P0 Q0 f)
theorem JX{f:az}:PCall prog 189 [.agg (aB f)] (qO f):=by
 have aP:∀ a∈[D.agg (aB f)],Tr a:=.cons (.agg (gp f)) .nil
 refine aY mixed Te (by rw[afY];rfl) aP (lE (zn _) (zn _) f) ?_
 rw[afZ,af0]
 refine ws ?_;refine ia ?_;refine cE ?_;refine er ?_;refine cl alf ?_;refine j6 ?_
 refine aF (qk (v:=.im _) rfl rfl) ak (by first|decide|simp) ?_
 refine aF (qk (v:=.im _) rfl rfl) ak (by first|decide|simp) ?_
 refine aF (mi (v:=.im _) rfl) ak trivial ?_
 refine aF (mi (v:=.im _) rfl) ak trivial ?_
 refine er ?_;refine Ch ?_
 refine aF (iQ (v:=.im _) rfl) ak trivial ?_
 refine aF (iQ (v:=.im _) rfl) ak trivial ?_
 refine UI ?_
 refine cK (gT (cs':=aW _ _ _) rfl rfl rfl rfl) ak (dU V.h V.h (by first|(simp;done)|exact⟨rfl,Nat.le_of_ble_eq_true rfl⟩|(simp;omega)) (by rfl)) ?_
 refine ab (lG (me rfl rfl Vc Vd rfl t133 (by simp)) ?_)
 rfl
theorem kR:Tr P0:=zn _
theorem kS:Tr Q0:=zn _
section
variable{p q:D}{f:az}(hp:Tr p)(hq:Tr q)(eW:p.one=true)(fI:q.one=true)
include hp hq eW fI
theorem alg{r kd:Int}:PCall prog 240 [I r,.pt (aW p q f),.pt [U8 kd]] (B !(aI (bO f.af r) kd)):=by
 have aP:∀ a∈[I r,.pt (aW p q f),.pt [U8 kd]],Tr a:=.cons (.s _) (.cons (.pt (AX hp hq f)) (.cons (.pt (.cons (.s _) .nil)) .nil))
 have ff:=ff (f:=f) (r:=r) hp hq eW fI
 refine aY mixed Tm (by rw[agp];rfl) aP (Tr.s _) ?_
 rw[agq,agr]
 refine ws ?_;refine J1 ?_
 refine ab (dP Y4 ?_)
 refine l6 ?_;refine J0 ?_;refine cl ff ?_;refine J4 ?_;refine jC ?_;refine J1 ?_
 refine bc (by simp[apartT]) ?_
 refine ap (d:=.s (.bool _)) rfl ?_
 rfl
end
theorem Fj{f:az}{b ahead:Int}{x:a8}{phis:Bool}:PCall prog 196 [qO f,I b,.agg (a7 x),B phis,I ahead] (B (iB f b x phis ahead)):=by
 have aP:∀ a∈[qO f,I b,.agg (a7 x),B phis,I ahead],Tr a:=.cons (lE kR kS f) (.cons (.s _) (.cons (.agg (pE x)) (.cons (.s _) (.cons (.s _) .nil))))
 have ff:= @ff P0 Q0 f kR kS rfl rfl
 have Fo:= @Fo P0 Q0 f kR kS rfl rfl
 have gN:= @gN P0 Q0 f kR kS rfl rfl
 have zI:= @zI P0 Q0 f kR kS rfl rfl
 refine aY mixed Tn (by rw[ags];rfl) aP (Tr.s _) ?_
 rw[agt,agu]
 refine aq ?_
 refine o7 ?_;refine sS ?_;refine J1 ?_
 refine ab (aJ (bg [(0,aW P0 Q0 f,133),(1,a7 x,66)] eH (l:=[(1,I b),(3,B phis),(4,I ahead),(5,.pt (aW P0 Q0 f)),(7,.pt (a7 x))]) eH) (aC (ag ?_)))
 refine aG ?_
 refine ab (mg (ag ?_))
 refine ay ?_
 refine ab (al rfl (fun h0=>?_) fun h0=>?_)
 .have h0:x.op=16:=by simpa using h0
  refine ws ?_;refine aG ?_;refine J8 ?_;refine J2 ?_;refine dS ?_;refine gc ff ?_;refine jx ?_;refine bt ?_;refine jx ?_;refine bt ?_;refine jx ?_;refine fe ?_;refine dN ?_;refine bD ?_
  refine ab (aO (bh (aM (ap (d:=.s (.bool _)) rfl ?_))))
  simp[iB,h0,aI,iT,ib,Bool.and_assoc]
 have h0:¬ x.op=16:=by simpa using h0
 refine ws ?_;refine ay ?_
 refine ab (al rfl (fun h1=>?_) fun h1=>?_)
 .have h1:x.op=17:=by simpa using h1
  refine ws ?_;refine aG ?_;refine J8 ?_;refine ct ?_;refine jx ?_;refine fe ?_;refine jx ?_;refine dS ?_;refine bt ?_;refine gc Fo ?_;refine bD ?_
  refine ab (aO (bh (aM (ap (d:=.s (.bool _)) rfl ?_))))
  simp[iB,h1,aI,iT,ib,Bool.and_assoc]
 have h1:¬ x.op=17:=by simpa using h1
 refine ws ?_;refine ay ?_
 refine ab (al rfl (fun h2=>?_) fun h2=>?_)
 .have h2:x.op=18:=by simpa using h2
  refine ws ?_;refine aG ?_;refine J8 ?_;refine ct ?_;refine jx ?_;refine fe ?_;refine jx ?_;refine dS ?_;refine bt ?_;refine gc Fo ?_;refine bD ?_
  refine ab (aO (bh (aM (ap (d:=.s (.bool _)) rfl ?_))))
  simp[iB,h2,aI,iT,ib,Bool.and_assoc]
 have h2:¬ x.op=18:=by simpa using h2
 refine ws ?_;refine ay ?_
 refine ab (al rfl (fun h3=>?_) fun h3=>?_)
 .have h3:x.op=19:=by simpa using h3
  refine aq ?_
  refine l6 ?_;refine aG ?_;refine cl ff ?_;refine cE ?_;refine Uq ?_
  refine ab (aJ (bg [(2,[U8 (bO f.af x.to)],5)] eH (l:=[(1,I b),(3,B phis),(4,I ahead),(5,.pt (aW P0 Q0 f)),(7,.pt (a7 x)),(11,.pt [U8 (bO f.af x.to)])]) eH) (ag ?_))
  have zw:=zw (l:=x.args) (g:=240) (fs:=[]) (cs:=[.pt (aW P0 Q0 f),.pt [U8 (bO f.af x.to)]]) (p:=fun r=> !(aI (bO f.af r) (bO f.af x.to))) (.fn (by simp) (.cons (.pt (AX kR kS f)) (.cons (.pt (.cons (.s _) .nil)) .nil))) (fun r _=>alg kR kS rfl rfl)
  refine aG ?_;refine Ag ?_;refine cl zw ?_;refine J1 ?_;refine er ?_
  by_cases hb:phis=true/\0<b
  .obtain⟨rfl,hb⟩:=hb
   have tS:decide (0<b)=true:=by simpa using hb
   have gN:=gN (l:=[x.to])
   have I7:∀ {m:Mem},m 3=some (.cells [I x.to] 3)->Sns prog [3] m [qO f,.rs 3 0 1] [qO f,aw [x.to]]:=fun hm=>⟨cq (lE kR kS f),EH hm (by simp) (by rw[c3];rfl) (.cons (.s _) .nil),trivial⟩
   refine J2 ?_;refine jU ?_;refine Az ?_;refine dY ?_;refine dS ?_;refine Kn ?_
   refine Ep gN rfl rfl rfl rfl (I7 rfl) ak ?_
   refine cI ?_;refine ct ?_;refine jx ?_;refine bt ?_;refine jx ?_;refine bt ?_;refine jx ?_;refine fe ?_;refine br ?_;refine jx ?_;refine dg ?_;refine ej ?_;refine bD ?_
   refine ab (aO (bh (aM (ap (d:=.s (.bool _)) rfl ?_))))
   simp[iB,h3,hb,aI,iT,ib,Bool.and_assoc,fO]
  .have hf:iB f b x phis ahead=false:=by
    cases phis with
    |false=>simp[iB,h3]
    |true=>simp[iB,h3,show ¬ 0<b by simpa using hb]
   have hf:D.s (.bool false)=B (iB f b x phis ahead):=by rw[hf]
   cases phis with
   |false=>
    refine J2 ?_;refine J2 ?_;refine z fun _ _=>?_;refine z fun _ _=>?_;refine dL ?_;refine z fun _ _=>?_;refine z fun _ _=>?_;refine z fun _ _=>?_;refine z fun _ _=>?_;refine z fun _ _=>?_;refine dL ?_;refine z fun _ _=>?_;refine z fun _ _=>?_;refine z fun _ _=>?_;refine dL ?_;refine z fun _ _=>?_;refine z fun _ _=>?_;refine z fun _ _=>?_;refine dL ?_;refine z fun _ _=>?_;refine z fun _ _=>?_;refine z fun _ _=>?_;refine dL ?_;refine z fun _ _=>?_;refine z fun _ _=>?_;refine z fun _ _=>?_;refine z fun _ _=>?_;refine z fun _ _=>?_;refine dL ?_;refine z fun _ _=>?_;refine z fun _ _=>?_;refine gZ ?_
    exact ab (aO (bh (aM (ap (d:=.s (.bool _)) rfl hf))))
   |true=>
    have tS:decide (0<b)=false:=by simpa using hb
    refine J2 ?_;refine jU ?_;refine Az ?_;refine dY ?_;refine z fun _ _=>?_;refine z fun _ _=>?_;refine z fun _ _=>?_;refine z fun _ _=>?_;refine z fun _ _=>?_;refine dL ?_;refine z fun _ _=>?_;refine z fun _ _=>?_;refine z fun _ _=>?_;refine dL ?_;refine z fun _ _=>?_;refine z fun _ _=>?_;refine z fun _ _=>?_;refine dL ?_;refine z fun _ _=>?_;refine z fun _ _=>?_;refine z fun _ _=>?_;refine dL ?_;refine z fun _ _=>?_;refine z fun _ _=>?_;refine z fun _ _=>?_;refine z fun _ _=>?_;refine z fun _ _=>?_;refine dL ?_;refine z fun _ _=>?_;refine z fun _ _=>?_;refine gZ ?_
    exact ab (aO (bh (aM (ap (d:=.s (.bool _)) rfl hf))))
 have h3:¬ x.op=19:=by simpa using h3
 refine lH (ag ?_)
 have kg:gotD prog 131 true (lookD (.int .u8 x.op) (pV nu))=.tup [.agg (iO ((fw nu x.op).getD w8)),.s (.bool (fw nu x.op).isSome)]:=QH rfl _ _ (by rw[I8];unfold zeroD;rw[Ko,Kp];rfl)
 have Ls:=Oq (P:=prog) (kt:=5) u5 nu
 refine aG ?_;refine aG ?_
 refine aF (MC rfl rfl V.h kg) ak ⟨V.h,by kernel_rfl,Ls⟩ ?_
 refine j6 ?_
 refine aF (qk (v:=.agg (iO _)) rfl rfl) ak (by first|decide|simp) ?_
 refine uu ?_;refine cE ?_
 refine cK (gT (cs':=iO _) rfl rfl rfl rfl) ak (dU V.h V.h (by first|(simp;done)|exact⟨rfl,Nat.le_of_ble_eq_true rfl⟩|(simp;omega)) (by rfl)) ?_
 refine J1 ?_;refine er ?_;refine J2 ?_;refine J2 ?_;refine qd ?_;refine xV ?_
 refine bl rfl rfl (eL (vs:=iO _) rfl rfl V.h V.h rfl) (fun hc=>⟨ak,(eM V.h V.h (by first|(simp;done)|omega|exact Nat.le_of_ble_eq_true rfl))⟩) ?_
 refine gc zI ?_;refine bD ?_
 refine ab (ap (d:=.s (.bool _)) rfl ?_)
 simp[iB,h0,h1,h2,h3]
def TI(f:az)(x:Argus.End)(s:St):Prop:=∃ cells n,Ghost prog s ⟨ax [(2,.pt (aW P0 Q0 f)),(3,.pt (aT x)),(5,.rp 2 0),(6,B (fG f x).1)],up (fun _=>none) 2 (some (.cells cells 69)),n⟩/\cells.length=15/\∀ m,Sns prog [2] m cells (aT (fG f x).2)
theorem vR{l:List Int}{r:Int}:fO l [r]=dW l r:=by simp[fO]
theorem lV{f:az}{x r:Argus.End}{env:Env}{m:Mem}{nx:Nat}{cells:List D}{ok:Bool}(hr:fG f x=(ok,r))(he:mz [(2,.pt (aW P0 Q0 f)),(3,.pt (aT x)),(5,.rp 2 0),(6,B ok)] env)(hm:m 2=some (.cells cells 69))(hl:cells.length=15)
 (hs:∀ m,Sns prog [2] m cells (aT r)):TI f x ⟨env,m,nx⟩:=by
 refine⟨cells,nx,?_,hl,?_⟩
 .rw[hr];exact NC he (ZN hm)
 .rw[hr];exact hs
set_option maxHeartbeats 4000000 in
theorem Fi{f:az}{x:Argus.End}:PCall prog 195 [qO f,.agg (aT x)] (B (iR f x)):=by
 have aP:∀ a∈[qO f,.agg (aT x)],Tr a:=.cons (lE kR kS f) (.cons (.agg (ki x)) .nil)
 have iY:= @iY P0 Q0 f kR kS rfl rfl
 have ff:= @ff P0 Q0 f kR kS rfl rfl
 have gN:= @gN P0 Q0 f kR kS rfl rfl
 have zI:= @zI P0 Q0 f kR kS rfl rfl
 have sC:= @sC P0 Q0 f kR kS rfl rfl
 refine aY mixed TJ (by rw[ahi];rfl) aP (Tr.s _) ?_
 rw[ahj,ahk]
 refine aq ?_
 refine o7 ?_;refine mX ?_;refine J1 ?_
 refine ab (aJ (bg [(0,aW P0 Q0 f,133),(1,aT x,69)] eH (l:=[(2,.pt (aW P0 Q0 f)),(3,.pt (aT x))]) eH) (ag ?_))
 refine gS ?_;refine cE ?_
 refine cK (gT (cs':=aT _) rfl rfl rfl rfl) ak (dU V.h V.h (by first|(simp;done)|exact⟨rfl,Nat.le_of_ble_eq_true rfl⟩|(simp;omega)) (by rfl)) ?_
 refine J1 ?_;refine er ?_;refine c6 ?_
 refine ab ?_
 refine dV (TI f x) (ag ?_) fun s hs=>?_
 .refine aG ?_
  refine ab (qp (ag ?_))
  refine ay ?_
  refine ab (al rfl (fun h=>?_) fun h=>?_)
  .have h:x.kind=1:=by simpa using h
   refine nk ?_
   refine l6 ?_;refine aG ?_;refine cl iY ?_;refine J1 ?_;refine c6 ?_
   refine ab ?_
   exact lV (r:={ x with kind:=0,to:=0 }) (by simp[fG,h,aI,ib,Bool.and_assoc,bF]) ⟨rfl,rfl,rfl,rfl,trivial⟩ rfl rfl (fun m=>by repeat' (first|exact trivial|exact cq (Tr.s _)|exact cq (cN _)|exact cq (jm _)|exact lW|refine And.intro ?_ ?_))
  have h1:¬ x.kind=1:=by simpa using h
  clear h
  refine ws ?_;refine ay ?_
  refine ab (al rfl (fun h=>?_) fun h=>?_)
  .have h:x.kind=2:=by simpa using h
   refine nk ?_
   refine l6 ?_;refine aG ?_;refine cl ff ?_;refine J8 ?_;refine J2 ?_;refine dS ?_;refine gc iY ?_;refine di ?_;refine dS ?_;refine gc iY ?_;refine bD ?_;refine c6 ?_;refine c6 ?_;refine c6 ?_
   refine ab ?_
   exact lV (r:={ x with kind:=0,a:=0,to:=0,fC:=0 }) (by simp[fG,h,aI,ib,Bool.and_assoc,bF]) ⟨rfl,rfl,rfl,rfl,trivial⟩ rfl rfl (fun m=>by repeat' (first|exact trivial|exact cq (Tr.s _)|exact cq (cN _)|exact cq (jm _)|exact lW|refine And.intro ?_ ?_))
  have h2:¬ x.kind=2:=by simpa using h
  clear h
  refine ws ?_;refine ay ?_
  refine ab (al rfl (fun h=>?_) fun h=>?_)
  .have h:x.kind=3:=by simpa using h
   refine ws ?_;refine aG ?_;refine ay ?_;refine c6 ?_;refine er ?_;refine J6 ?_;refine aG ?_;refine jC ?_;refine J2 ?_;refine J7 ?_;refine bt ?_;refine ej ?_;refine J9 ?_
   refine ab (al rfl (fun hr=>?_) fun hr=>?_)
   .have hr:f.result≠0/\f.iter=false:=by simpa[bne,ib] using hr
    refine Nx Yg ?_
    refine l6 ?_;refine aG ?_;refine cl ff ?_;refine J6 ?_;refine aG ?_;refine ay ?_
    refine bc (by simp[apartT]) ?_
    exact lV (r:={ x with kind:=0,a:=0 }) (by simp[fG,h,aI,ib,Bool.and_assoc,hr.1,hr.2]) ⟨rfl,rfl,rfl,rfl,trivial⟩ rfl rfl (fun m=>by repeat' (first|exact trivial|exact cq (Tr.s _)|exact cq (cN _)|exact cq (jm _)|exact lW|refine And.intro ?_ ?_))
   .have hr:¬ (f.result≠0/\f.iter=false):=by simpa[bne,ib] using hr
    refine Hl ?_
    exact lV (r:={ x with kind:=0,a:=0 }) (by simp only[fG,h];simp only[if_neg hr];simp[aI,ib]) ⟨rfl,rfl,rfl,rfl,trivial⟩ rfl rfl (fun m=>by repeat' (first|exact trivial|exact cq (Tr.s _)|exact cq (cN _)|exact cq (jm _)|exact lW|refine And.intro ?_ ?_))
  have h3:¬ x.kind=3:=by simpa using h
  clear h
  refine ws ?_;refine ay ?_
  refine ab (al rfl (fun h=>?_) fun h=>?_)
  .have h:x.kind=4:=by simpa using h
   refine nk ?_
   refine aG ?_;refine cl B5 ?_;refine J1 ?_;refine dT ?_;refine vU ?_
   refine ab ?_
   exact lV (r:={ x with kind:=0,name:=.empty }) (by simp[fG,h,aI,ib,Bool.and_assoc]) ⟨rfl,rfl,rfl,rfl,trivial⟩ rfl rfl (fun m=>by repeat' (first|exact trivial|exact cq (Tr.s _)|exact cq (cN _)|exact cq (jm _)|exact lW|refine And.intro ?_ ?_))
  have h4:¬ x.kind=4:=by simpa using h
  clear h
  refine ws ?_;refine ay ?_
  refine ab (al rfl (fun h=>?_) fun h=>?_)
  .have h:x.kind=5:=by simpa using h
   refine ws ?_
   have kg:gotD prog 131 true (lookD (.int .u8 x.ins.op) (pV iS))=.tup [.agg (iO ((fw iS x.ins.op).getD w8)),.s (.bool (fw iS x.ins.op).isSome)]:=QH rfl _ _ (by rw[I8];unfold zeroD;rw[Ko,Kp];rfl)
   have Ls:=Oq (P:=prog) (kt:=5) u5 iS
   refine aG ?_;refine J6 ?_;refine aG ?_
   refine aF (MC rfl rfl V.h kg) ak ⟨V.h,by kernel_rfl,Ls⟩ ?_
   refine j6 ?_
   refine aF (qk (v:=.agg (iO _)) rfl rfl) ak (by first|decide|simp) ?_
   refine uu ?_;refine cE ?_
   refine cK (gT (cs':=iO _) rfl rfl rfl rfl) ak (dU V.h V.h (by first|(simp;done)|exact⟨rfl,Nat.le_of_ble_eq_true rfl⟩|(simp;omega)) (by rfl)) ?_
   refine J1 ?_;refine er ?_;refine J2 ?_;refine J2 ?_;refine qd ?_;refine J7 ?_;refine xV ?_
   refine bl rfl rfl (eL (vs:=iO _) rfl rfl V.h V.h rfl) (fun hc=>⟨ak,(eM V.h V.h (by first|(simp;done)|omega|exact Nat.le_of_ble_eq_true rfl))⟩) ?_
   refine gc zI ?_;refine di ?_;refine dS ?_;refine gc iY ?_;refine di ?_;refine qd ?_;refine pd ?_;refine gc sC ?_;refine bD ?_
   refine ab (nk ?_)
   refine wI ?_;refine dT ?_;refine n2 ?_;refine c6 ?_;refine dT ?_;refine kG ?_;refine c6 ?_
   refine ab ?_
   exact lV (r:={ x with kind:=0,ins:=dx,to:=0,aD:=[],bX:= -1 }) (by simp[fG,h,aI,ib,Bool.and_assoc,bF]) ⟨rfl,rfl,rfl,rfl,trivial⟩ rfl rfl (fun m=>by repeat' (first|exact trivial|exact cq (Tr.s _)|exact cq (cN _)|exact cq (jm _)|exact lW|refine And.intro ?_ ?_))
  have h5:¬ x.kind=5:=by simpa using h
  clear h
  refine ws ?_;refine ay ?_
  refine ab (al rfl (fun h=>?_) fun h=>?_)
  .have h:x.kind=6:=by simpa using h
   refine ws ?_
   have qW:=qW (s:=x.name)
   have ahl:=gN (l:=[x.a])
   have gN:=gN (l:=x.args)
   have acg:∀ {m:Mem},m 3=some (.cells [I x.a] 3)->Sns prog [3] m [qO f,.rs 3 0 1] [qO f,aw [x.a]]:=fun hm=>⟨cq (lE kR kS f),EH hm (by simp) (by rw[c3];rfl) (.cons (.s _) .nil),trivial⟩
   cases g1:kq x.name with
   |false=>
    rw[g1] at qW
    refine aG ?_;refine cl qW ?_;refine ct ?_;refine j8 ?_;refine wF ?_;refine dL ?_;refine dS ?_;refine gc gN ?_;refine gl ?_;refine ct ?_;refine dN ?_;refine dg ?_;refine dS ?_;refine z fun _ _=>?_;refine z fun _ _=>?_;refine z fun _ _=>?_;refine dL ?_;refine dS ?_;refine gc iY ?_;refine dL ?_;refine qd ?_;refine pd ?_;refine gc sC ?_;refine gZ ?_
    refine ab (nk ?_)
    refine dT ?_;refine vU ?_;refine dT ?_;refine kG ?_;refine c6 ?_;refine c6 ?_;refine dT ?_;refine kG ?_;refine c6 ?_
    refine ab ?_
    exact lV (r:={ x with kind:=0,name:=.empty,args:=[],a:=0,to:=0,aD:=[],bX:= -1 }) (by simp[fG,h,aI,ib,Bool.and_assoc,bF,g1]) ⟨rfl,rfl,rfl,rfl,trivial⟩ rfl rfl (fun m=>by repeat' (first|exact trivial|exact cq (Tr.s _)|exact cq (cN _)|exact cq (jm _)|exact lW|refine And.intro ?_ ?_))
   |true=>
    rw[g1] at qW
    by_cases g2:(x.args.length:Int)<=6
    rotate_left
    .have Vi:decide ((x.args.length:Int)<=6)=false:=by simpa using g2
     refine aG ?_;refine cl qW ?_;refine ct ?_;refine j8 ?_;refine FD ?_;refine dY ?_;refine dS ?_;refine gc gN ?_;refine gl ?_;refine ct ?_;refine dN ?_;refine dg ?_;refine dS ?_;refine z fun _ _=>?_;refine z fun _ _=>?_;refine z fun _ _=>?_;refine dL ?_;refine dS ?_;refine gc iY ?_;refine dL ?_;refine qd ?_;refine pd ?_;refine gc sC ?_;refine gZ ?_
     refine ab (nk ?_)
     refine dT ?_;refine vU ?_;refine dT ?_;refine kG ?_;refine c6 ?_;refine c6 ?_;refine dT ?_;refine kG ?_;refine c6 ?_
     refine ab ?_
     exact lV (r:={ x with kind:=0,name:=.empty,args:=[],a:=0,to:=0,aD:=[],bX:= -1 }) (by simp[fG,h,aI,ib,Bool.and_assoc,bF,g1,g2]) ⟨rfl,rfl,rfl,rfl,trivial⟩ rfl rfl (fun m=>by repeat' (first|exact trivial|exact cq (Tr.s _)|exact cq (cN _)|exact cq (jm _)|exact lW|refine And.intro ?_ ?_))
    have Vi:decide ((x.args.length:Int)<=6)=true:=by simpa using g2
    cases g3:fO f.af x.args with
    |false=>
     rw[g3] at gN
     refine aG ?_;refine cl qW ?_;refine ct ?_;refine j8 ?_;refine FD ?_;refine dY ?_;refine dS ?_;refine gc gN ?_;refine cI ?_;refine ct ?_;refine dN ?_;refine dg ?_;refine dS ?_;refine z fun _ _=>?_;refine z fun _ _=>?_;refine z fun _ _=>?_;refine dL ?_;refine dS ?_;refine gc iY ?_;refine dL ?_;refine qd ?_;refine pd ?_;refine gc sC ?_;refine gZ ?_
     refine ab (nk ?_)
     refine dT ?_;refine vU ?_;refine dT ?_;refine kG ?_;refine c6 ?_;refine c6 ?_;refine dT ?_;refine kG ?_;refine c6 ?_
     refine ab ?_
     exact lV (r:={ x with kind:=0,name:=.empty,args:=[],a:=0,to:=0,aD:=[],bX:= -1 }) (by simp[fG,h,aI,ib,Bool.and_assoc,bF,g1,g2,g3]) ⟨rfl,rfl,rfl,rfl,trivial⟩ rfl rfl (fun m=>by repeat' (first|exact trivial|exact cq (Tr.s _)|exact cq (cN _)|exact cq (jm _)|exact lW|refine And.intro ?_ ?_))
    |true=>
     rw[g3] at gN
     by_cases g4:x.a= -1
     .have gC:(x.a== -1)=true:=by simpa using g4
      refine aG ?_;refine cl qW ?_;refine ct ?_;refine j8 ?_;refine FD ?_;refine dY ?_;refine dS ?_;refine gc gN ?_;refine cI ?_;refine ct ?_;refine vV ?_;refine dg ?_;refine dS ?_;refine z fun _ _=>?_;refine z fun _ _=>?_;refine yr ?_;refine dY ?_;refine dS ?_;refine gc iY ?_;refine dY ?_;refine qd ?_;refine pd ?_;refine gc sC ?_;refine bD ?_
      refine ab (nk ?_)
      refine dT ?_;refine vU ?_;refine dT ?_;refine kG ?_;refine c6 ?_;refine c6 ?_;refine dT ?_;refine kG ?_;refine c6 ?_
      refine ab ?_
      exact lV (r:={ x with kind:=0,name:=.empty,args:=[],a:=0,to:=0,aD:=[],bX:= -1 }) (by simp[fG,h,aI,ib,Bool.and_assoc,bF,g1,g2,g3,g4]) ⟨rfl,rfl,rfl,rfl,trivial⟩ rfl rfl (fun m=>by repeat' (first|exact trivial|exact cq (Tr.s _)|exact cq (cN _)|exact cq (jm _)|exact lW|refine And.intro ?_ ?_))
     .have gC:(x.a== -1)=false:=by simpa using g4
      refine aG ?_;refine cl qW ?_;refine ct ?_;refine j8 ?_;refine FD ?_;refine dY ?_;refine dS ?_;refine gc gN ?_;refine cI ?_;refine ct ?_;refine vV ?_;refine dg ?_;refine dS ?_;refine Kn ?_
      refine Ep ahl rfl rfl rfl rfl (acg rfl) ak ?_
      refine wA ?_;refine dY ?_;refine dS ?_;refine gc iY ?_;refine di ?_;refine qd ?_;refine pd ?_;refine gc sC ?_;refine bD ?_
      refine ab (nk ?_)
      refine dT ?_;refine vU ?_;refine dT ?_;refine kG ?_;refine c6 ?_;refine c6 ?_;refine dT ?_;refine kG ?_;refine c6 ?_
      refine ab ?_
      exact lV (r:={ x with kind:=0,name:=.empty,args:=[],a:=0,to:=0,aD:=[],bX:= -1 }) (by simp[fG,h,aI,ib,Bool.and_assoc,bF,g1,g2,g3,g4,vR]) ⟨rfl,rfl,rfl,rfl,trivial⟩ rfl rfl (fun m=>by repeat' (first|exact trivial|exact cq (Tr.s _)|exact cq (cN _)|exact cq (jm _)|exact lW|refine And.intro ?_ ?_))
  have h6:¬ x.kind=6:=by simpa using h
  clear h
  refine ws ?_;refine ay ?_
  refine ab (al rfl (fun h=>?_) fun h=>?_)
  .have h:x.kind=7:=by simpa using h
   refine ws ?_;refine aG ?_;refine cl qW ?_;refine ct ?_;refine j8 ?_;refine wF ?_;refine di ?_;refine dS ?_;refine gc gN ?_;refine di ?_;refine dS ?_;refine gc ff ?_;refine jx ?_;refine dS ?_;refine gc iY ?_;refine bD ?_
   refine ab (nk ?_)
   refine dT ?_;refine vU ?_;refine dT ?_;refine kG ?_;refine c6 ?_;refine c6 ?_
   refine ab ?_
   exact lV (r:={ x with kind:=0,name:=.empty,args:=[],a:=0,to:=0 }) (by simp[fG,h,aI,ib,Bool.and_assoc,bF]) ⟨rfl,rfl,rfl,rfl,trivial⟩ rfl rfl (fun m=>by repeat' (first|exact trivial|exact cq (Tr.s _)|exact cq (cN _)|exact cq (jm _)|exact lW|refine And.intro ?_ ?_))
  have h7:¬ x.kind=7:=by simpa using h
  clear h
  refine ws ?_;refine ay ?_
  refine ab (al rfl (fun h=>?_) fun h=>?_)
  .have h:x.kind=8:=by simpa using h
   refine ws ?_
   have gN:=gN (l:=[x.b])
   have I7:∀ {m:Mem},m 3=some (.cells [I x.b] 3)->Sns prog [3] m [qO f,.rs 3 0 1] [qO f,aw [x.b]]:=fun hm=>⟨cq (lE kR kS f),EH hm (by simp) (by rw[c3];rfl) (.cons (.s _) .nil),trivial⟩
   by_cases g1:bO f.af x.a=3
   .have gC:(bO f.af x.a==3)=true:=by simpa using g1
    refine l6 ?_;refine aG ?_;refine cl ff ?_;refine kF ?_;refine J2 ?_;refine dS ?_;refine Kn ?_
    refine Ep gN rfl rfl rfl rfl (I7 rfl) ak ?_
    refine dY ?_;refine dS ?_;refine gc iY ?_;refine di ?_;refine dS ?_;refine gc iY ?_;refine di ?_;refine qd ?_;refine pd ?_;refine gc sC ?_;refine bD ?_
    refine ab (nk ?_)
    refine c6 ?_;refine c6 ?_;refine c6 ?_;refine c6 ?_;refine dT ?_;refine kG ?_;refine c6 ?_
    refine ab ?_
    exact lV (r:={ x with kind:=0,a:=0,b:=0,to:=0,fC:=0,aD:=[],bX:= -1 }) (by simp[fG,h,aI,ib,Bool.and_assoc,bF,g1,vR]) ⟨rfl,rfl,rfl,rfl,trivial⟩ rfl rfl (fun m=>by repeat' (first|exact trivial|exact cq (Tr.s _)|exact cq (cN _)|exact cq (jm _)|exact lW|refine And.intro ?_ ?_))
   .have gC:(bO f.af x.a==3)=false:=by simpa using g1
    refine l6 ?_;refine aG ?_;refine cl ff ?_;refine kF ?_;refine J2 ?_;refine dS ?_;refine z fun _ _=>?_;refine z fun _ _=>?_;refine dL ?_;refine dS ?_;refine gc iY ?_;refine dL ?_;refine dS ?_;refine gc iY ?_;refine dL ?_;refine qd ?_;refine pd ?_;refine gc sC ?_;refine gZ ?_
    refine ab (nk ?_)
    refine c6 ?_;refine c6 ?_;refine c6 ?_;refine c6 ?_;refine dT ?_;refine kG ?_;refine c6 ?_
    refine ab ?_
    exact lV (r:={ x with kind:=0,a:=0,b:=0,to:=0,fC:=0,aD:=[],bX:= -1 }) (by simp[fG,h,aI,ib,Bool.and_assoc,bF,g1]) ⟨rfl,rfl,rfl,rfl,trivial⟩ rfl rfl (fun m=>by repeat' (first|exact trivial|exact cq (Tr.s _)|exact cq (cN _)|exact cq (jm _)|exact lW|refine And.intro ?_ ?_))
  have h8:¬ x.kind=8:=by simpa using h
  clear h
  refine ws ?_;refine ay ?_
  refine ab (al rfl (fun h=>?_) fun h=>?_)
  .have h:x.kind=9:=by simpa using h
   refine Nx Yh ?_
   refine J6 ?_;refine aG ?_;refine J2 ?_;refine dS ?_;refine gc ff ?_;refine J7 ?_;refine bt ?_;refine jx ?_;refine dS ?_;refine gc iY ?_;refine bD ?_;refine c6 ?_;refine c6 ?_
   refine bc (by simp[apartT]) ?_
   exact lV (r:={ x with kind:=0,a:=0,to:=0 }) (by simp[fG,h,aI,ib,Bool.and_assoc,bF]) ⟨rfl,rfl,rfl,rfl,trivial⟩ rfl rfl (fun m=>by repeat' (first|exact trivial|exact cq (Tr.s _)|exact cq (cN _)|exact cq (jm _)|exact lW|refine And.intro ?_ ?_))
  .have h9:¬ x.kind=9:=by simpa using h
   refine Hl ?_
   exact lV (r:={ x with kind:=0 }) (by simp[fG,h1,h2,h3,h4,h5,h6,h7,h8,h9]) ⟨rfl,rfl,rfl,rfl,trivial⟩ rfl rfl (fun m=>by repeat' (first|exact trivial|exact cq (Tr.s _)|exact cq (cN _)|exact cq (jm _)|exact lW|refine And.intro ?_ ?_))
 .obtain⟨cells,n,hg,hl,hs⟩:=hs
  refine⟨_,hg,ag ?_⟩
  have rA:(cells.drop 0).take 15=cells:=by rw[List.drop_zero,List.take_of_length_le oG]
  have Kh:=Kh (x:=(fG f x).2)
  have ahm:∀ {m:Mem},m 2=m 2->Sns prog [2] m [.agg ((cells.drop 0).take 15)] [.agg (aT (fG f x).2)]:=fun {m} _=>⟨ach (by rw[rA];exact hs m),trivial⟩
  have he:iR f x=((fG f x).1&&xF (fG f x).2):=rfl
  generalize (fG f x).1=ok at he
  cases ok with
  |true=>
   refine J2 ?_;refine J2 ?_;refine Kq ?_
   refine Ep Kh rfl rfl rfl rfl (ahm rfl) ak ?_
   refine cI ?_;refine J1 ?_
   refine ab (ap (d:=.s (.bool _)) rfl ?_)
   rw[he]
   simp
  |false=>
   refine J2 ?_;refine J2 ?_;refine z fun _ _=>?_;refine z fun _ _=>?_;refine gZ ?_
   refine ab (ap (d:=.s (.bool _)) rfl ?_)
   rw[he]
   simp
theorem tQ{n:Int}(hn: -1000000<=n/\n<=1000000):PCall prog 244 [I n] (I (jE n)):=by
 refine aY mixed TO (by rw[ahA];rfl) (by simp[Tr.s]) (Tr.s _) ?_
 rw[ahB,ahC]
 refine ws ?_;refine J3 ?_;refine er ?_;refine bd ?_
 exact ab (ap rfl rfl)
theorem zx{x:a8}:PCall prog 139 [.agg (a7 x)] (I (cO x)):=by
 have aP:∀ a∈[D.agg (a7 x)],Tr a:=.cons (.agg (pE x)) .nil
 refine aY mixed TP (by rw[ahD];rfl) aP (Tr.s _) ?_
 rw[ahE,ahF]
 refine aq ?_
 refine sS ?_;refine J3 ?_
 refine ab (aJ (bg [(0,a7 x,66)] eH (l:=[(1,.pt (a7 x))]) eH) (aC (ag ?_)))
 refine aG ?_
 refine ab (mg ?_)
 refine dV (fun s=>Ghost prog s ⟨ax [(1,.pt (a7 x)),(4,U8 x.op),(5,B (aH lA x.op))],fun _=>none,1⟩) (ag ?_) fun s hg=>⟨_,hg,?_⟩
 .refine ay ?_
  refine ab (al rfl (fun h=>aR ?_) fun e1=>ag ?_)
  .have h:x.op=1:=by simpa using h
   refine ao ⟨rfl,rfl,?_,trivial⟩
   show D.s (.bool (x.op==1))=_
   rw[h];rfl
  refine ay ?_
  refine ab (al rfl (fun h=>aR ?_) fun e2=>ag ?_)
  .have h:x.op=2:=by simpa using h
   refine ao ⟨rfl,rfl,?_,trivial⟩
   show D.s (.bool (x.op==2))=_
   rw[h];rfl
  refine ay ?_
  refine ab (al rfl (fun h=>aR ?_) fun e3=>ag ?_)
  .have h:x.op=3:=by simpa using h
   refine ao ⟨rfl,rfl,?_,trivial⟩
   show D.s (.bool (x.op==3))=_
   rw[h];rfl
  refine ay ?_
  refine ab (al rfl (fun h=>aR ?_) fun e4=>ag ?_)
  .have h:x.op=4:=by simpa using h
   refine ao ⟨rfl,rfl,?_,trivial⟩
   show D.s (.bool (x.op==4))=_
   rw[h];rfl
  refine ay ?_
  refine ab (al rfl (fun h=>aR ?_) fun e5=>ag ?_)
  .have h:x.op=5:=by simpa using h
   refine ao ⟨rfl,rfl,?_,trivial⟩
   show D.s (.bool (x.op==5))=_
   rw[h];rfl
  refine ay ?_
  refine ab (al rfl (fun h=>aR ?_) fun e6=>ag ?_)
  .have h:x.op=6:=by simpa using h
   refine ao ⟨rfl,rfl,?_,trivial⟩
   show D.s (.bool (x.op==6))=_
   rw[h];rfl
  refine ay ?_
  refine ab (al rfl (fun h=>aR ?_) fun e7=>ag ?_)
  .have h:x.op=7:=by simpa using h
   refine ao ⟨rfl,rfl,?_,trivial⟩
   show D.s (.bool (x.op==7))=_
   rw[h];rfl
  refine ay ?_
  refine ab (al rfl (fun h=>aR ?_) fun e8=>ag ?_)
  .have h:x.op=8:=by simpa using h
   refine ao ⟨rfl,rfl,?_,trivial⟩
   show D.s (.bool (x.op==8))=_
   rw[h];rfl
  refine ay ?_
  refine ab (al rfl (fun h=>aR ?_) fun e9=>ag ?_)
  .have h:x.op=9:=by simpa using h
   refine ao ⟨rfl,rfl,?_,trivial⟩
   show D.s (.bool (x.op==9))=_
   rw[h];rfl
  refine ay ?_
  refine ab (al rfl (fun h=>aR ?_) fun Lz=>ag ?_)
  .have h:x.op=10:=by simpa using h
   refine ao ⟨rfl,rfl,?_,trivial⟩
   show D.s (.bool (x.op==10))=_
   rw[h];rfl
  refine ay ?_
  refine ab (al rfl (fun h=>aR ?_) fun uD=>ag ?_)
  .have h:x.op=11:=by simpa using h
   refine ao ⟨rfl,rfl,?_,trivial⟩
   show D.s (.bool (x.op==11))=_
   rw[h];rfl
  refine ay ?_
  refine ab (al rfl (fun h=>aR ?_) fun uJ=>ag ?_)
  .have h:x.op=13:=by simpa using h
   refine ao ⟨rfl,rfl,?_,trivial⟩
   show D.s (.bool (x.op==13))=_
   rw[h];rfl
  refine ay ?_
  refine ab (al rfl (fun h=>aR ?_) fun yA=>ag ?_)
  .have h:x.op=14:=by simpa using h
   refine ao ⟨rfl,rfl,?_,trivial⟩
   show D.s (.bool (x.op==14))=_
   rw[h];rfl
  refine ay ?_
  refine ab (al rfl (fun h=>aR ?_) fun Df=>kp ?_)
  .have h:x.op=17:=by simpa using h
   refine ao ⟨rfl,rfl,?_,trivial⟩
   show D.s (.bool (x.op==17))=_
   rw[h];rfl
  refine ay ?_
  refine ab ?_
  refine ao ⟨rfl,rfl,?_,trivial⟩
  show D.s (.bool (x.op==19))=_
  simp[aH,lA,e1,e2,e3,e4,e5,e6,e7,e8,e9,Lz,uD,uJ,yA,Df]
 refine al rfl (fun h1=>?_) fun h1=>?_
 .refine ws ?_;refine aG ?_;refine J3 ?_
  refine ab (aO (bh (aM (ap (d:=I x.to) rfl ?_))))
  simp[cO,h1]
 refine dV (fun s=>Ghost prog s ⟨ax [(1,.pt (a7 x)),(4,U8 x.op),(23,B (aH nj x.op))],fun _=>none,1⟩) (ag ?_) fun s hg=>⟨_,hg,?_⟩
 .refine ay ?_
  refine ab (al rfl (fun h=>aR ?_) fun uK=>ag ?_)
  .have h:x.op=30:=by simpa using h
   refine ao ⟨rfl,rfl,?_,trivial⟩
   show D.s (.bool (x.op==30))=_
   rw[h];rfl
  refine ay ?_
  refine ab (al rfl (fun h=>aR ?_) fun uL=>ag ?_)
  .have h:x.op=31:=by simpa using h
   refine ao ⟨rfl,rfl,?_,trivial⟩
   show D.s (.bool (x.op==31))=_
   rw[h];rfl
  refine ay ?_
  refine ab (al rfl (fun h=>aR ?_) fun uM=>ag ?_)
  .have h:x.op=32:=by simpa using h
   refine ao ⟨rfl,rfl,?_,trivial⟩
   show D.s (.bool (x.op==32))=_
   rw[h];rfl
  refine ay ?_
  refine ab (al rfl (fun h=>aR ?_) fun uN=>ag ?_)
  .have h:x.op=33:=by simpa using h
   refine ao ⟨rfl,rfl,?_,trivial⟩
   show D.s (.bool (x.op==33))=_
   rw[h];rfl
  refine ay ?_
  refine ab (al rfl (fun h=>aR ?_) fun yB=>ag ?_)
  .have h:x.op=34:=by simpa using h
   refine ao ⟨rfl,rfl,?_,trivial⟩
   show D.s (.bool (x.op==34))=_
   rw[h];rfl
  refine ay ?_
  refine ab (al rfl (fun h=>aR ?_) fun LA=>kp ?_)
  .have h:x.op=36:=by simpa using h
   refine ao ⟨rfl,rfl,?_,trivial⟩
   show D.s (.bool (x.op==36))=_
   rw[h];rfl
  refine ay ?_
  refine ab ?_
  refine ao ⟨rfl,rfl,?_,trivial⟩
  show D.s (.bool (x.op==37))=_
  simp[aH,nj,uK,uL,uM,uN,yB,LA]
 refine al rfl (fun h2=>?_) fun h2=>?_
 .refine ws ?_;refine aG ?_;refine J3 ?_
  refine ab (aO (bh (aM (ap (d:=I x.to) rfl ?_))))
  simp[cO,h2]
 refine lH (ag ?_)
 refine J3 ?_
 refine ab (ap (d:=I (-1)) rfl ?_)
 simp[cO,h1,h2]
theorem JI{x:Argus.End}:PCall prog 175 [.agg (aT x)] (I (dQ x)):=by
 have aP:∀ a∈[D.agg (aT x)],Tr a:=.cons (.agg (ki x)) .nil
 have zx:=zx (x:=x.ins)
 refine aY mixed TQ (by rw[ahG];rfl) aP (Tr.s _) ?_
 rw[ahH,ahI]
 refine aq ?_
 refine mX ?_;refine J3 ?_
 refine ab (aJ (bg [(0,aT x,69)] eH (l:=[(1,.pt (aT x))]) eH) (aC (ag ?_)))
 refine aG ?_
 refine ab (mg (ag ?_))
 refine ay ?_
 refine ab (al rfl (fun h1=>?_) fun h1=>?_)
 .have h1:x.kind=5:=by simpa using h1
  refine ws ?_;refine J6 ?_;refine eF ?_;refine cl zx ?_;refine J3 ?_
  refine ab (aO (bh (aM (ap (d:=I (cO x.ins)) rfl ?_))))
  simp[dQ,h1]
 have h1:¬ x.kind=5:=by simpa using h1
 refine dV (fun s=>Ghost prog s ⟨ax [(1,.pt (aT x)),(4,U8 x.kind),(10,B (aH [6,7] x.kind))],fun _=>none,1⟩) (ag ?_) fun s hg=>⟨_,hg,?_⟩
 .refine ay ?_
  refine ab (al rfl (fun h=>aR ?_) fun e6=>kp ?_)
  .have h:x.kind=6:=by simpa using h
   refine ao ⟨rfl,rfl,?_,trivial⟩
   show D.s (.bool (x.kind==6))=_
   rw[h];rfl
  refine ay ?_
  refine ab ?_
  refine ao ⟨rfl,rfl,?_,trivial⟩
  show D.s (.bool (x.kind==7))=_
  simp[aH,e6]
 refine al rfl (fun h2=>?_) fun h2=>?_
 .refine ws ?_;refine aG ?_;refine J3 ?_
  refine ab (aO (bh (aM (ap (d:=I x.a) rfl ?_))))
  simp[dQ,h1,h2]
 refine ws ?_;refine ay ?_
 refine ab (al rfl (fun h3=>?_) fun h3=>?_)
 .have h3:x.kind=8:=by simpa using h3
  refine ws ?_;refine aG ?_;refine J3 ?_
  refine ab (aO (bh (aM (ap (d:=I x.b) rfl ?_))))
  simp[dQ,h2,h3]
  simp[aH]
 have h3:¬ x.kind=8:=by simpa using h3
 refine lH (ag ?_)
 refine J3 ?_
 refine ab (ap (d:=I (-1)) rfl ?_)
 simp[dQ,h1,h2,h3]
theorem zY{l:List Int}(hl:l.length<=100000):PCall prog 105 [aw l] (aw l):=by
 have aP:∀ a∈[aw l],Tr a:=.cons (cN _) .nil
 refine aY mixed TR (by rw[ahJ];rfl) aP (cN _) ?_
 rw[ahK,ahL]
 have qZ:(l.map I).take (l.length*1)=l.map I:=List.take_of_length_le (by simp)
 have last:AW prog noY true (.seq (.region 3 (Z uX 11) false) .ret) (retQ prog [.tmp 2] fun d x=>d=aw l) ⟨ax [(0,aw l)],fun _=>none,0⟩:=by
  refine aq ?_
  refine zM ?_;refine j4 ?_;refine uI ?_;refine bJ ?_
  refine ab (aJ (bg [(1,l.map I,3)] eH (l:=[(2,aw l)]) ⟨?_,trivial⟩) (ap rfl rfl))
  show rk _ [(1,l.map I,3)] (.rs 1 0 (0+l.length))=.sl (l.map I) l.length
  rw[Nat.zero_add]
  exact jP c3 (List.take_of_length_le (by simp))
 refine ws ?_;refine c7 ?_
 refine ab ?_
 refine dV (fun s=>Ghost prog s ⟨ax [(0,aw l)],fun _=>none,0⟩) (ag ?_) fun s hg=>⟨_,hg,last⟩
 cases l with
 |nil=>
  refine j4 ?_
  refine aF (acn rfl) ak V.h ?_
  refine ab (aa3 rfl (aq ?_) (aR (ao eH)))
  refine c7 ?_
  exact ab (aJ (wS (n0:=2) rfl) (aO (aM (ap rfl rfl))))
 |cons a l=>
  have khn:(a::l).length≠0:=by simp
  refine j4 ?_
  refine aF (aco rfl khn) ak V.h ?_
  exact ab (al rfl (fun h=>(by cases h)) fun h=>aR (ao eH))
theorem zB{x:a8}(hx:x.op=10\/x.op=38->x.args.length<=1000):PCall prog 140 [.agg (a7 x)] (aw (bS x)):=by
 have aP:∀ a∈[D.agg (a7 x)],Tr a:=.cons (.agg (pE x)) .nil
 refine aY mixed TS (by rw[ahM];rfl) aP (cN _) ?_
 rw[ahN,ahO]
 refine aq ?_
 refine sS ?_;refine c7 ?_
 refine ab (aJ (bg [(0,a7 x,66)] eH (l:=[(1,.pt (a7 x))]) eH) (aC (ag ?_)))
 refine aG ?_
 refine ab (mg ?_)
 refine dV (fun s=>Ghost prog s ⟨ax [(1,.pt (a7 x)),(4,U8 x.op),(5,B (aH nr x.op))],fun _=>none,1⟩) (ag ?_) fun s hg=>⟨_,hg,?_⟩
 .refine ay ?_
  refine ab (al rfl (fun h=>aR ?_) fun e2=>ag ?_)
  .have h:x.op=2:=by simpa using h
   refine ao ⟨rfl,rfl,?_,trivial⟩
   show D.s (.bool (x.op==2))=_
   rw[h];rfl
  refine ay ?_
  refine ab (al rfl (fun h=>aR ?_) fun e8=>ag ?_)
  .have h:x.op=8:=by simpa using h
   refine ao ⟨rfl,rfl,?_,trivial⟩
   show D.s (.bool (x.op==8))=_
   rw[h];rfl
  refine ay ?_
  refine ab (al rfl (fun h=>aR ?_) fun uD=>ag ?_)
  .have h:x.op=11:=by simpa using h
   refine ao ⟨rfl,rfl,?_,trivial⟩
   show D.s (.bool (x.op==11))=_
   rw[h];rfl
  refine ay ?_
  refine ab (al rfl (fun h=>aR ?_) fun uJ=>ag ?_)
  .have h:x.op=13:=by simpa using h
   refine ao ⟨rfl,rfl,?_,trivial⟩
   show D.s (.bool (x.op==13))=_
   rw[h];rfl
  refine ay ?_
  refine ab (al rfl (fun h=>aR ?_) fun yA=>ag ?_)
  .have h:x.op=14:=by simpa using h
   refine ao ⟨rfl,rfl,?_,trivial⟩
   show D.s (.bool (x.op==14))=_
   rw[h];rfl
  refine ay ?_
  refine ab (al rfl (fun h=>aR ?_) fun Dg=>ag ?_)
  .have h:x.op=15:=by simpa using h
   refine ao ⟨rfl,rfl,?_,trivial⟩
   show D.s (.bool (x.op==15))=_
   rw[h];rfl
  refine ay ?_
  refine ab (al rfl (fun h=>aR ?_) fun Dh=>ag ?_)
  .have h:x.op=16:=by simpa using h
   refine ao ⟨rfl,rfl,?_,trivial⟩
   show D.s (.bool (x.op==16))=_
   rw[h];rfl
  refine ay ?_
  refine ab (al rfl (fun h=>aR ?_) fun LB=>kp ?_)
  .have h:x.op=18:=by simpa using h
   refine ao ⟨rfl,rfl,?_,trivial⟩
   show D.s (.bool (x.op==18))=_
   rw[h];rfl
  refine ay ?_
  refine ab ?_
  refine ao ⟨rfl,rfl,?_,trivial⟩
  show D.s (.bool (x.op==36))=_
  simp[aH,nr,e2,e8,uD,uJ,yA,Dg,Dh,LB]
 refine al rfl (fun h1=>?_) fun h1=>?_
 .refine aq ?_
  refine aG ?_;refine fY ?_;refine bJ ?_
  refine ab (aJ (bg [(1,([x.a]).map I,3)] eH (l:=[(2,aw ([x.a]))]) ⟨jP c3 rfl,trivial⟩) (aO (bh (aM (ap (d:=aw ([x.a])) rfl ?_)))))
  exact congrArg aw (by unfold bS;rw[if_pos h1])
 refine dV (fun s=>Ghost prog s ⟨ax [(1,.pt (a7 x)),(4,U8 x.op),(18,B (aH qq x.op))],fun _=>none,1⟩) (ag ?_) fun s hg=>⟨_,hg,?_⟩
 .refine ay ?_
  refine ab (al rfl (fun h=>aR ?_) fun e3=>ag ?_)
  .have h:x.op=3:=by simpa using h
   refine ao ⟨rfl,rfl,?_,trivial⟩
   show D.s (.bool (x.op==3))=_
   rw[h];rfl
  refine ay ?_
  refine ab (al rfl (fun h=>aR ?_) fun e4=>ag ?_)
  .have h:x.op=4:=by simpa using h
   refine ao ⟨rfl,rfl,?_,trivial⟩
   show D.s (.bool (x.op==4))=_
   rw[h];rfl
  refine ay ?_
  refine ab (al rfl (fun h=>aR ?_) fun e5=>ag ?_)
  .have h:x.op=5:=by simpa using h
   refine ao ⟨rfl,rfl,?_,trivial⟩
   show D.s (.bool (x.op==5))=_
   rw[h];rfl
  refine ay ?_
  refine ab (al rfl (fun h=>aR ?_) fun e6=>ag ?_)
  .have h:x.op=6:=by simpa using h
   refine ao ⟨rfl,rfl,?_,trivial⟩
   show D.s (.bool (x.op==6))=_
   rw[h];rfl
  refine ay ?_
  refine ab (al rfl (fun h=>aR ?_) fun e7=>ag ?_)
  .have h:x.op=7:=by simpa using h
   refine ao ⟨rfl,rfl,?_,trivial⟩
   show D.s (.bool (x.op==7))=_
   rw[h];rfl
  refine ay ?_
  refine ab (al rfl (fun h=>aR ?_) fun LC=>ag ?_)
  .have h:x.op=12:=by simpa using h
   refine ao ⟨rfl,rfl,?_,trivial⟩
   show D.s (.bool (x.op==12))=_
   rw[h];rfl
  refine ay ?_
  refine ab (al rfl (fun h=>aR ?_) fun uK=>ag ?_)
  .have h:x.op=30:=by simpa using h
   refine ao ⟨rfl,rfl,?_,trivial⟩
   show D.s (.bool (x.op==30))=_
   rw[h];rfl
  refine ay ?_
  refine ab (al rfl (fun h=>aR ?_) fun uL=>ag ?_)
  .have h:x.op=31:=by simpa using h
   refine ao ⟨rfl,rfl,?_,trivial⟩
   show D.s (.bool (x.op==31))=_
   rw[h];rfl
  refine ay ?_
  refine ab (al rfl (fun h=>aR ?_) fun uM=>ag ?_)
  .have h:x.op=32:=by simpa using h
   refine ao ⟨rfl,rfl,?_,trivial⟩
   show D.s (.bool (x.op==32))=_
   rw[h];rfl
  refine ay ?_
  refine ab (al rfl (fun h=>aR ?_) fun uN=>ag ?_)
  .have h:x.op=33:=by simpa using h
   refine ao ⟨rfl,rfl,?_,trivial⟩
   show D.s (.bool (x.op==33))=_
   rw[h];rfl
  refine ay ?_
  refine ab (al rfl (fun h=>aR ?_) fun yB=>ag ?_)
  .have h:x.op=34:=by simpa using h
   refine ao ⟨rfl,rfl,?_,trivial⟩
   show D.s (.bool (x.op==34))=_
   rw[h];rfl
  refine ay ?_
  refine ab (al rfl (fun h=>aR ?_) fun LD=>kp ?_)
  .have h:x.op=35:=by simpa using h
   refine ao ⟨rfl,rfl,?_,trivial⟩
   show D.s (.bool (x.op==35))=_
   rw[h];rfl
  refine ay ?_
  refine ab ?_
  refine ao ⟨rfl,rfl,?_,trivial⟩
  show D.s (.bool (x.op==37))=_
  simp[aH,qq,e3,e4,e5,e6,e7,LC,uK,uL,uM,uN,yB,LD]
 refine al rfl (fun h2=>?_) fun h2=>?_
 .refine aq ?_
  refine aG ?_;refine aG ?_;refine xW ?_;refine bJ ?_
  refine ab (aJ (bg [(1,([x.a,x.b]).map I,3)] eH (l:=[(2,aw ([x.a,x.b]))]) ⟨jP c3 rfl,trivial⟩) (aO (bh (aM (ap (d:=aw ([x.a,x.b])) rfl ?_)))))
  exact congrArg aw (by unfold bS;rw[if_neg (by simp[h1]),if_pos h2])
 refine ws ?_;refine ay ?_
 refine ab (al rfl (fun h3=>?_) fun h3=>?_)
 .have h3:x.op=10:=by simpa using h3
  have zY:=zY (l:=x.args) (by have:=hx (.inl h3);omega)
  refine ws ?_;refine aG ?_;refine cl zY ?_;refine fJ ?_
  refine ab (aO (bh (aM (ap (d:=aw x.args) rfl ?_))))
  exact congrArg aw (by unfold bS;rw[if_neg (by simp[h1]),if_neg (by simp[h2]),if_pos h3])
 have h3:¬ x.op=10:=by simpa using h3
 refine ws ?_;refine ay ?_
 refine ab (al rfl (fun h4=>?_) fun h4=>?_)
 .have h4:x.op=38:=by simpa using h4
  have hl:=hx (.inr h4)
  have qZ:(x.args.map I).take (x.args.length*1)=x.args.map I:=List.take_of_length_le (by simp)
  refine aq ?_
  refine aG ?_;refine aG ?_;refine xW ?_;refine aG ?_;refine uI ?_;refine bJ ?_
  refine ab (aJ (bg [(2,(x.a::x.b::x.args).map I,3)] eH (l:=[(2,aw (x.a::x.b::x.args))]) ⟨?_,trivial⟩) (aO (bh (aM (ap (d:=aw (x.a::x.b::x.args)) rfl ?_)))))
  .show rk _ [(2,_,3)] (.rs 2 0 (2+x.args.length))=_
   refine(jP c3 (es:=(x.a::x.b::x.args).map I) (List.take_of_length_le (by simp;omega))).trans ?_
   rw[Nat.add_comm];rfl
  .exact congrArg aw (by unfold bS;rw[if_neg (by simp[h1]),if_neg (by simp[h2]),if_neg h3,if_pos h4])
 have h4:¬ x.op=38:=by simpa using h4
 refine lH (aq ?_)
 refine c7 ?_
 refine ab (aJ (wS (n0:=2) rfl) (ap (d:=aw []) rfl ?_))
 exact congrArg aw (by unfold bS;rw[if_neg (by simp[h1]),if_neg (by simp[h2]),if_neg h3,if_neg h4])
theorem JM{x:Argus.End}(hx:x.kind=5->x.ins.op=10\/x.ins.op=38->x.ins.args.length<=1000)(hy:x.kind=6\/x.kind=7->x.args.length<=1000):PCall prog 137 [.agg (aT x)] (aw (bR x)):=by
 have aP:∀ a∈[D.agg (aT x)],Tr a:=.cons (.agg (ki x)) .nil
 refine aY mixed TT (by rw[ahP];rfl) aP (cN _) ?_
 rw[ahQ,ahR]
 refine aq ?_
 refine mX ?_;refine c7 ?_
 refine ab (aJ (bg [(0,aT x,69)] eH (l:=[(1,.pt (aT x))]) eH) (aC (ag ?_)))
 refine aG ?_
 refine ab (mg ?_)
 refine dV (fun s=>Ghost prog s ⟨ax [(1,.pt (aT x)),(4,U8 x.kind),(5,B (aH [2,8,9] x.kind))],fun _=>none,1⟩) (ag ?_) fun s hg=>⟨_,hg,?_⟩
 .refine ay ?_
  refine ab (al rfl (fun h=>aR ?_) fun e2=>ag ?_)
  .have h:x.kind=2:=by simpa using h
   refine ao ⟨rfl,rfl,?_,trivial⟩
   show D.s (.bool (x.kind==2))=_
   rw[h];rfl
  refine ay ?_
  refine ab (al rfl (fun h=>aR ?_) fun e8=>kp ?_)
  .have h:x.kind=8:=by simpa using h
   refine ao ⟨rfl,rfl,?_,trivial⟩
   show D.s (.bool (x.kind==8))=_
   rw[h];rfl
  refine ay ?_
  refine ab ?_
  refine ao ⟨rfl,rfl,?_,trivial⟩
  show D.s (.bool (x.kind==9))=_
  simp[aH,e2,e8]
 refine al rfl (fun h1=>?_) fun h1=>?_
 .refine aq ?_
  refine aG ?_;refine fY ?_;refine bJ ?_
  refine ab (aJ (bg [(1,([x.a]).map I,3)] eH (l:=[(2,aw ([x.a]))]) ⟨jP c3 rfl,trivial⟩) (aO (bh (aM (ap (d:=aw ([x.a])) rfl ?_)))))
  exact congrArg aw (by unfold bR;rw[if_pos h1])
 refine ws ?_;refine ay ?_
 refine ab (al rfl (fun h2=>?_) fun h2=>?_)
 .have h2:x.kind=3:=by simpa using h2
  refine ws ?_;refine aG ?_;refine jC ?_
  refine ab (al rfl (fun h3=>?_) fun h3=>?_)
  .have h3:¬ x.a= -1:=by simpa[bne,ib] using h3
   refine aq ?_
   refine aG ?_;refine fY ?_;refine bJ ?_
   refine ab (aJ (bg [(1,([x.a]).map I,3)] eH (l:=[(2,aw ([x.a]))]) ⟨jP c3 rfl,trivial⟩) (aO (bh (aM (ap (d:=aw ([x.a])) rfl ?_)))))
   exact congrArg aw (by unfold bR;rw[if_neg (by simp[h1]),if_pos h2,if_pos h3])
  .have h3:x.a= -1:=by simpa[bne,ib] using h3
   refine lH (aq ?_)
   refine c7 ?_
   refine ab (aJ (wS (n0:=2) rfl) (ap (d:=aw []) rfl ?_))
   exact congrArg aw (by unfold bR;rw[if_neg (by simp[h1]),if_pos h2,if_neg (by simp[h3])])
 have h2:¬ x.kind=3:=by simpa using h2
 refine ws ?_;refine ay ?_
 refine ab (al rfl (fun h3=>?_) fun h3=>?_)
 .have h3:x.kind=5:=by simpa using h3
  have zB:=zB (x:=x.ins) (hx h3)
  refine ws ?_;refine J6 ?_;refine eF ?_;refine cl zB ?_;refine fJ ?_
  refine ab (aO (bh (aM (ap (d:=aw (bS x.ins)) rfl ?_))))
  exact congrArg aw (by unfold bR;rw[if_neg (by simp[h1]),if_neg h2,if_pos h3])
 have h3:¬ x.kind=5:=by simpa using h3
 refine dV (fun s=>Ghost prog s ⟨ax [(1,.pt (aT x)),(4,U8 x.kind),(25,B (aH [6,7] x.kind))],fun _=>none,1⟩) (ag ?_) fun s hg=>⟨_,hg,?_⟩
 .refine ay ?_
  refine ab (al rfl (fun h=>aR ?_) fun e6=>kp ?_)
  .have h:x.kind=6:=by simpa using h
   refine ao ⟨rfl,rfl,?_,trivial⟩
   show D.s (.bool (x.kind==6))=_
   rw[h];rfl
  refine ay ?_
  refine ab ?_
  refine ao ⟨rfl,rfl,?_,trivial⟩
  show D.s (.bool (x.kind==7))=_
  simp[aH,e6]
 refine al rfl (fun h4=>?_) fun h4=>?_
 .have h5:x.kind=6\/x.kind=7:=by simpa[aH] using h4
  have zY:=zY (l:=x.args) (by have:=hy h5;omega)
  refine ws ?_;refine aG ?_;refine cl zY ?_;refine fJ ?_
  refine ab (aO (bh (aM (ap (d:=aw x.args) rfl ?_))))
  exact congrArg aw (by unfold bR;rw[if_neg (by simp[h1]),if_neg h2,if_neg h3,if_pos h4])
 refine lH (aq ?_)
 refine c7 ?_
 refine ab (aJ (wS (n0:=2) rfl) (ap (d:=aw []) rfl ?_))
 exact congrArg aw (by unfold bR;rw[if_neg (by simp[h1]),if_neg h2,if_neg h3,if_neg (by simp[h4])])
noncomputable def cx0:Ctx:=⟨fun f=>BZ.get f,fun _ _ _=>none,fun _ _=>none⟩
theorem lI:cx0.Ok prog:=⟨mixed,Ie,fun _ _ _ _ h=>(by cases h),fun _ _ _ h=>(by cases h)⟩
theorem AU{off:Nat}{vs cs:List D}(hv:vs.length=20)(hl:off+20<=cs.length)(ho:vs.all D.one=true):tyOk prog 231=true/\vs.length=prog.cellsOf 231/\off+prog.cellsOf 231<=cs.length/\vs.all D.one=true:=by
 rw[qV];exact⟨t231,hv,hl,ho⟩
theorem kA{w:List Int}{m:Nat}(hw:w.length=20)(hm:m<1280):PCall prog 200 [gh w,I m] (B (la w m)):=by
 have aP:∀ a∈[gh w,I m],Tr a:=.cons (pQ _) (.cons (.s _) .nil)
 have hi:w[m / 64]? =some w[m / 64]:=List.getElem?_eq_getElem oG
 have hg:w.getD (m / 64) 0=w[m / 64]:=by simp[List.getD_eq_getElem?_getD,hi]
 have Uh:=Sq (m:=m) oG
 have Ui:=Sr m
 have kd:=gn (f:=bZ) hi
 refine aY mixed Ss (by rw[adE];rfl) aP (Tr.s _) ?_
 rw[adF,adG]
 refine ws ?_;refine nQ ?_;refine J1 ?_;refine er ?_;refine J0 ?_;refine Uj ?_;refine Af ?_;refine p9 ?_;refine J0 ?_;refine Uk ?_
 refine aF (ac0 rfl rfl) ak oG ?_
 refine Ul ?_;refine ay ?_
 refine ab (ap (d:=.s (.bool _)) rfl ?_)
 unfold la
 rw[hg]
 rfl
theorem pR{w:List Int}{n:Int}(hw:w.length=20)(hn: -1000000<=n/\n<1280):PCall prog 242 [gh w,I n] (gh (gy w n)):=by
 have aP:∀ a∈[gh w,I n],Tr a:=.cons (pQ _) (.cons (.s _) .nil)
 refine aY mixed Su (by rw[adH];rfl) aP (pQ _) ?_
 rw[adI,adJ]
 refine ws ?_;refine nQ ?_;refine cE ?_
 refine ab (aC (ag ?_))
 by_cases h0:0<=n
 .obtain⟨m,rfl⟩:=Int.eq_ofNat_of_zero_le h0
  have hm:m<1280:=by omega
  have hi:w[m / 64]? =some w[m / 64]:=List.getElem?_eq_getElem oG
  have hg:w.getD (m / 64) 0=w[m / 64]:=by simp[List.getD_eq_getElem?_getD,hi]
  have Uh:=Sq (m:=m) oG
  have Ui:=Sr m
  have kd:=gn (f:=bZ) hi
  have Um:decide (0<=(m:Int))=true:=by simp
  refine J0 ?_;refine Un ?_
  refine ab (bp rfl (fun _=>dP YE ?_) fun h=>(by cases h))
  refine J0 ?_;refine Uj ?_;refine Af ?_;refine p9 ?_;refine J0 ?_;refine Uk ?_;refine aj' ?_;refine aka ?_;refine Af ?_;refine ww ?_
  refine bc (by simp[apartT]) (ag ?_)
  refine wx ?_;refine vK ?_
  refine ab (lG (me rfl rfl tP qV (lO (by first|rfl|simp;omega)) t231 (by simp;omega)) ?_)
  simp only[gy,h0,if_true,Int.toNat_natCast,tA,hg,gh,List.map_set]
  rfl
 .have Um:decide (0<=n)=false:=by simpa using h0
  refine J0 ?_;refine Un ?_
  refine ab (bp rfl (fun h=>(by cases h)) fun _=>b8 (ag ?_))
  refine wx ?_;refine vK ?_
  refine ab (lG (me rfl rfl tP qV (lO (by simp;omega)) t231 (by simp;omega)) ?_)
  simp only[gy,h0,if_false]
theorem E4{w v:List Int}(hw:w.length=20)(hv:v.length=20):PCall prog 243 [gh w,gh v] (gh (gz w v)):=by
 have aP:∀ a∈[gh w,gh v],Tr a:=.cons (pQ _) (.cons (pQ _) .nil)
 refine aY mixed Sv (by rw[adK];rfl) aP (pQ _) ?_
 rw[adL,adM]
 refine ws ?_;refine nQ ?_;refine nQ ?_;refine cE ?_
 refine ab (aC (aq ?_))
 refine J0 ?_
 refine ab (bM (fun s=>Ghost prog s ⟨ax [(2,.rp 0 0),(3,.rp 1 0),(4,.rp 2 0)],aX [(0,.cells ((gz w v).map bZ) 231),(1,.cells (v.map bZ) 231),(2,.cells (List.replicate 20 (bZ 0)) 231)],3⟩) (eX (α:=Nat)
  (fun k=>⟨ax [(2,.rp 0 0),(3,.rp 1 0),(4,.rp 2 0),(6,I k)],aX [(0,.cells ((eS w v k).map bZ) 231),(1,.cells (v.map bZ) 231),(2,.cells (List.replicate 20 (bZ 0)) 231)],3⟩)
  (fun k=>k<=20) (fun k=>20 - k) 0 (aE eH eH) oG ?_) ?_)
 .intro k hk
  refine bB ?_
  refine ab ⟨_,rfl,fun h=>?_,fun h=>?_⟩
  .have aj:k<20:=by have h:(k:Int)<20:=by simpa using h
                    omega
   have tZ:(eS w v k).length=20:=by simp[hw]
   have hi:(eS w v k)[k]? =some (eS w v k)[k]:=List.getElem?_eq_getElem oG
   have hj:v[k]? =some v[k]:=List.getElem?_eq_getElem oG
   have hg:(eS w v k).getD k 0=(eS w v k)[k]:=by simp[List.getD_eq_getElem?_getD,hi]
   have hg':v.getD k 0=v[k]:=by simp[List.getD_eq_getElem?_getD,hj]
   have kd:=gn (f:=bZ) hi
   have jB:=gn (f:=bZ) hj
   refine ws ?_;refine iF ?_
   refine ab (np YF ?_)
   refine J0 ?_;refine Af ?_;refine p9 ?_;refine J0 ?_;refine Af ?_
   refine aF (ic rfl rfl jB V.h) ak (ie V.h V.h jB) ?_
   refine Ul ?_;refine Af ?_;refine ww ?_
   refine bc (by simp[apartT]) ?_
   refine cr ?_
   refine ab (aK (k+1) (aE eH ⟨?_,rfl,rfl,trivial⟩) oG oG)
   rw[up_same]
   simp only[eS,hg,hg',List.map_set]
   rfl
  .have aZ:¬ k<20:=by intro hh;simp at h;omega
   have:k=20:=by omega
   subst this
   exact .forget _ _ _ _ fun t=>n7 (l:=[(2,.rp 0 0),(3,.rp 1 0),(4,.rp 2 0)]) ⟨rfl,rfl,rfl,trivial⟩ t
 .intro s hg
  have hlu:(gz w v).length=20:=by simp[hw]
  generalize gz w v=u at hg hlu ⊢
  refine⟨_,hg,ag ?_⟩
  refine wx ?_;refine vK ?_
  refine ab (lG (me rfl rfl tP qV (lO (by simp;omega)) t231 (by simp;omega)) ?_)
  rfl
def akb:Int:=18446744073709551615
theorem Jx:PCall prog 241 [] (gh (List.replicate 20 akb)):=by
 exact kf lI 100 rfl kr
theorem B0{w:List Int}{x:a8}(hw:w.length=20)(hn:x.op=18->0<=x.n/\x.n<80)(ht:x.op≠18-> -1000000<=cO x/\cO x<1280):PCall prog 245 [gh w,.agg (a7 x)] (gh (gy w (if x.op=18 then jE x.n else cO x))):=by
 have aP:∀ a∈[gh w,.agg (a7 x)],Tr a:=.cons (pQ _) (.cons (.agg (pE x)) .nil)
 refine aY mixed Sw (by rw[adN];rfl) aP (pQ _) ?_
 rw[adO,adP]
 refine ws ?_;refine nQ ?_;refine sS ?_;refine cE ?_
 refine ab (aC (ag ?_))
 refine fy ?_;refine J8 ?_
 refine ab (bp rfl (fun h=>?_) fun h=>b8 (dP YG ?_))
 .have h:x.op=18:=by simpa using h
  have hx:=hn h
  have tQ:=tQ (n:=x.n) oG
  have pR:=pR (w:=w) (n:=jE x.n) hw (by unfold jE;omega)
  refine aC (dP YH ?_)
  refine wx ?_;refine fy ?_;refine cl tQ ?_;refine cl pR ?_;refine vK ?_
  refine bc (by simp[apartT]) (dn (lG (me rfl rfl tP qV (lO (by simp;omega)) t231 (by simp;omega)) ?_))
  simp[h]
 .have h:x.op≠18:=by simpa using h
  have zx:=zx (x:=x)
  have pR:=pR (w:=w) (n:=cO x) hw (ht h)
  refine wx ?_
  refine aF (eL (vs:=a7 _) rfl rfl V.h V.h rfl) ak (eM V.h V.h (by first|(simp;done)|omega|exact Nat.le_of_ble_eq_true rfl)) ?_
  refine cl zx ?_;refine cl pR ?_;refine vK ?_
  refine bc (by simp[apartT]) (lG (me rfl rfl tP qV (lO (by simp;omega)) t231 (by simp;omega)) ?_)
  simp[h]
end Go.Proofs.Tryz.K
namespace Go.Argus
def gF(x:End):Bool:=decide (0<=x.bX)&&aH [5,6,8] x.kind
def cz(x:End):List Int:=if aH [3,4] x.kind then [] else x.to::((if aH [2,8] x.kind then [x.fC] else [])++(x.aD.map (·.to)++(if gF x then [x.bX] else [])))
def oW(x:End):Nat:=if aH [2,8] x.kind then 2 else 1
theorem ZS{x:End}(h:aH [3,4] x.kind=false):(cz x)[0]? =some x.to/\(aH [2,8] x.kind=true->(cz x)[1]? =some x.fC)/\(∀ (j:Nat) w,x.aD[j]? =some w->(cz x)[oW x+j]? =some w.to)/\
 (gF x=true->(cz x)[oW x+x.aD.length]? =some x.bX)/\(cz x).length=oW x+x.aD.length+(if gF x then 1 else 0):=by
 unfold cz oW
 generalize gF x=c
 rw[if_neg (by simp[h])]
 cases h2:aH [2,8] x.kind with
 |true=>
  refine⟨rfl,fun _=>rfl,fun j w hj=>?_,fun hc=>?_,?_⟩
  .have:j<x.aD.length:=(List.getElem?_eq_some_iff.1 hj).1
   simp only[if_true,List.singleton_append]
   rw[show 2+j=j+1+1 by omega,List.getElem?_cons_succ,List.getElem?_cons_succ,List.getElem?_append_left (by simpa using this)]
   simp[hj]
  .simp only[if_true,List.singleton_append]
   rw[show 2+x.aD.length=x.aD.length+1+1 by omega,List.getElem?_cons_succ,List.getElem?_cons_succ,List.getElem?_append_right (by simp)]
   rw[if_pos hc]
   simp
  .cases c<;>simp<;>omega
 |false=>
  refine⟨rfl,fun h=>(by cases h),fun j w hj=>?_,fun hc=>?_,?_⟩
  .have:j<x.aD.length:=(List.getElem?_eq_some_iff.1 hj).1
   simp only[Bool.false_eq_true,if_false,List.nil_append]
   rw[show 1+j=j+1 by omega,List.getElem?_cons_succ,List.getElem?_append_left (by simpa using this)]
   simp[hj]
  .simp only[Bool.false_eq_true,if_false,List.nil_append]
   rw[show 1+x.aD.length=x.aD.length+1 by omega,List.getElem?_cons_succ,List.getElem?_append_right (by simp)]
   rw[if_pos hc]
   simp
  .cases c<;>simp<;>omega
def za(x:End)(b:Int):Bool:=aI x.to b&&aI ((cz x).count b:Nat) 1
theorem HQ(x:End):(cz x).length<=x.aD.length+3:=by
 unfold cz
 split
 .simp
 .simp only[List.length_cons,List.length_append,List.length_map]
  split<;>split<;>simp<;>omega
end Go.Argus
namespace Go.Abs
theorem gu{P:Program}{Y:YSpec}{rf:Bool}{Q:Exit->St->Prop}{st:St}[dR Y]{ops:Array Oper}{i:Nat}(h:AOps P Y ops false [] (fS (Q .normal)) ops.toList st []):AW P Y rf (.region i ops false) Q st:=rS (rf:=rf) (id:=i) (AOps.kZ h fun _ h=>h)
section
variable{P:Program}{env:Env}{m:Mem}{nx:Nat}{x y:Operand}{t p:TypeId}{k:IntKind}{n n':Int}
theorem Qu(hx:(opd env x).core=.s (.int .i64 n))(hy:(opd env y).core=.s (.int .i64 n')){r:Int}(hd:n - n'=r/\ -9223372036854775808<=r/\r<=9223372036854775807):Ef P (.binOp .sub t x y p) env m nx ⟨IntKind.i64=IntKind.i64,.s (.int .i64 r),[],[],0⟩:=by
 obtain⟨rfl,h⟩:=hd
 exact IF hx hy h
theorem nq{j i l:Nat}{e:TypeId}{r:Row}(hx:(opd env x).core=.rs j 0 l)(hy:(opd env y).core=.s (.int k (i:Int)))(hm:m j=some r)(he:elemP P t=e)(hs:P.cellsOf e=1):
 Ef P (.indexAddr t x y) env m nx ⟨slT P t=true/\i<l,.rp j i,[],[j],0⟩:=by
 have h:=H8 (P:=P) (env:=env) (m:=m) (nx:=nx) (t:=t) hx hy hm he hs
 have h1:0+((i:Int)).toNat*1=i:=by simp
 have h2:(slT P t=true/\(0:Int)<=(i:Int)/\(i:Int)<l)=(slT P t=true/\i<l):=by
  apply propext;constructor
  .rintro⟨a,_,b⟩;exact⟨a,by omega⟩
  .rintro⟨a,b⟩;exact⟨a,by omega,by omega⟩
 rw[h1,h2] at h
 exact h
theorem nB{α:Type}(f:Nat->α)(i:Nat)(a b:α):up (up f i a) i b=up f i b:=by
 funext j;simp only[up];split<;>rfl
variable{Y:YSpec}{rf:Bool}{Q:Exit->St->Prop}{st:St}{id gR i1 i3:Nat}{rc ri:Array Oper}{body:Code}{α:Type}{cf:List (Nat×Nat)}{u:Nat}
theorem ab1[dR Y](hi:drawInfo rc=some cf)(S:α->St)(J:α->Prop)(μ:α->Nat)(x₀:α)(hg:Ghost P st (S x₀))(hJ:J x₀)
 (h:∀ x,J x->AOps P Y rc true cf (fS fun s=>∃ g,opd s.env (.tmp u)=.s (.bool g)/\(g=true->AW P Y rf body (mE gR id (fun s=>AOps P Y ri false [] (fS (zh P S J μ x)) ri.toList s []) Q) s)/\(g=false->Q .normal s)) rc.toList (S x) []):
 ∃ st',Ghost P st st'/\AW P Y rf (.block id (.loop (.seq (.seq (.region i1 rc true) (.cond (.tmp u) .skip (.exit id))) (.seq (.block gR body) (.region i3 ri false))))) Q st':=by
 refine Eb (Q:=blockQ id Q) S J μ x₀ hg hJ (fun x hx=>?_) (a:=.skip) fun _ h=>h
 refine aC (Bz (rf:=rf) (id:=i1) hi (AOps.kZ (h x hx) fun s hs=>?_))
 obtain⟨g,h1,h2,h3⟩:=hs
 refine⟨s,.refl s,bp h1 (fun ru=>?_) fun yi=>?_⟩
 .exact b8 (HN (h2 ru))
 .refine n5 ?_
  simp only[seqQ,blockQ,if_true]
  exact h3 yi
theorem lx{l:List (Nat×D)}{m':Mem}(h:mz l env)(hm:m=m'):Ghost P ⟨env,m,nx⟩ ⟨ax l,m',nx⟩:=hm▸ao h
end
end Go.Abs
namespace Go.Proofs.Tryz.K
set_option maxRecDepth 10000
theorem tR{x:Argus.End}:PCall prog 156 [.agg (aT x)] (.fn (.func 202) [] [.pt (aT x)]):=by
 have aP:∀ a∈[D.agg (aT x)],Tr a:=.cons (.agg (ki x)) .nil
 refine aY mixed Sx (by rw[adQ];rfl) aP (.fn (by simp) (.cons (.pt (ki x)) .nil)) ?_
 rw[adR,adS]
 refine aq ?_
 refine mX ?_
 refine aF (mi (v:=.s .nilFunc) rfl) ak trivial ?_
 refine ab (aJ (bg [(0,aT x,69)] eH (l:=[(1,.pt (aT x))]) eH) (ag ?_))
 refine Ag ?_;refine akc ?_
 exact ab (ap rfl rfl)
def K1(l:Nat)(x:Argus.End)(I':Nat->Mem->Nat->Prop)(n:Nat)(s:St):Prop:=∃ m nx,Ghost prog s ⟨ax [(0,.fn (.yield l) [] []),(1,.pt (aT x))],m,nx⟩/\I' n m nx
theorem Uo{x:Argus.End}(hlen:x.aD.length<=100000):SeqA prog 202 [] [.pt (aT x)] ((cz x).map fun n=>[I n]):=by
 refine Ia mixed Sy (by rw[adT];rfl) fun l I' Stop m nx hI EB h0=>?_
 rw[adU,adV]
 by_cases hA:aH [3,4] x.kind=true
 .have ju:((cz x).map fun n=>[I n]).length=0:=by simp[cz,hA]
  rw[ju]
  by_cases h3:x.kind=3
  .have gC:(x.kind==3)=true:=by simpa using h3
   refine aC (ag ?_)
   refine aG ?_;refine kF ?_;refine J2 ?_;refine z fun _ _=>?_;refine z fun _ _=>?_;refine z fun _ _=>?_;refine dY ?_;refine z fun _ _=>?_;refine z fun _ _=>?_;refine z fun _ _=>?_;refine z fun _ _=>?_;refine z fun _ _=>?_;refine cI ?_
   refine ab (bp rfl (fun h=>Qq (aO (aM (tv (.inl h0))))) fun h=>(by cases h))
  .have h4:x.kind=4:=by simpa[aH,h3] using hA
   have gC:(x.kind==3)=false:=by simpa using h3
   have EK:(x.kind==4)=true:=by simpa using h4
   refine aC (ag ?_)
   refine aG ?_;refine kF ?_;refine ct ?_;refine E5 ?_;refine dL ?_;refine z fun _ _=>?_;refine z fun _ _=>?_;refine z fun _ _=>?_;refine z fun _ _=>?_;refine z fun _ _=>?_;refine cI ?_
   refine ab (bp rfl (fun h=>Qq (aO (aM (tv (.inl h0))))) fun h=>(by cases h))
 have hA:aH [3,4] x.kind=false:=by simpa using hA
 obtain⟨x0,x1,xw,xo,xl⟩:=ZS hA
 have CJ:∀ {k:Nat} {n:Int},(cz x)[k]? =some n->((cz x).map fun n=>[I n])[k]? =some [I n]:=fun h=>by simp[h]
 have qM:((cz x).map fun n=>[I n]).length=oW x+x.aD.length+(if gF x then 1 else 0):=by simpa using xl
 have qa:x.kind≠3/\x.kind≠4:=by simpa[aH] using hA
 refine dV (K1 l x I' 1) ?_ fun s hs=>?_
 .have gC:(x.kind==3)=false:=by simpa using qa.1
  have EK:(x.kind==4)=false:=by simpa using qa.2
  refine ws ?_;refine aG ?_;refine kF ?_;refine ct ?_;refine E5 ?_;refine dL ?_;refine E6 ?_;refine bt ?_
  refine EI rfl rfl rfl rfl (by repeat' (first|exact trivial|exact rfl|refine And.intro ?_ ?_)) ⟨rfl,0,CJ x0,h0,fun d m' nx' hp=>?_⟩
  rcases hp with⟨rfl,hp⟩|⟨rfl,hp⟩
  .refine ej ?_;refine gl ?_
   exact ab (al rfl (fun h=>(by cases h)) fun h=>aR ⟨m',nx',ao eH,hp⟩)
  .refine ej ?_;refine gl ?_
   exact ab (al rfl (fun h=>aO (aM (tv (.inr hp)))) fun h=>(by cases h))
 obtain⟨m1,VS,hg,h1⟩:=hs
 refine⟨_,hg,?_⟩
 clear hg h0
 refine dV (K1 l x I' (oW x)) ?_ fun s hs=>?_
 .have yes:aH [2,8] x.kind=true->(cz x)[1]? =some x.fC/\oW x=2:=fun h=>⟨x1 h,by simp[oW,h]⟩
  by_cases h2:x.kind=2
  .obtain⟨y1,y2⟩:=yes (by rw[h2];rfl)
   have gC:(x.kind==2)=true:=by simpa using h2
   refine ws ?_;refine aG ?_;refine kF ?_;refine J2 ?_;refine z fun _ _=>?_;refine z fun _ _=>?_;refine z fun _ _=>?_;refine dY ?_;refine E6 ?_;refine bt ?_
   refine EI rfl rfl rfl rfl (by repeat' (first|exact trivial|exact rfl|refine And.intro ?_ ?_)) ⟨rfl,1,CJ y1,h1,fun d m' nx' hp=>?_⟩
   rcases hp with⟨rfl,hp⟩|⟨rfl,hp⟩
   .refine ej ?_;refine cI ?_
    exact ab (al rfl (fun h=>(by cases h)) fun h=>aR ⟨m',nx',ao eH,y2▸hp⟩)
   .refine ej ?_;refine cI ?_
    exact ab (al rfl (fun h=>aO (aM (tv (.inr hp)))) fun h=>(by cases h))
  .have gC:(x.kind==2)=false:=by simpa using h2
   by_cases h8:x.kind=8
   .obtain⟨y1,y2⟩:=yes (by rw[h8];rfl)
    have EK:(x.kind==8)=true:=by simpa using h8
    refine ws ?_;refine aG ?_;refine kF ?_;refine ct ?_;refine E5 ?_;refine dL ?_;refine E6 ?_;refine bt ?_
    refine EI rfl rfl rfl rfl (by repeat' (first|exact trivial|exact rfl|refine And.intro ?_ ?_)) ⟨rfl,1,CJ y1,h1,fun d m' nx' hp=>?_⟩
    rcases hp with⟨rfl,hp⟩|⟨rfl,hp⟩
    .refine ej ?_;refine cI ?_
     exact ab (al rfl (fun h=>(by cases h)) fun h=>aR ⟨m',nx',ao eH,y2▸hp⟩)
    .refine ej ?_;refine cI ?_
     exact ab (al rfl (fun h=>aO (aM (tv (.inr hp)))) fun h=>(by cases h))
   .have EK:(x.kind==8)=false:=by simpa using h8
    have hb:oW x=1:=by simp[oW,aH,h2,h8]
    refine ws ?_;refine aG ?_;refine kF ?_;refine ct ?_;refine E5 ?_;refine dL ?_;refine z fun _ _=>?_;refine z fun _ _=>?_;refine z fun _ _=>?_;refine z fun _ _=>?_;refine z fun _ _=>?_;refine gl ?_
    exact ab (al rfl (fun h=>(by cases h)) fun h=>aR ⟨m1,VS,ao eH,hb▸h1⟩)
 obtain⟨m2,ix,hg,h2⟩:=hs
 refine⟨_,hg,?_⟩
 clear hg
 refine dV (K1 l x I' (oW x+x.aD.length)) (aq ?_) fun s hs=>?_
 .refine dG ?_;refine J0 ?_
  refine ab (eX (α:=Nat×Mem×Nat) (fun k=>⟨ax [(0,.fn (.yield l) [] []),(1,.pt (aT x)),(36,n6 x.aD),(37,I x.aD.length),(38,I k.1)],k.2.1,k.2.2⟩)
   (fun k=>k.1<=x.aD.length/\I' (oW x+k.1) k.2.1 k.2.2) (fun k=>x.aD.length - k.1) (0,m2,ix) (ao eH) ⟨by omega,h2⟩ ?_)
  rintro⟨k,m3,V2⟩ ⟨hk,oR⟩
  refine bB ?_
  refine ab ⟨_,rfl,fun h=>?_,fun h=>?_⟩
  .have aj:k<x.aD.length:=by simpa using h
   have hx:x.aD[k]? =some x.aD[k]:=by simp[aj]
   generalize x.aD[k]=w at hx
   refine ws ?_;refine wv ?_;refine E3 ?_;refine cE ?_;refine Jy ?_;refine er ?_;refine mW ?_;refine E7 ?_;refine Up ?_
   refine Js rfl rfl (by repeat' (first|exact trivial|exact rfl|refine And.intro ?_ ?_)) ⟨rfl,oW x+k,CJ (xw k w hx),hI _ _ _ _ _ oR oG (fun i hi=>au oG (au oG rfl)),fun d m' nx' hp=>?_⟩
   rcases hp with⟨rfl,hp⟩|⟨rfl,hp⟩
   .refine cS ?_
    refine ab (al rfl (fun h=>(by cases h)) fun h=>cx ?_)
    refine cr ?_
    exact ab (aK (k+1,m',nx') (ao eH) ⟨by simp only;omega,hp⟩ (by simp only;omega))
   .refine cS ?_
    exact ab (al rfl (fun h=>aO (cm (aM (tv (.inr hp))))) fun h=>(by cases h))
  .have aZ:¬ k<x.aD.length:=by simpa using h
   have:k=x.aD.length:=by simp only at hk;omega
   subst this
   exact⟨m3,V2,.forget _ _ _ _ fun t=>n7 (l:=[(0,.fn (.yield l) [] []),(1,.pt (aT x))]) ⟨rfl,rfl,trivial⟩ t,oR⟩
 obtain⟨m3,V2,hg,h3⟩:=hs
 refine⟨_,hg,ag ?_⟩
 refine aG ?_;refine rB ?_;refine ct ?_;refine dN ?_;refine dg ?_;refine bt ?_;refine dN ?_;refine nR ?_;refine dg ?_;refine bt ?_;refine dN ?_;refine nR ?_;refine J9 ?_
 refine ab (al rfl (fun h=>?_) fun h=>?_)
 .have hc:gF x=true:=by
   revert h;unfold gF aH
   simp[ib,or_assoc]
  refine gu ?_
  refine mW ?_;refine aG ?_
  refine Js rfl rfl (by repeat' (first|exact trivial|exact rfl|refine And.intro ?_ ?_)) ⟨rfl,_,CJ (xo hc),h3,fun d m' nx' hp=>?_⟩
  refine ab (sd ?_)
  rcases hp with⟨rfl,hp⟩|⟨rfl,hp⟩
  .left;rw[qM,if_pos hc];exact hp
  .exact .inr hp
 .have hc:gF x=false:=by
   revert h;unfold gF aH
   simp[ib,and_assoc]
  refine cx (sd (.inl ?_))
  rw[qM,hc];exact h3
theorem Jz{x:Argus.End}{b:Int}(hlen:x.aD.length<=1000):PCall prog 246 [.agg (aT x),I b] (B (za x b)):=by
 have aP:∀ a∈[D.agg (aT x),I b],Tr a:=.cons (.agg (ki x)) (.cons (.s _) .nil)
 have tR:=tR (x:=x)
 have hl:=HQ x
 refine aY mixed Sz (by rw[adW];rfl) aP (Tr.s _) ?_
 rw[adX,adY]
 refine aq ?_
 refine mX ?_;refine JA ?_;refine J1 ?_
 refine ab (aJ (bg [(0,aT x,69),(1,[I b],3)] eH (l:=[(2,.pt (aT x)),(3,.pt [I b])]) eH) (ag ?_))
 refine cE ?_;refine Uq ?_
 refine ab ?_
 refine dV (fun s=>∃ n',Ghost prog s ⟨ax [(2,.pt (aT x)),(3,.pt [I b]),(5,.rp 2 0)],aX [(2,.cells [I ((cz x).count b:Nat)] 3)],n'⟩) (ag ?_) fun s hs=>?_
 .refine gS ?_;refine cl tR ?_
  refine ab (qp ?_)
  refine⟨rfl,trivial,202,[],[.pt (aT x)],(cz x).map (fun n=>[I n]),fun k m nx=>m 2=some (.cells [I (((cz x).take k).count b:Nat)] 3)/\3<=nx,rfl,Uo oG,?_,⟨rfl,by simp⟩,?_,?_⟩
  .intro y hy
   obtain⟨n,_,rfl⟩:=List.mem_map.1 hy
   exact⟨rfl,.cons (.s _) .nil⟩
  .rintro k m nx y hy ⟨av,gj⟩
   simp only[List.getElem?_map,Option.map_eq_some_iff] at hy
   obtain⟨n,hn,rfl⟩:=hy
   have hk:k<(cz x).length:=(List.getElem?_eq_some_iff.1 hn).1
   have hc:((cz x).take (k+1)).count b=((cz x).take k).count b+(if n=b then 1 else 0):=by
    rw[List.take_add_one,hn,List.count_append]
    by_cases e:n=b
    .subst e;simp
    .simp[e]
   have hle:((cz x).take k).count b<=k:=Nat.le_trans List.count_le_length (by simp;omega)
   generalize ((cz x).take k).count b=c at av hc hle
   refine gu ?_
   refine J3 ?_
   refine ab (show AW _ _ _ _ _ _ from qp (ag ?_))
   refine J0 ?_;refine J4 ?_;refine J8 ?_
   refine ab (al rfl (fun h=>?_) fun h=>?_)
   .have h:n=b:=by simpa using h
    refine gu ?_
    refine oX ?_;refine Ah ?_
    refine cK (iN (d:=.s (.int _ _)) (cs':=[_]) rfl rfl av rfl rfl) ak (dU V.h V.h (by first|(simp;done)|exact⟨rfl,Nat.le_of_ble_eq_true rfl⟩|(simp;omega)) rfl) ?_
    refine ab ?_
    refine⟨?_,by dsimp only;omega⟩
    dsimp only
    refine(up_same _ _ _).trans ?_
    rw[hc,if_pos h];simp
   .have h:¬ n=b:=by simpa using h
    exact cx ⟨by rw[hc,if_neg h];exact av,gj⟩
  .rintro m nx ⟨h1,h2⟩
   refine⟨nx,aE eH ⟨?_,trivial⟩⟩
   rw[h1,List.length_map,List.take_length]
 obtain⟨n',hg⟩:=hs
 refine⟨_,hg,ag ?_⟩
 refine aG ?_;refine J4 ?_;refine J8 ?_;refine J2 ?_;refine V3 ?_;refine dN ?_;refine bD ?_
 refine ab (ap (d:=.s (.bool _)) rfl ?_)
 simp[za,aI,ib]
theorem JB{f:FuncId}{cs:List D}{xs:List Int}(hs:SeqA prog f [] cs (xs.map fun n=>[I n]))(ht:Tr (.fn (.func f) [] cs))(hlen:xs.length<=100000):OCall prog 258 [.z,.fn (.func f) [] cs] (xs.map I) xs.length 3:=by
 have aP:∀ a∈[D.z,.fn (.func f) [] cs],Tr a:=.cons .z (.cons ht .nil)
 refine tf mixed SA (by rw[adZ];rfl) aP (.map fun _=>.s _) ?_
 rw[ad0,ad1]
 refine ws ?_
 refine gB (En (d:=.z) rfl rfl) ak rfl ?_
 refine c7 ?_
 refine ab ?_
 refine dV (fun s=>(xs=[]/\∃ n',Ghost prog s ⟨ax [(2,.rp 0 0)],aX [(0,.cells [.z] 27)],n'⟩)\/∃ r n',0<r/\Ghost prog s ⟨ax [(2,.rp 0 0)],aX [(0,.cells [.rs r 0 xs.length] 27),(r,.cells (xs.map I) 3)],n'⟩) (ag ?_) fun s hs=>?_
 .refine mW ?_
  refine ab (qp ?_)
  refine⟨rfl,trivial,f,[],cs,xs.map (fun n=>[I n]),fun k m nx=>1<=nx/\((k=0/\m 0=some (.cells [.z] 27))\/(0<k/\∃ r,0<r/\r<nx/\m 0=some (.cells [.rs r 0 k] 27)/\m r=some (.cells ((xs.take k).map I) 3))),rfl,hs,?_,⟨by simp,.inl ⟨rfl,rfl⟩⟩,?_,?_⟩
  .intro y hy
   obtain⟨n,_,rfl⟩:=List.mem_map.1 hy
   exact⟨rfl,.cons (.s _) .nil⟩
  .rintro k m nx y hy ⟨gj,hI⟩
   simp only[List.getElem?_map,Option.map_eq_some_iff] at hy
   obtain⟨n,hn,rfl⟩:=hy
   have hk:k<xs.length:=(List.getElem?_eq_some_iff.1 hn).1
   have uk:(xs.take (k+1)).map I=(xs.take k).map I++[I n]:=by
    rw[List.take_add_one,hn];simp
   refine gu ?_
   refine J3 ?_
   refine ab (show AW _ _ _ _ _ _ from qp (gu ?_))
   rcases hI with⟨rfl,av⟩|⟨yj,r,x9,hrn,av,fF⟩
   .refine oX ?_;refine J0 ?_;refine fY ?_;refine B1 ?_;refine Ur ?_
    refine ab ?_
    refine⟨by dsimp only;omega,.inr ⟨by omega,nx+1,by omega,by dsimp only;omega,?_,?_⟩⟩
    .dsimp only;exact(up_same _ _ _).trans rfl
    .dsimp only;exact(au oG (up_same _ _ _)).trans (by rw[uk];rfl)
   .have rC:((xs.take k).map I).length=k:=by simp;omega
    refine oX ?_;refine J0 ?_;refine fY ?_;refine E8 ?_;refine Us ?_
    refine ab ?_
    refine⟨by dsimp only;omega,.inr ⟨by omega,nx+1,by omega,by dsimp only;omega,?_,?_⟩⟩
    .dsimp only;exact(up_same _ _ _).trans rfl
    .dsimp only;exact(au oG (up_same _ _ _)).trans (by rw[uk];rfl)
  .rintro m nx ⟨gj,hI⟩
   rw[List.length_map] at hI
   rcases hI with⟨h0,av⟩|⟨yj,r,x9,hrn,av,fF⟩
   .exact .inl ⟨List.length_eq_zero_iff.1 h0,nx,aE eH ⟨av,trivial⟩⟩
   .refine .inr ⟨r,nx,x9,aE eH ⟨av,?_,trivial⟩⟩
    rw[fF,List.take_length]
 rcases hs with⟨rfl,n',hg⟩|⟨r,n',hr,hg⟩
 .refine⟨_,hg,aq ?_⟩
  refine eV ?_;refine c7 ?_
  refine ab ⟨_,.nilrow _ _ _ 4 3 rfl,ap rfl ⟨n',?_,up_same _ _ _⟩⟩
  rfl
 .refine⟨_,hg,ag ?_⟩
  refine eV ?_;refine bJ ?_
  refine ab (ap rfl ⟨r,rfl,?_⟩)
  simp[aX];omega
theorem JC{f:FuncId}{cs:List D}{xs:List Int}(hs:SeqA prog f [] cs (xs.map fun n=>[I n]))(ht:Tr (.fn (.func f) [] cs))(hlen:xs.length<=100000):OCall prog 247 [.fn (.func f) [] cs] (xs.map I) xs.length 3:=by
 have aP:∀ a∈[.fn (.func f) [] cs],Tr a:=.cons ht .nil
 refine tf mixed SB (by rw[ad2];rfl) aP (.map fun _=>.s _) ?_
 rw[ad3,ad4]
 have JB:=JB hs ht hlen
 refine ws ?_;refine c7 ?_;refine er ?_;refine mW ?_
 refine zi JB rfl (by repeat' (first|exact trivial|exact rfl|refine And.intro ?_ ?_)) ?_
 refine bJ ?_
 exact ab (ap rfl ⟨0,rfl,rfl⟩)
end Go.Proofs.Tryz.K
namespace Go.Argus
def swapAt(l:List Int)(j:Nat):List Int:=(l.set (j+1) (l.getD j 0)).set j (l.getD (j+1) 0)
def nJ(l:List Int):Nat->List Int
 |0=>l
 |j+1=>if l.getD (j+1) 0<l.getD j 0 then nJ (swapAt l j) j else l
def lP(l:List Int):Nat->List Int
 |0=>l
 |k+1=>nJ (lP l k) (k+1)
def fx(l:List Int):List Int:=lP l (l.length - 1)
@[simp] theorem aqo (l : List Int) (j : Nat) : (swapAt l j).length = l.length := by simp [swapAt]
@[simp] theorem ZT : ∀ (j : Nat) (l : List Int), (nJ l j).length = l.length
 |0,l=>rfl
 |j+1,l=>by simp only[nJ];split<;>simp[ZT j]
@[simp] theorem MH (l : List Int) : ∀ k, (lP l k).length = l.length
 |0=>rfl
 |k+1=>by simp[lP,MH l k]
@[simp] theorem GZ (l : List Int) : (fx l).length = l.length := MH l _
def fj(d:List Int):Nat->List Int
 |0=>[]
 |t+1=>fj d t++(if t≠0/\d.getD t 0=d.getD (t - 1) 0 then [] else [d.getD t 0])
def jG(d:List Int):List Int:=fj d d.length
theorem Od{d:List Int}{x:Int}:∀ {t:Nat},t<=d.length->(x∈fj d t↔x∈d.take t)
 |0,_=>by simp[fj]
 |t+1,ht=>by
  have ih:=Od (d:=d) (x:=x) (t:=t) oG
  have hg:d.getD t 0=d[t]:=by simp[List.getD_eq_getElem?_getD,List.getElem?_eq_getElem (show t<d.length by omega)]
  rw[fj,List.mem_append,ih,List.take_succ_eq_append_getElem oG,List.mem_append]
  split
  .rename_i h
   have h1:d[t - 1]? =some d[t - 1]:=List.getElem?_eq_getElem oG
   have bk:d[t]∈d.take t:=by
    rw[<- hg,h.2]
    have:d.getD (t - 1) 0=d[t - 1]:=by simp[List.getD_eq_getElem?_getD,h1]
    rw[this]
    exact List.mem_of_getElem? (i:=t - 1) (by rw[List.getElem?_take,if_pos oG,h1])
   constructor
   .rintro(h|h)
    .exact .inl h
    .simp at h
   .rintro(h|h)
    .exact .inl h
    .simp at h;subst h;exact .inl bk
  .rw[hg]
theorem HR{d:List Int}:∀ t,(fj d t).length<=t
 |0=>by simp[fj]
 |t+1=>by
  have:=HR (d:=d) t
  rw[fj,List.length_append]
  split<;>simp<;>omega
theorem Qv{d:List Int}{t:Nat}(ht:t<d.length)(h0:t≠0)(h:d.getD t 0=d.getD (t - 1) 0):fj d (t+1)=fj d t:=by
 rw[fj,if_pos ⟨h0,h⟩,List.append_nil]
theorem Qw{d:List Int}{t:Nat}(h:d.getD t 0≠d.getD (t - 1) 0):fj d (t+1)=fj d t++[d.getD t 0]:=by
 rw[fj,if_neg fun hh=>h hh.2]
end Go.Argus
namespace Go.Proofs.Tryz.K
set_option maxRecDepth 10000
theorem akd{a:Int}:PCall prog 227 [I a] (B false):=by
 refine aY mixed SC (by rw[ad5];rfl) (by simp[Tr.s]) (Tr.s _) ?_
 rw[ad6,ad7]
 refine ws ?_;refine J1 ?_;refine er ?_;refine gL ?_;refine jC ?_;refine J1 ?_
 refine ab (ap (d:=.s (.bool _)) rfl ?_)
 simp[bne]
theorem ake{a b:Int}:PCall prog 184 [I a,I b] (B (decide (a<b))):=by
 refine aY mixed SD (by rw[ad8];rfl) (by simp[Tr.s]) (Tr.s _) ?_
 rw[ad9,ad']
 refine ws ?_;refine J1 ?_;refine er ?_;refine J0 ?_;refine cl akd ?_;refine J2 ?_;refine z fun _ _=>?_;refine z fun _ _=>?_;refine z fun _ _=>?_;refine dL ?_;refine br ?_;refine br ?_;refine wy ?_;refine gZ ?_
 exact ab (ap (d:=.s (.bool _)) rfl rfl)
theorem akf{m:Mem}{nx i n:Nat}{l:List Int}(hi:i<nx)(hm:m i=some (.cells (l.map I) 3))(hl:l.length=n)(hn:n<=12):
 ACalls prog 178 [.rs i 0 n,I 0,I n] m nx (fun r m' nx'=>r=.tup []/\nx'=nx/\m'=up m i (some (.cells ((fx l).map I) 3))):=by
 refine uU mixed SE (by rw[aea];rfl) ?_
 rw[aeb,aec]
 have Ai:up m i (some (.cells (l.map I) 3))=m:=by
  funext j;simp only[up];split
  .rename_i e;rw[e,hm]
  .rfl
 refine aq ?_
 refine bd ?_
 refine ab (cH (α:=Nat) (fun k=>⟨ax [(0,.rs i 0 n),(1,I 0),(2,I n),(6,I (k+1:Nat))],up m i (some (.cells ((lP l k).map I) 3)),nx⟩) (fun k=>k<=n - 1) (fun k=>n - k) 0 (lx eH Ai.symm) oG ?_)
 intro k hk
 refine gL ?_;refine bB ?_
 refine ab ⟨_,rfl,fun h=>?_,fun h=>?_⟩
 .have aj:k+1<n:=by have:((k+1:Nat):Int)<n:=by simpa using h
                    omega
  refine aq ?_
  refine iF ?_
  refine ab (ab1 YI (α:=List Int×Nat) (fun s=>⟨ax [(0,.rs i 0 n),(1,I 0),(2,I n),(6,I (k+1:Nat)),(7,I s.2)],up m i (some (.cells (s.1.map I) 3)),nx⟩) (fun s=>s.1.length=n/\s.2<=k+1/\nJ s.1 s.2=lP l (k+1)) (fun s=>s.2) (lP l k,k+1) (ao eH) ⟨by simp[hl],by simp,rfl⟩ ?_)
  rintro⟨d,j⟩ ⟨hd,hj,hs⟩
  simp only at hd hj hs
  cases j with
  |zero=>
   have tS:decide ((0:Int)<((0:Nat):Int))=false:=rfl
   refine gL ?_;refine Ut ?_;refine J2 ?_;refine z fun _ _=>?_;refine z fun _ _=>?_;refine z fun _ _=>?_;refine z fun _ _=>?_;refine z fun _ _=>?_;refine z fun _ _=>?_;refine z fun _ _=>?_;refine z fun _ _=>?_;refine z fun _ _=>?_;refine z fun _ _=>?_;refine gl ?_
   refine bc (by simp[apartT]) ⟨_,rfl,fun h=>(by cases h),fun h=>?_⟩
   have hs:d=lP l (k+1):=hs
   subst hs
   show AOps _ _ _ _ _ _ _ _ _
   refine bd ?_
   exact ab (aK (k+1) (ao eH) oG oG)
  |succ j=>
   have ha:d[j+1]? =some d[j+1]:=List.getElem?_eq_getElem oG
   have hb:d[j]? =some d[j]:=List.getElem?_eq_getElem oG
   have ga:d.getD (j+1) 0=d[j+1]:=by simp[List.getD_eq_getElem?_getD,ha]
   have gb:d.getD j 0=d[j]:=by simp[List.getD_eq_getElem?_getD,hb]
   have kd:=gn (f:=I) ha
   have jB:=gn (f:=I) hb
   generalize hA:d[j+1]=a at ha ga kd
   generalize hB:d[j]=b at hb gb jB
   clear hA hB
   have tS:decide ((0:Int)<((j+1:Nat):Int))=true:=by simp
   have vL:((j+1:Nat):Int) - 1=(j:Int)/\ -9223372036854775808<=(j:Int)/\(j:Int)<=9223372036854775807:=by omega
   refine gL ?_;refine Ut ?_;refine J2 ?_;refine B2 ?_;refine br ?_
   refine bl rfl rfl (nq rfl rfl (up_same _ _ _) V.h V.h) (fun hc=>⟨ak,⟨V.h,by omega⟩⟩) ?_
   refine bl rfl rfl (ic rfl (up_same _ _ _) kd V.h) (fun hc=>⟨ak,(ie V.h V.h kd)⟩) ?_
   refine B2 ?_;refine br ?_;refine JD ?_
   refine bl rfl rfl (nq rfl rfl (up_same _ _ _) V.h V.h) (fun hc=>⟨ak,⟨V.h,by omega⟩⟩) ?_
   refine bl rfl rfl (ic rfl (up_same _ _ _) jB V.h) (fun hc=>⟨ak,(ie V.h V.h jB)⟩) ?_
   refine gc ake ?_;refine cI ?_
   refine bc (by simp[apartT]) ⟨_,rfl,fun h=>?_,fun h=>?_⟩
   .have h:a<b:=by simpa using h
    refine np YJ ?_
    refine cL ?_;refine cL ?_;refine zy ?_;refine cL ?_;refine zy ?_;refine zz ?_
    refine aF (ic rfl (up_same _ _ _) jB V.h) ak (ie V.h V.h jB) ?_
    refine cL ?_;refine zz ?_;refine JE ?_;refine zz ?_;refine E9 ?_;refine zz ?_;refine E9 ?_
    refine bc (by simp[apartT]) ?_
    refine J0 ?_;refine zy ?_;refine J3 ?_
    refine ab (aK (swapAt d j,j) (lx eH ?_) ⟨by simp[hd],by simp only;omega,?_⟩ (by simp only;omega))
    .rw[nB,nB]
     simp only[swapAt,ga,gb,List.map_set]
    .rw[<- hs];simp only[nJ,ga,gb,if_pos h]
   .have h:¬ a<b:=by simpa using h
    have hs:d=lP l (k+1):=by rw[<- hs];simp only[nJ,ga,gb,if_neg h]
    subst hs
    show AOps _ _ _ _ _ _ _ _ _
    refine bd ?_
    exact ab (aK (k+1) (ao eH) oG oG)
 .have aZ:¬ k+1<n:=by have h:¬ ((k+1:Nat):Int)<n:=by simpa using h
                      omega
  refine sd ⟨rfl,rfl,?_⟩
  have:k=n - 1:=by omega
  subst this
  simp only[fx,hl]
theorem akg{m:Mem}{nx i n:Nat}{l:List Int}{nS:Int}(hi:i<nx)(hm:m i=some (.cells (l.map I) 3))(hl:l.length=n)(hn:n<=12):
 ACalls prog 151 [.rs i 0 n,I 0,I n,I nS] m nx (fun r m' nx'=>r=.tup []/\nx'=nx/\m'=up m i (some (.cells ((fx l).map I) 3))):=by
 refine uU mixed SF (by rw[aed];rfl) ?_
 rw[aee,aef]
 refine ws ?_;refine J1 ?_
 refine ab (aq ?_)
 refine J1 ?_
 refine ab ⟨_,ao (l:=[(0,.rs i 0 n),(1,I 0),(2,I n)]) eH,qp (Oa (fun s=>s=⟨ax [(0,.rs i 0 n),(1,I 0),(2,I n)],m,nx⟩) (fun _=>0) rfl fun s hs=>?_)⟩
 subst hs
 refine qp (ag ?_)
 refine gL ?_;refine oY ?_;refine J3 ?_
 refine ab (aC (ag ?_))
 refine J0 ?_;refine Uu ?_
 refine ab (bp rfl (fun h=>?_) fun h=>?_)
 .refine aC (ag ?_)
  refine cL ?_;refine J0 ?_
  refine nA (akf hi hm hl hn) rfl (by repeat' (first|exact trivial|exact rfl|refine And.intro ?_ ?_)) fun r m' nx' hp=>?_
  obtain⟨rfl,rfl,rfl⟩:=hp
  exact ab (dn (bh (aM (bh (tv ⟨rfl,rfl,rfl⟩)))))
 .have:¬ ((n:Int) - 0<=12):=by simpa using h
  omega
theorem JF{n:Nat}(hn:n<=12):∃ r,PCall prog 152 [.s (.int .u64 (IntKind.u64.wrap (n:Int)))] (I r):=by
 match n,hn with
 |0,_=>exact⟨0,kf lI 100 rfl kr⟩
 |1,_=>exact⟨1,kf lI 100 rfl kr⟩
 |2,_=>exact⟨2,kf lI 100 rfl kr⟩
 |3,_=>exact⟨2,kf lI 100 rfl kr⟩
 |4,_=>exact⟨3,kf lI 100 rfl kr⟩
 |5,_=>exact⟨3,kf lI 100 rfl kr⟩
 |6,_=>exact⟨3,kf lI 100 rfl kr⟩
 |7,_=>exact⟨3,kf lI 100 rfl kr⟩
 |8,_=>exact⟨4,kf lI 100 rfl kr⟩
 |9,_=>exact⟨4,kf lI 100 rfl kr⟩
 |10,_=>exact⟨4,kf lI 100 rfl kr⟩
 |11,_=>exact⟨4,kf lI 100 rfl kr⟩
 |12,_=>exact⟨4,kf lI 100 rfl kr⟩
theorem um{m:Mem}{nx i n:Nat}{l:List Int}(hi:i<nx)(hm:m i=some (.cells (l.map I) 3))(hl:l.length=n)(hn:n<=12):
 ACalls prog 89 [.rs i 0 n] m nx (fun r m' nx'=>r=.tup []/\nx'=nx/\m'=up m i (some (.cells ((fx l).map I) 3))):=by
 refine uU mixed Uv (by rw[akh];rfl) ?_
 rw[aki,akj]
 obtain⟨nS,JF⟩:=JF hn
 have av:=hm
 refine ws ?_;refine bT ?_;refine E' ?_;refine J3 ?_
 refine ab (gu ?_)
 refine cL ?_;refine J0 ?_
 refine aF (abT rfl V.h) ak V.h ?_
 refine cl JF ?_
 refine nA (akg hi hm hl hn) rfl (by repeat' (first|exact trivial|exact rfl|refine And.intro ?_ ?_)) fun r m' nx' hp=>?_
 obtain⟨rfl,rfl,rfl⟩:=hp
 exact ab (sd ⟨rfl,rfl,rfl⟩)
end Go.Proofs.Tryz.K
namespace Go.Abs
section
variable{P:Program}{env:Env}{m:Mem}{nx:Nat}{x y:Operand}{t p:TypeId}{k:IntKind}{n n':Int}
theorem aa4{j i l off:Nat}{e:TypeId}{r:Row}(hx:(opd env x).core=.rs j off l)(hy:(opd env y).core=.s (.int k (i:Int)))(hm:m j=some r)(he:elemP P t=e)(hs:P.cellsOf e=1):
 Ef P (.indexAddr t x y) env m nx ⟨slT P t=true/\i<l,.rp j (off+i),[],[j],0⟩:=by
 have h:=H8 (P:=P) (env:=env) (m:=m) (nx:=nx) (t:=t) hx hy hm he hs
 have h1:off+((i:Int)).toNat*1=off+i:=by simp
 have h2:(slT P t=true/\(0:Int)<=(i:Int)/\(i:Int)<l)=(slT P t=true/\i<l):=by
  apply propext;constructor
  .rintro⟨a,_,b⟩;exact⟨a,by omega⟩
  .rintro⟨a,b⟩;exact⟨a,by omega,by omega⟩
 rw[h1,h2] at h
 exact h
theorem MI{i l a:Nat}{cs:List D}{e:TypeId}(hx:(opd env x).core=.rs i 0 l)(hm:m i=some (.cells cs e))(he:elemP P t=e)(hs:P.cellsOf e=1)(ha:(opd env y).core=.s (.int .i64 (a:Int))):
 Ef P (.slice t x (some y) none none) env m nx ⟨slT P t=true/\a<=l,.rs i a (l - a),[],[i],0⟩:=by
 have h:=No (P:=P) (env:=env) (m:=m) (nx:=nx) (t:=t) (lo:=some y) (hi:=none) (a:=(a:Int)) (b:=(l:Int)) hx hm he hs (by simp[bndD,ha,D.int?]) (by simp[bndD])
 have h1:0+((a:Int)).toNat*1=a:=by simp
 have h3:((l:Int) - (a:Int)).toNat=l - a:=by omega
 have h2:((slT P t=true/\1=1)/\(0:Int)<=(a:Int)/\(a:Int)<=(l:Int)/\(l:Int)<=(l:Int))=(slT P t=true/\a<=l):=by
  apply propext;constructor
  .rintro⟨⟨a,_⟩,_,b,_⟩;exact⟨a,by omega⟩
  .rintro⟨a,b⟩;exact⟨⟨a,rfl⟩,by omega,by omega,by omega⟩
 rw[h1,h2,h3] at h
 exact h
theorem YK{i l b:Nat}{cs:List D}{e:TypeId}(hx:(opd env x).core=.rs i 0 l)(hm:m i=some (.cells cs e))(he:elemP P t=e)(hs:P.cellsOf e=1)(hb:(opd env y).core=.s (.int .i64 (b:Int))):
 Ef P (.slice t x none (some y) none) env m nx ⟨slT P t=true/\b<=l,.rs i 0 b,[],[i],0⟩:=by
 have h:=No (P:=P) (env:=env) (m:=m) (nx:=nx) (t:=t) (lo:=none) (hi:=some y) (a:=0) (b:=(b:Int)) hx hm he hs (by simp[bndD]) (by simp[bndD,hb,D.int?])
 have h1:0+((0:Int)).toNat*1=0:=by simp
 have h3:((b:Int) - 0).toNat=b:=by omega
 have h2:((slT P t=true/\1=1)/\(0:Int)<=0/\(0:Int)<=(b:Int)/\(b:Int)<=(l:Int))=(slT P t=true/\b<=l):=by
  apply propext;constructor
  .rintro⟨⟨a,_⟩,_,_,b⟩;exact⟨a,by omega⟩
  .rintro⟨a,b⟩;exact⟨⟨a,rfl⟩,by omega,by omega,by omega⟩
 rw[h1,h2,h3] at h
 exact h
theorem aa5{i off l:Nat}{cs z:List D}{e:TypeId}(hx:(opd env x).core=.rs i off l)(hm:m i=some (.cells cs e))(he:elemP P t=e)(hz:zeroP P e=z):
 Ef P (.call { callee:=.builtin .clear,args:= #[x],argTypes:= #[t] }) env m nx ⟨slT P t=true/\off+l*P.cellsOf e<=cs.length/\e=e,.tup [],[(i,some (.cells (splice cs off (replD l z)) e))],[i],0⟩:=by
 refine vn («aS»:=[.rs i off l]) rfl (by simp[hx]) ?_
 simp only[builtinD,hm,hz,Array.getD_eq_getD_getElem?,List.getElem?_toArray,List.getElem?_cons_zero,Option.getD_some,he]
theorem XW{cs:List D}{n k:Nat}{x:D}(hn:cs.length=n)(hk:k<=n):splice cs k (replD (n - k) [x])=cs.take k++List.replicate (n - k) x:=by
 have hr:replD (n - k) [x]=List.replicate (n - k) x:=by
  unfold replD
  generalize n - k=j
  induction j with
  |zero=>rfl
  |succ j ih=>simp[List.replicate_succ,ih]
 rw[hr]
 unfold splice
 split
 .rename_i y e
  have h1:n - k=1:=by have:=congrArg List.length e;simpa using this
  rw[h1] at e ⊢
  simp at e
  subst e
  rw[List.set_eq_take_append_cons_drop,if_pos oG,List.drop_eq_nil_of_le oG]
  rfl
 .rw[List.length_replicate,List.drop_eq_nil_of_le oG,List.append_nil]
end
end Go.Abs
namespace Go.Proofs.Tryz.K
set_option maxRecDepth 10000
def tB(d:List Int)(n:Nat):List D:=(jG d).map I++List.replicate (n - (jG d).length) (I 0)
def Oe(d:List Int)(n:Nat)(m:Mem)(nx i:Nat)(r:D)(m':Mem)(nx':Nat):Prop:=nx'=nx/\r=.rs i 0 (jG d).length/\m'=up m i (some (.cells (tB d n) 3))
def ab2(d:List Int)(m:Mem)(nx i:Nat)(r:D)(m':Mem)(nx':Nat):Prop:=nx'=nx/\r=.rs i 0 (jG d).length/\∃ c,m'=up m i (some (.cells c 3))/\c.take (jG d).length=(jG d).map I
theorem B3{m:Mem}{nx i n:Nat}{d:List Int}(hi:i<nx)(hm:m i=some (.cells (d.map I) 3))(hl:d.length=n)(hn:n<=100000):ACalls prog 90 [.rs i 0 n] m nx (Oe d n m nx i):=by
 refine uU mixed zA (by rw[akk];rfl) ?_
 rw[akl,akm]
 have av:=hm
 have Ai:up m i (some (.cells (d.map I) 3))=m:=by
  funext j;simp only[up];split
  .rename_i e;rw[e,hm]
  .rfl
 have whole:fj d n=d->Oe d n m nx i (.rs i 0 n) m nx:=fun h=>by
  have h:jG d=d:=by unfold jG;rw[hl];exact h
  refine⟨rfl,by rw[h,hl],?_⟩
  rw[tB,h,hl,Nat.sub_self,List.replicate_zero,List.append_nil,Ai]
 refine ws ?_;refine c7 ?_
 refine ab (aC (ag ?_))
 refine bT ?_;refine E' ?_;refine bB ?_
 refine ab (bp rfl (fun h=>?_) fun h=>b8 (aC (aq ?_)))
 .have h:n<2:=by have h:(n:Int)<2:=by simpa using h
                 omega
  refine aC (ag ?_)
  refine bT ?_;refine bJ ?_
  refine ab (dn (ap rfl (whole ?_)))
  match d,n,hl,h with
  |[],_,rfl,_=>rfl
  |[a],_,rfl,_=>rfl
 have h2:2<=n:=by have h:¬ (n:Int)<2:=by simpa using h
                  omega
 refine J3 ?_
 refine ab (bM (fun s=>Ghost prog s ⟨ax [(0,.rs i 0 n)],m,nx⟩/\fj d n=d) (cH (α:=Nat) (fun k=>⟨ax [(0,.rs i 0 n),(3,I k)],m,nx⟩) (fun k=>1<=k/\k<=n/\fj d k=d.take k) (fun k=>n - k) 1 (ao eH) ⟨by omega,by omega,?_⟩ ?_) ?_)
 .match d,hl with
  |a::t,_=>rfl
  |[],hl=>simp at hl;omega
 .rintro k ⟨CB,hk,Aj⟩
  refine J0 ?_;refine bT ?_;refine E' ?_;refine bB ?_
  refine ab ⟨_,rfl,fun h=>?_,fun h=>?_⟩
  .have aj:k<n:=by have h:(k:Int)<n:=by simpa using h
                   omega
   obtain⟨j,rfl⟩:∃ j,k=j+1:=⟨k - 1,by omega⟩
   have ha:d[j+1]? =some d[j+1]:=List.getElem?_eq_getElem oG
   have hb:d[j]? =some d[j]:=List.getElem?_eq_getElem oG
   have ga:d.getD (j+1) 0=d[j+1]:=by simp[List.getD_eq_getElem?_getD,ha]
   have gb:d.getD j 0=d[j]:=by simp[List.getD_eq_getElem?_getD,hb]
   have kd:=gn (f:=I) ha
   have jB:=gn (f:=I) hb
   have vL:((j+1:Nat):Int) - 1=(j:Int)/\ -9223372036854775808<=(j:Int)/\(j:Int)<=9223372036854775807:=by omega
   refine dP ZU ?_
   refine cL ?_;refine nT ?_;refine rD ?_;refine cL ?_;refine zy ?_;refine nT ?_
   refine aF (ic rfl av jB V.h) ak (ie V.h V.h jB) ?_
   refine J8 ?_
   refine bc (by simp[apartT]) (al rfl (fun h=>?_) fun h=>?_)
   .have uj:d[j+1]=d[j]:=by simpa using h
    refine ws ?_;refine cL ?_
    refine aF (MI rfl av V.h V.h rfl) ak ⟨V.h,by omega⟩ ?_
    refine bJ ?_
    refine ab (aC (aq ?_))
    refine J3 ?_
    have akn:fj d (j+1+1)=fj d (j+1):=Qv oG oG (by rw[ga,show j+1 - 1=j by omega,gb];exact uj)
    have yj:(fj d (j+1)).length=j+1:=by rw[Aj];simp;omega
    clear kd jB vL
    refine ab (bM (fun s=>∃ (c:List Int) (k:Nat),Ghost prog s ⟨ax [(0,.rs i 0 n),(3,I (k:Nat))],up m i (some (.cells (c.map I) 3)),nx⟩/\c.length=n/\k<=n/\c.take k=fj d n) (cH (α:=List Int×Nat×Nat) (fun s=>⟨ax [(0,.rs i 0 n),(3,I s.2.1),(4,.rs i (j+1) (n - (j+1))),(5,I (s.2.2+1:Nat))],up m i (some (.cells (s.1.map I) 3)),nx⟩)
     (fun s=>s.1.length=n/\j+1+(s.2.2+1)<=n/\s.2.1<=j+1+s.2.2/\s.1.take s.2.1=fj d (j+1+(s.2.2+1))/\∀ p,j+1+s.2.2<=p->s.1[p]? =d[p]?) (fun s=>n - s.2.2) (d,j+1,0) (lx eH Ai.symm) ⟨hl,by simp only;omega,by simp only;omega,?_,fun _ _=>rfl⟩ ?_) ?_)
    .show d.take (j+1)=fj d (j+1+1)
     rw[akn,Aj]
    .rintro⟨c,k,q⟩ ⟨w1,w2,w3,w4,w5⟩
     simp only at w1 w2 w3 w4 w5
     dsimp only
     refine J0 ?_;refine bT ?_
     refine aF (H9 rfl (up_same _ _ _)) ak V.h ?_
     refine bB ?_
     refine ab ⟨_,rfl,fun h=>?_,fun h=>?_⟩
     .have aj:q+1<n - (j+1):=by have h:((q+1:Nat):Int)<((n - (j+1):Nat):Int):=by simpa using h
                                omega
      have xa:c[j+1+(q+1)]? =some c[j+1+(q+1)]:=List.getElem?_eq_getElem oG
      have xb:c[j+1+q]? =some c[j+1+q]:=List.getElem?_eq_getElem oG
      have ya:d.getD (j+1+(q+1)) 0=c[j+1+(q+1)]:=by rw[List.getD_eq_getElem?_getD, <- w5 _ oG,xa];rfl
      have yb:d.getD (j+1+q) 0=c[j+1+q]:=by rw[List.getD_eq_getElem?_getD, <- w5 _ oG,xb];rfl
      have kd:=gn (f:=I) xa
      have jB:=gn (f:=I) xb
      generalize hA:c[j+1+(q+1)]=a at xa ya kd
      generalize hB:c[j+1+q]=b at xb yb jB
      clear hA hB
      have vL:((q+1:Nat):Int) - 1=(q:Int)/\ -9223372036854775808<=(q:Int)/\(q:Int)<=9223372036854775807:=by omega
      refine dP YL ?_
      refine cL ?_;refine JG ?_;refine JE ?_;refine cL ?_;refine zy ?_;refine JG ?_
      refine aF (ic rfl (up_same _ _ _) jB V.h) ak (ie V.h V.h jB) ?_
      refine jC ?_
      refine bc (by simp[apartT]) (al rfl (fun h=>?_) fun h=>?_)
      .have aA:a≠b:=by simpa using h
       have hn:=Qw (d:=d) (t:=j+1+(q+1)) (by rw[ya,show j+1+(q+1) - 1=j+1+q by omega,yb];exact aA)
       refine ws ?_;refine cL ?_;refine cL ?_;refine JG ?_;refine JE ?_;refine zz ?_;refine E9 ?_
       refine ab (eO ?_)
       refine bd ?_
       refine ab ?_
       refine bd ?_
       refine ab (aK (c.set k a,k+1,q+1) (lx eH ?_) ⟨by simp[w1],by simp only;omega,by simp only;omega,?_,fun p hp=>?_⟩ (by simp only;omega))
       .rw[nB,List.map_set]
       .show(c.set k a).take (k+1)=fj d (j+1+(q+1)+1)
        rw[hn,ya, <- w4,List.take_succ_eq_append_getElem (by simp;omega)]
        simp
        exact List.take_set_of_le (Nat.le_refl k)
       .simp only at hp
        show(c.set k a)[p]? =_
        rw[List.getElem?_set_ne oG]
        exact w5 p oG
      .have ako:a=b:=by simpa using h
       have hn:=Qv (d:=d) (t:=j+1+(q+1)) oG oG (by rw[ya,show j+1+(q+1) - 1=j+1+q by omega,yb];exact ako)
       refine cx ?_
       refine bd ?_
       refine ab (aK (c,k,q+1) (ao eH) ⟨w1,by simp only;omega,by simp only;omega,?_,fun p hp=>w5 p (by simp only at hp;omega)⟩ (by simp only;omega))
       show c.take k=fj d (j+1+(q+1)+1)
       rw[hn,w4]
     .have aZ:¬ q+1<n - (j+1):=by have h:¬ ((q+1:Nat):Int)<((n - (j+1):Nat):Int):=by simpa using h
                                  omega
      refine⟨c,k,.forget _ _ _ _ fun t=>n7 (l:=[(0,.rs i 0 n),(3,I k)]) ⟨rfl,rfl,trivial⟩ t,w1,by omega,?_⟩
      rw[w4]
      exact congrArg (fj d) oG
    .rintro s ⟨c,k,hg,w1,ck,w2⟩
     refine⟨_,hg,ag ?_⟩
     refine cL ?_
     refine aF (MI rfl (up_same _ _ _) V.h V.h rfl) ak ⟨V.h,by omega⟩ ?_
     refine cK (aa5 rfl (up_same _ _ _) V.h V.h) ak ⟨V.h,(by rw[c3];first|(simp;done)|(simp;omega)|omega),rfl⟩ ?_
     refine er ?_;refine cL ?_
     refine aF (YK rfl (up_same _ _ _) V.h V.h rfl) ak ⟨V.h,by omega⟩ ?_
     refine bJ ?_
     have cW:(jG d).length=k:=by unfold jG;rw[hl, <- w2];simp;omega
     refine ab (aO (cm (aM (ap (d:=.rs i 0 k) rfl ⟨rfl,by rw[cW],(nB _ _ _ _).trans ?_⟩))))
     rw[XW (by rw[List.length_map,w1]) ck, <- List.map_take,w2,tB,cW]
     unfold jG;rw[hl]
   .have aA:d[j+1]≠d[j]:=by simpa using h
    refine cx ?_
    refine bd ?_
    refine ab (aK (j+1+1) (ao eH) ⟨by omega,by omega,?_⟩ oG)
    rw[Qw (by rw[ga,show j+1 - 1=j by omega,gb];exact aA),Aj,ga]
    exact(List.take_succ_eq_append_getElem oG).symm
  .have aZ:¬ k<n:=by have h:¬ (k:Int)<n:=by simpa using h
                     omega
   have:k=n:=by omega
   refine⟨.forget _ _ _ _ fun t=>n7 (l:=[(0,.rs i 0 n)]) ⟨rfl,trivial⟩ t,?_⟩
   rw[<- this,Aj,List.take_of_length_le oG]
 .rintro s ⟨hg,Aj⟩
  refine⟨_,hg,ag ?_⟩
  refine bT ?_;refine bJ ?_
  exact ab (ap rfl (whole Aj))
theorem CK{m:Mem}{nx i n:Nat}{d:List Int}(hi:i<nx)(hm:m i=some (.cells (d.map I) 3))(hl:d.length=n)(hn:n<=100000):ACalls prog 90 [.rs i 0 n] m nx (ab2 d m nx i):=by
 refine(B3 hi hm hl hn).mono ?_
 rintro r m' nx' ⟨h1,h2,h3⟩
 refine⟨h1,h2,tB d n,h3,?_⟩
 rw[tB,List.take_append_of_le_length (by simp),List.take_of_length_le (by simp)]
end Go.Proofs.Tryz.K
namespace Go.Argus
def fQ(x:End)(b:Int)(w:List Int):List Int:=if za x b then gy w (dQ x) else w
@[simp] theorem MJ (x : End) (b : Int) (w : List Int) : (fQ x b w).length = w.length := by unfold fQ; split <;> simp
def yV(l:List Int):List Int:=jG (fx l)
structure om(x:a8):Prop where
 rd:∀ r∈bS x,0<=r/\r<1200
 sl:x.op=17\/x.op=18->0<=x.n/\x.n<80
 wr: -1000000<=cO x/\cO x<1200
 ar:x.op=10\/x.op=38->x.args.length<=1000
structure zk(x:End):Prop where
 rd:∀ r∈bR x,0<=r/\r<1200
 wr: -1000000<=dQ x/\dQ x<1200
 wh:x.aD.length<=9
 a1:x.kind=5->x.ins.op=10\/x.ins.op=38->x.ins.args.length<=1000
 a2:x.kind=6\/x.kind=7->x.args.length<=1000
def iA(w:List Int)(ok:Bool)(rs:List Int):Bool:=rs.foldl (fun ok r=>ok&&la w r.toNat) ok
def ve(w:List Int)(x:a8):List Int:=gy w (if x.op=18 then jE x.n else cO x)
def mF(s:List Int×Bool)(x:a8):List Int×Bool:=(ve s.1 x,iA s.1 s.2 (bS x)&&(x.op !=17||la s.1 (jE x.n).toNat))
def jS(l:List a8)(w:List Int):List Int×Bool:=l.foldl mF (w,true)
def iz(b:bw)(w:List Int):List Int×Bool:=((jS b.ins w).1,iA (jS b.ins w).1 (jS b.ins w).2 (bR b.fin))
theorem mf{α β:Type}{f:β->α->β}{z:β}{l:List α}{k:Nat}{x:α}(h:l[k]? =some x):(l.take (k+1)).foldl f z=f ((l.take k).foldl f z) x:=by
 rw[List.take_add_one,h,List.foldl_append];rfl
theorem Hn(l:List a8)(w:List Int):(jS l w).1.length=w.length:=by
 unfold jS
 generalize true=b
 induction l generalizing w b with
 |nil=>rfl
 |cons x l ih=>rw[List.foldl_cons];exact(ih _ _).trans (by simp[ve])
theorem Gz(b:bw)(w:List Int):(iz b w).1.length=w.length:=Hn _ _
def bY(l:List (List Int)):List D:=l.flatMap fun w=>w.map bZ
theorem HS{sz:Nat}:∀ {l:List (List Int)} {i:Nat} {w:List Int},(∀ w∈l,w.length=sz)->l[i]? =some w->(bY l).drop (i*sz)=w.map bZ++(bY (l.drop (i+1)))
 |[],i,w,_,h=>by simp at h
 |a::l,0,w,_,h=>by simp at h;subst h;simp[bY]
 |a::l,i+1,w,hs,h=>by
  have ha:(a.map bZ).length=sz:=by simpa using hs a (by simp)
  have h1:(i+1)*sz=(a.map bZ).length+i*sz:=by rw[ha,Nat.add_mul];omega
  have ih:=HS (l:=l) (i:=i) (w:=w) (fun w hw=>hs w (by simp[hw])) (by simpa using h)
  unfold bY at ih ⊢
  rw[List.flatMap_cons,h1, <- List.drop_drop,List.drop_left,ih,List.drop_succ_cons]
theorem EL{sz:Nat}{l:List (List Int)}{i:Nat}{w:List Int}(h:∀ w∈l,w.length=sz)(hi:l[i]? =some w):((bY l).drop (i*sz)).take sz=w.map bZ:=by
 rw[HS h hi,List.take_append_of_le_length (by simp[h w (List.mem_of_getElem? hi)]),List.take_of_length_le (by simp[h w (List.mem_of_getElem? hi)])]
theorem G0{sz:Nat}:∀ {l:List (List Int)},(∀ w∈l,w.length=sz)->(bY l).length=l.length*sz
 |[],_=>by simp[bY]
 |a::l,h=>by
  have:=G0 (l:=l) fun w hw=>h w (by simp[hw])
  unfold bY at this ⊢
  rw[List.flatMap_cons,List.length_append,this,List.length_map,h a (by simp),List.length_cons,Nat.add_mul];omega
theorem xE{sz:Nat}{l:List (List Int)}{i:Nat}{w:List Int}(h:∀ w∈l,w.length=sz)(hi:l[i]? =some w):i*sz+sz<=(bY l).length:=by
 rw[G0 h]
 have:=(List.getElem?_eq_some_iff.1 hi).1
 rw[<- Nat.succ_mul];exact Nat.mul_le_mul_right _ this
theorem SK{sz:Nat}(hz:2<=sz):∀ {l:List (List Int)} {i:Nat} {w v:List Int},(∀ w∈l,w.length=sz)->l[i]? =some v->w.length=sz->splice (bY l) (i*sz) (w.map bZ)=bY (l.set i w):=by
 intro l i w v h hi hw
 have key:splice (bY l) (i*sz) (w.map bZ)=(bY l).take (i*sz)++w.map bZ++(bY l).drop (i*sz+(w.map bZ).length):=by
  unfold splice
  split
  .rename_i x hx
   have:(w.map bZ).length=1:=by rw[hx];rfl
   simp at this;omega
  .rfl
 rw[key,List.length_map,hw]
 clear key
 induction l generalizing i with
 |nil=>simp at hi
 |cons a l ih=>
  have ha:(a.map bZ).length=sz:=by simpa using h a (by simp)
  cases i with
  |zero=>
   simp only[Nat.zero_mul,List.take_zero,List.nil_append,Nat.zero_add,List.set_cons_zero]
   unfold bY
   rw[List.flatMap_cons,List.flatMap_cons, <- ha,List.drop_left]
  |succ i=>
   have ih:=ih (i:=i) (fun w hw=>h w (by simp[hw])) (by simpa using hi)
   simp only[List.set_cons_succ]
   unfold bY at ih ⊢
   rw[List.flatMap_cons,List.flatMap_cons, <- ih,show(i+1)*sz=(a.map bZ).length+i*sz by rw[ha,Nat.add_mul];omega,List.take_length_add_append,Nat.add_assoc,List.drop_length_add_append]
   simp
theorem ZV(n:Nat)(w:List Int):replD n (w.map bZ)=bY (List.replicate n w):=by
 unfold replD bY
 induction n with
 |zero=>rfl
 |succ n ih=>rw[List.replicate_succ,List.replicate_succ,List.flatten_cons,List.flatMap_cons,ih]
theorem tq(n:Nat)(b:Bool):replD n [B b]=(List.replicate n b).map B:=by
 unfold replD
 induction n with
 |zero=>rfl
 |succ n ih=>rw[List.replicate_succ,List.replicate_succ,List.flatten_cons,List.map_cons,ih];rfl
theorem ab3(l:List (List Int)):∀ a∈bY l,Tr a:=.flat fun w=>.map fun _=>.s _
theorem HT{sz:Nat}{l:List (List Int)}{i:Nat}{w:List Int}(h:∀ w∈l,w.length=sz)(hw:w.length=sz):∀ u∈l.set i w,u.length=sz:=fun u hu=>by
 rcases List.mem_or_eq_of_mem_set hu with h1|h1
 .exact h u h1
 .rw[h1];exact hw
theorem Nz:∀ {w v:List Int},w.length=v.length->zipV (w.map bZ) (v.map bZ)=some (w.map (Value.int .u64),v.map (Value.int .u64))
 |[],[],_=>rfl
 |a::w,b::v,h=>by
  have:=Nz (w:=w) (v:=v) (by simpa using h)
  simp[zipV,sameK,this]
theorem NA:∀ {w v:List Int},w.length=v.length->veqs (w.map (Value.int .u64)) (v.map (Value.int .u64))=(w==v)
 |[],[],_=>rfl
 |a::w,b::v,h=>by
  have:=NA (w:=w) (v:=v) (by simpa using h)
  simp[veqs,veq1,this]
theorem YN(w:List Int):(w.map (Value.int .u64)).map kindV=List.replicate w.length 0:=by
 induction w with
 |nil=>rfl
 |cons a w ih=>simpa[kindV,List.replicate_succ] using ih
end Go.Argus
namespace Go.Proofs.Tryz.K
set_option maxRecDepth 10000
theorem JH{f:FuncId}{cs:List D}{xs:List Int}(hs:SeqA prog f [] cs (xs.map fun n=>[I n]))(ht:Tr (.fn (.func f) [] cs))(hlen:xs.length<=12):OCall prog 201 [.fn (.func f) [] cs] ((fx xs).map I) xs.length 3:=by
 have aP:∀ a∈[.fn (.func f) [] cs],Tr a:=.cons ht .nil
 refine tf mixed SG (by rw[aeg];rfl) aP (.map fun _=>.s _) ?_
 rw[aeh,aei]
 have JC:=JC hs ht oG
 refine ws ?_;refine c7 ?_;refine er ?_;refine mW ?_
 refine zi JC rfl (by repeat' (first|exact trivial|exact rfl|refine And.intro ?_ ?_)) ?_
 refine bJ ?_;refine er ?_;refine bT ?_
 refine nA (um (i:=0) (l:=xs) oG rfl rfl hlen) rfl (by repeat' (first|exact trivial|exact rfl|refine And.intro ?_ ?_)) fun r m' nx' hp=>?_
 obtain⟨rfl,rfl,rfl⟩:=hp
 refine er ?_;refine bT ?_;refine bJ ?_
 exact ab (ap rfl ⟨0,rfl,rfl⟩)
theorem tT{f:FuncId}{cs:List D}{xs:List Int}(hs:SeqA prog f [] cs (xs.map fun n=>[I n]))(ht:Tr (.fn (.func f) [] cs))(hlen:xs.length<=12):PCall prog 155 [.fn (.func f) [] cs] (aw (yV xs)):=by
 have aP:∀ a∈[.fn (.func f) [] cs],Tr a:=.cons ht .nil
 refine aY mixed SH (by rw[aej];rfl) aP (cN _) ?_
 rw[aek,ael]
 have JH:=JH hs ht hlen
 refine ws ?_;refine c7 ?_
 refine ab (aq ?_)
 refine mW ?_
 refine zi JH rfl (by repeat' (first|exact trivial|exact rfl|refine And.intro ?_ ?_)) ?_
 refine nA (CK (i:=0) (d:=fx xs) (n:=xs.length) oG rfl (by simp) oG) rfl (by repeat' (first|exact trivial|exact rfl|refine And.intro ?_ ?_)) fun r m' nx' hp=>?_
 obtain⟨rfl,rfl,c,rfl,hc⟩:=hp
 refine bJ ?_
 refine ab (aJ (bg [(0,c,3)] ⟨up_same _ _ _,trivial⟩ (l:=[(2,aw (yV xs))]) ⟨?_,trivial⟩) (ap rfl rfl))
 exact jP c3 (by rw[List.drop_zero,Nat.mul_one];exact hc)
def nextR(x:Argus.End):List Int:=yV (cz x)
theorem Qx{x:Argus.End}(hlen:x.aD.length<=9):PCall prog 155 [.fn (.func 202) [] [.pt (aT x)]] (aw (nextR x)):=
 tT (Uo oG) (.fn (by simp) (.cons (.pt (ki x)) .nil)) (by have:=HQ x;omega)
theorem vM{x:Argus.End}{b:Int}{w:List Int}(hw:w.length=20)(hlen:x.aD.length<=1000)(hn: -1000000<=dQ x/\dQ x<1280):PCall prog 199 [.agg (aT x),I b,gh w] (gh (fQ x b w)):=by
 have aP:∀ a∈[D.agg (aT x),I b,gh w],Tr a:=.cons (.agg (ki x)) (.cons (.s _) (.cons (pQ _) .nil))
 refine aY mixed SI (by rw[aem];rfl) aP (pQ _) ?_
 rw[aen,aeo]
 have Jz:=Jz (x:=x) (b:=b) hlen
 refine ws ?_;refine mX ?_;refine nQ ?_;refine cE ?_
 refine ab (aC (ag ?_))
 refine B4 ?_;refine J0 ?_;refine cl Jz ?_
 refine ab (bp rfl (fun h=>?_) fun h=>b8 (ag ?_))
 .have JI:=JI (x:=x)
  have pR:=pR (w:=w) (n:=dQ x) hw hn
  refine aC (dP YM ?_)
  refine wx ?_;refine B4 ?_;refine cl JI ?_;refine cl pR ?_;refine vK ?_
  refine bc (by simp[apartT]) (dn (lG (me rfl rfl tP qV (lO (by simp;omega)) t231 (by simp;omega)) ?_))
  simp[fQ,h]
 .refine wx ?_;refine vK ?_
  refine ab (lG (me rfl rfl tP qV (lO (by simp;omega)) t231 (by simp;omega)) ?_)
  simp[fQ,h]
set_option maxHeartbeats 1000000 in
theorem mK{b:bw}{w:List Int}(hw:w.length=20)(hl:b.ins.length<=100000)(hi:∀ x∈b.ins,om x)(hf:zk b.fin)(ji:∀ x∈b.ins,(bS x).length<=100000)(iK:(bR b.fin).length<=100000):PCall prog 198 [.agg (eN b),gh w] (.tup [gh (iz b w).1,B (iz b w).2]):=by
 have aP:∀ a∈[D.agg (eN b),gh w],Tr a:=.cons (.agg (MK b)) (.cons (pQ _) .nil)
 refine aY mixed SJ (by rw[aep];rfl) aP (.tup (.cons (pQ _) (.cons (.s _) .nil))) ?_
 rw[aeq,aer]
 refine ws ?_
 refine gB (sc (cs:=eN _) rfl) ak (by first|rfl|exact tk eW fI|exact iG _|exact tC cX) ?_
 refine nQ ?_;refine cE ?_;refine J1 ?_
 refine ab (aq ?_)
 refine J1 ?_
 refine ab (aJ (aE (l:=[(2,.rp 0 0),(3,.rp 1 0),(4,.rp 2 0),(6,B true)]) (ml:=[(0,.cells (eN b) 72),(1,.cells (w.map bZ) 231),(2,.cells (List.replicate 20 (bZ 0)) 231)]) eH eH) (aC (aq ?_)))
 refine fy ?_;refine iL ?_;refine J0 ?_
 refine ab (bM (fun s=>∃ n',3<=n'/\Ghost prog s ⟨ax [(2,.rp 0 0),(3,.rp 1 0),(4,.rp 2 0),(6,B (jS b.ins w).2)],aX [(0,.cells (eN b) 72),(1,.cells ((jS b.ins w).1.map bZ) 231),(2,.cells (List.replicate 20 (bZ 0)) 231)],n'⟩) (eX (α:=Nat×Nat)
  (fun k=>⟨ax [(2,.rp 0 0),(3,.rp 1 0),(4,.rp 2 0),(6,B (jS (b.ins.take k.1) w).2),(14,gq b.ins),(15,I b.ins.length),(16,I k.1)],aX [(0,.cells (eN b) 72),(1,.cells ((jS (b.ins.take k.1) w).1.map bZ) 231),(2,.cells (List.replicate 20 (bZ 0)) 231)],k.2⟩)
  (fun k=>k.1<=b.ins.length/\3<=k.2) (fun k=>b.ins.length - k.1) (0,3) (aE eH eH) ⟨by simp,by simp⟩ ?_) ?_)
 .rintro⟨k,N⟩ ⟨hk,hN⟩
  dsimp only at hk hN ⊢
  refine bB ?_
  refine ab ⟨_,rfl,fun h=>?_,fun h=>?_⟩
  .have aj:k<b.ins.length:=by simpa using h
   have hx:b.ins[k]? =some b.ins[k]:=by simp[aj]
   have kz:b.ins[k]∈b.ins:=List.getElem_mem aj
   generalize b.ins[k]=x at hx kz
   obtain⟨ird,V4,iwr,iar⟩:=hi x kz
   have aN:jS (b.ins.take (k+1)) w=mF (jS (b.ins.take k) w) x:=mf hx
   have hlen:(jS (b.ins.take k) w).1.length=20:=by rw[Hn,hw]
   generalize jS (b.ins.take k) w=u at aN hlen
   obtain⟨v,ok⟩:=u
   dsimp only at hlen ⊢
   refine ws ?_;refine oZ ?_;refine eF ?_;refine cE ?_;refine Fa ?_
   refine ab (aC (aq ?_))
   have zB:=zB (x:=x) iar
   refine Fb ?_;refine cl zB ?_;refine iL ?_;refine J0 ?_
   have asA:=ji x kz
   refine ab (bM (fun s=>Ghost prog s ⟨ax [(2,.rp 0 0),(3,.rp 1 0),(4,.rp 2 0),(6,B (iA v ok (bS x))),(8,.rp N 0),(14,gq b.ins),(15,I b.ins.length),(16,I k)],up (aX [(0,.cells (eN b) 72),(1,.cells (v.map bZ) 231),(2,.cells (List.replicate 20 (bZ 0)) 231)]) N (some (.cells (a7 x) 66)),N+1⟩) (eX (α:=Nat)
    (fun j=>⟨ax [(2,.rp 0 0),(3,.rp 1 0),(4,.rp 2 0),(6,B (iA v ok ((bS x).take j))),(8,.rp N 0),(14,gq b.ins),(15,I b.ins.length),(16,I k),(21,aw (bS x)),(22,I (bS x).length),(23,I j)],up (aX [(0,.cells (eN b) 72),(1,.cells (v.map bZ) 231),(2,.cells (List.replicate 20 (bZ 0)) 231)]) N (some (.cells (a7 x) 66)),N+1⟩)
    (fun j=>j<=(bS x).length) (fun j=>(bS x).length - j) 0 (lx eH (nB _ _ _ _)) oG ?_) ?_)
   .intro j hj
    refine bB ?_
    refine ab ⟨_,rfl,fun h=>?_,fun h=>?_⟩
    .have cD:j<(bS x).length:=by simpa using h
     have hr:(bS x)[j]? =some (bS x)[j]:=by simp[cD]
     have wz:(bS x)[j]∈bS x:=List.getElem_mem cD
     generalize (bS x)[j]=r at hr wz
     have Ab:=ird r wz
     obtain⟨rn,rfl⟩:=Int.eq_ofNat_of_zero_le Ab.1
     have kA:=kA (w:=v) (m:=rn) hlen oG
     refine ws ?_;refine o4 ?_;refine J3 ?_
     refine ab (eO ?_)
     refine J2 ?_;refine J2 ?_;refine JJ ?_;refine br ?_;refine gc kA ?_;refine bD ?_
     refine ab ?_
     refine cr ?_
     refine ab (aK (j+1) (ao ⟨rfl,rfl,rfl,?_,rfl,rfl,rfl,rfl,rfl,rfl,rfl,trivial⟩) oG oG)
     have e:iA v ok ((bS x).take (j+1))=(iA v ok ((bS x).take j)&&la v rn):=by
      unfold iA
      rw[mf hr,Int.toNat_natCast]
     rw[e]
     generalize iA v ok ((bS x).take j)=g
     cases g<;>rfl
    .have aZ:¬ j<(bS x).length:=by simpa using h
     refine ao ⟨rfl,rfl,rfl,?_,rfl,rfl,rfl,rfl,trivial⟩
     show B _=B _
     rw[List.take_of_length_le oG]
   .intro s hg
    have aN:jS (b.ins.take (k+1)) w=(ve v x,iA v ok (bS x)&&(x.op !=17||la v (jE x.n).toNat)):=aN
    generalize iA v ok (bS x)=K2 at hg aN
    have B0:=B0 (w:=v) (x:=x) hlen (fun h=>V4 (.inr h)) (fun _=>by omega)
    have fin:∀ (d:Bool) env,d=(K2&&(x.op !=17||la v (jE x.n).toNat))->mz [(2,.rp 0 0),(3,.rp 1 0),(4,.rp 2 0),(6,B d),(8,.rp N 0),(14,gq b.ins),(15,I b.ins.length),(16,I k)] env->True:=fun _ _ _ _=>trivial
    refine⟨_,hg,?_⟩
    cases K2 with
    |false=>
     have tQ:false=true->PCall prog 244 [I x.n] (I (jE x.n)):=fun h=>by cases h
     have kA:false=true->PCall prog 200 [gh v,I (jE x.n)] (B true):=fun h=>by cases h
     refine dP GO ?_
     refine J2 ?_;refine J2 ?_;refine zC ?_;refine zD ?_;refine o5 ?_;refine dg ?_;refine JJ ?_;refine zC ?_;refine zD ?_
     refine Er rfl rfl rfl (fun hc=>⟨ak,tQ hc⟩) ?_
     refine Er rfl rfl rfl (fun hc=>⟨ak,kA hc⟩) ?_
     refine nR ?_;refine gZ ?_
     refine bc (by simp[apartT]) (eO ?_)
     refine JK ?_;refine Fb ?_;refine cl B0 ?_;refine JL ?_
     refine ab ?_
     refine cr ?_
     refine ab (aK (k+1,N+1) (aE ⟨rfl,rfl,rfl,?_,rfl,rfl,rfl,trivial⟩ ⟨au oG (au oG rfl),?_,au oG (au oG rfl),trivial⟩) ⟨by dsimp only;omega,by dsimp only;omega⟩ (by dsimp only;omega))
     .dsimp only;rw[aN];rfl
     .dsimp only;rw[aN];exact up_same _ _ _
    |true=>
     by_cases gG:x.op=17
     .have iH:(x.op !=17)=false:=by simp[gG]
      have atL:=V4 (.inl gG)
      have tQ:=tQ (n:=x.n) oG
      obtain⟨sn,mO⟩:=Int.eq_ofNat_of_zero_le (show 0<=jE x.n by unfold jE;omega)
      have kA:=kA (w:=v) (m:=sn) hlen (by unfold jE at mO;omega)
      rw[<- mO] at kA
      refine dP GO ?_
      refine J2 ?_;refine J2 ?_;refine zC ?_;refine zD ?_;refine Uw ?_;refine dg ?_;refine JJ ?_;refine zC ?_;refine zD ?_;refine gc tQ ?_;refine gc kA ?_;refine wA ?_;refine cI ?_;refine J1 ?_
      refine bc (by simp[apartT]) (eO ?_)
      refine JK ?_;refine Fb ?_;refine cl B0 ?_;refine JL ?_
      refine ab ?_
      refine cr ?_
      refine ab (aK (k+1,N+1) (aE ⟨rfl,rfl,rfl,?_,rfl,rfl,rfl,trivial⟩ ⟨au oG (au oG rfl),?_,au oG (au oG rfl),trivial⟩) ⟨by dsimp only;omega,by dsimp only;omega⟩ (by dsimp only;omega))
      .dsimp only;rw[aN,iH,mO];rfl
      .dsimp only;rw[aN];exact up_same _ _ _
     .have iH:(x.op !=17)=true:=by simp[gG]
      have tQ:false=true->PCall prog 244 [I x.n] (I (jE x.n)):=fun h=>by cases h
      have kA:false=true->PCall prog 200 [gh v,I (jE x.n)] (B true):=fun h=>by cases h
      refine dP GO ?_
      refine J2 ?_;refine J2 ?_;refine zC ?_;refine zD ?_;refine Uw ?_;refine dg ?_;refine z fun _ _=>?_;refine z fun _ _=>?_;refine z fun _ _=>?_;refine z fun _ _=>?_;refine z fun _ _=>?_;refine yr ?_;refine cI ?_;refine J1 ?_
      refine bc (by simp[apartT]) (eO ?_)
      refine JK ?_;refine Fb ?_;refine cl B0 ?_;refine JL ?_
      refine ab ?_
      refine cr ?_
      refine ab (aK (k+1,N+1) (aE ⟨rfl,rfl,rfl,?_,rfl,rfl,rfl,trivial⟩ ⟨au oG (au oG rfl),?_,au oG (au oG rfl),trivial⟩) ⟨by dsimp only;omega,by dsimp only;omega⟩ (by dsimp only;omega))
      .dsimp only;rw[aN,iH];rfl
      .dsimp only;rw[aN];exact up_same _ _ _
  .have aZ:¬ k<b.ins.length:=by simpa using h
   have ud:b.ins.take k=b.ins:=List.take_of_length_le oG
   refine⟨N,hN,?_⟩
   rw[ud]
   exact ao eH
 .rintro s ⟨n',cM,hg⟩
  have hlen:(jS b.ins w).1.length=20:=by rw[Hn,hw]
  have CL:iz b w=((jS b.ins w).1,iA (jS b.ins w).1 (jS b.ins w).2 (bR b.fin)):=rfl
  rw[CL]
  generalize jS b.ins w=u at hg hlen ⊢
  obtain⟨v,ok⟩:=u
  dsimp only at hlen hg ⊢
  have JM:=JM (x:=b.fin) hf.a1 hf.a2
  refine⟨_,hg,aC (aq ?_)⟩
  refine dT ?_;refine B4 ?_;refine cl JM ?_;refine iL ?_;refine J0 ?_
  refine ab (bM (fun s=>Ghost prog s ⟨ax [(3,.rp 1 0),(4,.rp 2 0),(6,B (iA v ok (bR b.fin)))],aX [(1,.cells (v.map bZ) 231),(2,.cells (List.replicate 20 (bZ 0)) 231)],n'⟩) (eX (α:=Nat)
   (fun j=>⟨ax [(3,.rp 1 0),(4,.rp 2 0),(6,B (iA v ok ((bR b.fin).take j))),(53,aw (bR b.fin)),(54,I (bR b.fin).length),(55,I j)],aX [(1,.cells (v.map bZ) 231),(2,.cells (List.replicate 20 (bZ 0)) 231)],n'⟩)
   (fun j=>j<=(bR b.fin).length) (fun j=>(bR b.fin).length - j) 0 (aE eH eH) oG ?_) ?_)
  .intro j hj
   refine bB ?_
   refine ab ⟨_,rfl,fun h=>?_,fun h=>?_⟩
   .have cD:j<(bR b.fin).length:=by simpa using h
    have hr:(bR b.fin)[j]? =some (bR b.fin)[j]:=by simp[cD]
    have wz:(bR b.fin)[j]∈bR b.fin:=List.getElem_mem cD
    generalize (bR b.fin)[j]=r at hr wz
    have Ab:=hf.rd r wz
    obtain⟨rn,rfl⟩:=Int.eq_ofNat_of_zero_le Ab.1
    have kA:=kA (w:=v) (m:=rn) hlen oG
    refine ws ?_;refine o4 ?_;refine J3 ?_
    refine ab (eO ?_)
    refine J2 ?_;refine J2 ?_
    refine bl rfl rfl (eL rfl rfl V.h V.h (lO (by first|rfl|exact Nat.le_of_ble_eq_true rfl|(simp;done)|(simp;omega)|omega))) (fun hc=>⟨ak,(eM V.h V.h (by first|rfl|exact Nat.le_of_ble_eq_true rfl|(simp;done)|(simp;omega)|omega))⟩) ?_
    refine br ?_;refine gc kA ?_;refine bD ?_
    refine ab ?_
    refine cr ?_
    refine ab (aK (j+1) (ao ⟨rfl,rfl,?_,rfl,rfl,rfl,trivial⟩) oG oG)
    have e:iA v ok ((bR b.fin).take (j+1))=(iA v ok ((bR b.fin).take j)&&la v rn):=by
     unfold iA
     rw[mf hr,Int.toNat_natCast]
    rw[e]
    generalize iA v ok ((bR b.fin).take j)=g
    cases g<;>rfl
   .have aZ:¬ j<(bR b.fin).length:=by simpa using h
    refine ao ⟨rfl,rfl,?_,trivial⟩
    show B _=B _
    rw[List.take_of_length_le oG]
  .intro s hg
   refine⟨_,hg,ag ?_⟩
   refine wx ?_;refine J2 ?_;refine vK ?_;refine J1 ?_
   exact ab (XM (me rfl rfl tP qV (lO (by simp;omega)) t231 (by simp;omega)) rfl rfl)
end Go.Proofs.Tryz.K
end
namespace Go.Argus
open Go.Abs
theorem Yq{l:List Int}{j:Nat}(hj:j+1<l.length){x:Int}:x∈swapAt l j↔x∈l:=by
 have ha:l.getD j 0=l[j]:=by simp[List.getD_eq_getElem?_getD,List.getElem?_eq_getElem (show j<l.length by omega)]
 have hb:l.getD (j+1) 0=l[j+1]:=by simp[List.getD_eq_getElem?_getD,List.getElem?_eq_getElem hj]
 unfold swapAt
 rw[ha,hb]
 exact(List.set_set_perm (show j+1<l.length from hj) (show j<l.length by omega)).mem_iff
theorem NL{x:Int}:∀ (j:Nat) {l:List Int},j<l.length->(x∈nJ l j↔x∈l)
 |0,l,_=>Iff.rfl
 |j+1,l,hj=>by
  simp only[nJ]
  split
  .exact(NL j (by simp;omega)).trans (Yq hj)
  .exact Iff.rfl
theorem M7{l:List Int}{x:Int}:∀ k,k<l.length->(x∈lP l k↔x∈l)
 |0,_=>Iff.rfl
 |k+1,h=>by
  simp only[lP]
  exact(NL (k+1) (by simpa using h)).trans (M7 k oG)
theorem Zr{l:List Int}{x:Int}:x∈fx l↔x∈l:=by
 unfold fx
 cases l with
 |nil=>simp[lP]
 |cons a l=>exact M7 _ (by simp)
theorem Dx{l:List Int}{x:Int}:x∈yV l↔x∈l:=by
 unfold yV jG
 rw[Od (Nat.le_refl _),List.take_length]
 exact Zr
theorem wrap_u64{n:Nat}(h:n<2 ^ 64):IntKind.u64.wrap (n:Int)=n:=by
 unfold IntKind.wrap
 simp[IntKind.signed,IntKind.bits]
 omega
theorem aa6{a b:Int}(ha:0<=a/\a<18446744073709551616):0<=oF a b/\oF a b<=a:=by
 unfold oF intBitsV
 simp only
 rw[wrap_u64 (n:=(BitVec.ofInt IntKind.u64.bits a&&& BitVec.ofInt IntKind.u64.bits b).toNat) (BitVec.isLt (w:=64) _)]
 obtain⟨n,rfl⟩:=Int.eq_ofNat_of_zero_le ha.1
 have h1:(BitVec.ofInt IntKind.u64.bits (n:Int)).toNat=n:=by
  rw[BitVec.toNat_ofInt]
  show((n:Int) % ((2 ^ 64:Nat):Int)).toNat=n
  omega
 have h2:(BitVec.ofInt IntKind.u64.bits (n:Int)&&& BitVec.ofInt IntKind.u64.bits b).toNat<=n:=by
  rw[BitVec.toNat_and,h1]
  exact Nat.and_le_left
 omega
end Go.Argus
section
open Go Go.Abs Go.Proofs Go.Argus
namespace Go.Abs
section
variable{P:Program}{env:Env}{m:Mem}{nx:Nat}{x y:Operand}{t p:TypeId}{k:IntKind}{n n':Int}
theorem A4{j i l sz:Nat}{e:TypeId}{r:Row}(hx:(opd env x).core=.rs j 0 l)(hy:(opd env y).core=.s (.int k (i:Int)))(hm:m j=some r)(he:elemP P t=e)(hs:P.cellsOf e=sz):
 Ef P (.indexAddr t x y) env m nx ⟨slT P t=true/\i<l,.rp j (i*sz),[],[j],0⟩:=by
 have h:=H8 (P:=P) (env:=env) (m:=m) (nx:=nx) (t:=t) hx hy hm he hs
 have h1:0+((i:Int)).toNat*sz=i*sz:=by simp
 have h2:(slT P t=true/\(0:Int)<=(i:Int)/\(i:Int)<l)=(slT P t=true/\i<l):=by
  apply propext;constructor
  .rintro⟨a,_,b⟩;exact⟨a,by omega⟩
  .rintro⟨a,b⟩;exact⟨a,by omega,by omega⟩
 rw[h1,h2] at h
 exact h
theorem ZW{ps:Array (Nat×Operand)}{e:TypeId}{l:Nat}{z:List D}(hu:P.underlying t=some (.array l e))(hp:ps.toList=[])(hz:zeroP P t=z):Ef P (.build t ps) env m nx ⟨tyOk P t=true/\tyOk P e=true,.agg z,[],[],0⟩:=by
 refine⟨?_,rfl,rfl⟩
 simp only[aop,hu,hp,hz,List.map_nil,fillD,Option.map_some]
theorem aes{xs ys:List D}{us vs:List Value}{ks:List Nat}(hx:(opd env x).core=.agg xs)(hy:(opd env y).core=.agg ys)(hf:flatT P t=some ks)(hz:zipV xs ys=some (us,vs)){c:Bool}(hc:(!veqs us vs)=c):
 Ef P (.binOp .neq t x y p) env m nx ⟨us.map kindV=ks/\P.eqGuardType P.depth t=false,.s (.bool c),[],[],0⟩:=by
 refine⟨?_,rfl,rfl⟩
 have hn:nilD P m .neq t (.agg xs) y=none:=by
  unfold nilD
  split<;>first|rfl|(rename_i h;cases h)
 simp only[aop,rho,hx,hy,hn,binD,aggEqD,hf,hz,hc,Option.map_some]
end
def vN(cs:List D):Prop:=∀ d∈cs,∃ v,d=.s v
theorem vN.map{α:Type}{f:α->Value}{l:List α}:vN (l.map fun x=>.s (f x)):=fun d hd=>by
 obtain⟨x,_,rfl⟩:=List.mem_map.1 hd;exact⟨_,rfl⟩
theorem aet{i sz:Nat}{j5 cs:List D}(h:vN cs):cs.map (sub (fz0 i j5 sz))=cs:=by
 induction cs with
 |nil=>rfl
 |cons d cs ih=>
  obtain⟨v,rfl⟩:=h d (by simp)
  rw[List.map_cons,ih fun d hd=>h d (by simp[hd])];rfl
theorem HU{m:Mem}{i j sz:Nat}{j5 cs:List D}{e:TypeId}(cB:j≠i)(hm:m j=some (.cells cs e))(h:vN cs):(if j=i then none else(m j).map (Row.sub (fz0 i j5 sz)))=some (.cells cs e):=by
 rw[if_neg cB,hm]
 show some (Row.cells (cs.map _) e)=_
 rw[aet h]
theorem ab4{i sz n:Nat}{j5 es:List D}:sub (fz0 i j5 sz) (.sl es n)=.sl es n:=rfl
theorem DK{i j sz off n:Nat}{j5:List D}(h:j≠i):sub (fz0 i j5 sz) (.rs j off n)=.rs j off n:=by
 show(if j=i then _ else D.rs j off n)=_
 rw[if_neg h]
theorem mh{i sz n:Nat}{j5:List D}(h:j5.length=n*sz):sub (fz0 i j5 sz) (.rs i 0 n)=.sl j5 n:=by
 show(if i=i then D.sl ((j5.drop 0).take (n*sz)) n else _)=_
 rw[if_pos rfl,List.drop_zero,List.take_of_length_le oG]
end Go.Abs
namespace Go.Proofs.Tryz.K
set_option maxRecDepth 10000
theorem aeu:flatT prog 231=some (List.replicate 20 0):=kr
theorem aev:prog.eqGuardType prog.depth 231=false:=kr
theorem aew:zeroP prog 231=(List.replicate 20 (0:Int)).map bZ:=Ux
theorem akp:prog.underlying 231=some (.array 20 98):=kr
section
variable{env:Env}{m:Mem}{nx:Nat}{x y:Operand}{p:TypeId}
theorem aex{w v:List Int}(hx:(opd env x).core=gh w)(hy:(opd env y).core=gh v)(h:w.length=v.length):Ef prog (.binOp .neq 231 x y p) env m nx ⟨(w.map (Value.int .u64)).map kindV=List.replicate 20 0/\prog.eqGuardType prog.depth 231=false,B (w !=v),[],[],0⟩:=
 aes hx hy aeu (Nz h) (by rw[NA h];rfl)
theorem aey{w:List Int}(h:w.length=20):(w.map (Value.int .u64)).map kindV=List.replicate 20 0/\prog.eqGuardType prog.depth 231=false:=⟨by rw[YN,h],aev⟩
end
end Go.Proofs.Tryz.K
end
