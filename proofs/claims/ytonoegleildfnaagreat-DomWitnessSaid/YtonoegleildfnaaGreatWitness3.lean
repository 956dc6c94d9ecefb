/- Part 3 of the proof; the last part says what is proved. -/
import Derived.Test.YtonoegleildfnaaGreatWitness2
import Derived.Below
import Derived.Carry
import Derived.ChangeOld
import Derived.OpenShut
set_option linter.unusedVariables false
set_option linter.unusedSimpArgs false
namespace Go.Abs
open Go.Argus
class V{α:Type}(x:α)(y:outParam α):Prop where h:x=y
section
variable{P:Program}{Y:YSpec}{ops:Array Oper}{dr:Bool}{cf:List (Nat×Nat)}{Q:Exit->St->Prop}{r:List Oper}{v:Env}{m:Mem}{n:Nat}{q:Tra}{x:Oper}{s:St}{e:List Nat×List Nat}
variable{t:Option Nat}{u:Nat}{ty:TypeId}{pos:String}{after:Array Edge}{j:Nat}{b c:Bool}{op:Op}
def SO(P:Program)(Y:YSpec)(ops:Array Oper)(dr:Bool)(o:Oper)(v:Env)(m:Mem)(n:Nat)(s:St)(e:List Nat×List Nat):Prop:=
 ∀ cf Q r q,AOps P Y ops dr cf Q r s (q++[e])->AOps P Y ops dr cf Q (o::r) ⟨v,m,n⟩ q
theorem ak{l:List Operand}(h:iC v l:=by repeat' (first|exact trivial|exact hc|exact rfl|refine And.intro ?_ ?_)):iC v l:=h
theorem z(K:∀ (x:D) rd,AOps P Y ops dr cf Q r (St.put ⟨v,m,n⟩ t (.opt false x)) (q++[(rd,[])]))(hj:(ops[j]?).bind (·.dst)=some u:=by exact rfl)(hg:guardC (v u) b=some false:=by exact rfl):
 AOps P Y ops dr cf Q (⟨t,op,ty,pos,after,some (j,b)⟩::r) ⟨v,m,n⟩ q:=S4 hj hg K
theorem cl{f:FuncId}{gs:List D}{d:D}{t:Nat}(h:PCall P f gs d)(K:AOps P Y ops dr cf Q r ⟨up v t d,m,n⟩ (q++[([],[])]))(hc:callD (rho v op) op=some (f,gs):=by exact rfl)(ha:iC v op.operands.toList:=by exact ak):
 AOps P Y ops dr cf Q (⟨some t,op,ty,pos,after,none⟩::r) ⟨v,m,n⟩ q:=adt h hc ha K
theorem gc{f:FuncId}{gs:List D}{d:D}{t:Nat}(h:PCall P f gs d)(K:AOps P Y ops dr cf Q r ⟨up v t (.opt c d),m,n⟩ (q++[([],[])]))(hj:(ops[j]?).bind (·.dst)=some u:=by exact rfl)(hg:guardC (v u) b=some c:=by exact rfl)(hl:callD (rho v op) op=some (f,gs):=by exact rfl)(ha:c=true->iC v op.operands.toList:=by exact fun hc=>ak):
 AOps P Y ops dr cf Q (⟨some t,op,ty,pos,after,some (j,b)⟩::r) ⟨v,m,n⟩ q:=Kh hj hg hl (fun hc=>⟨ha hc,h⟩) K
theorem J87(K:AOps P Y ops dr cf Q r s (q++[e]))(h:SO P Y ops dr x v m n s e:=by intro _ _ _ _ k;exact aF (sm (v:=.z) rfl rfl) ak (by first|decide|simp) k):AOps P Y ops dr cf Q (x::r) ⟨v,m,n⟩ q:=h _ _ _ _ K
theorem Vt(K:AOps P Y ops dr cf Q r s (q++[e]))(h:SO P Y ops dr x v m n s e:=by intro _ _ _ _ k;exact aF (sm (v:=.s (.pointer none)) rfl rfl) ak (by first|decide|simp) k):AOps P Y ops dr cf Q (x::r) ⟨v,m,n⟩ q:=h _ _ _ _ K
theorem Vu(K:AOps P Y ops dr cf Q r s (q++[e]))(h:SO P Y ops dr x v m n s e:=by intro _ _ _ _ k;exact aF (sm (v:=.pt _) rfl rfl) ak (by first|decide|simp) k):AOps P Y ops dr cf Q (x::r) ⟨v,m,n⟩ q:=h _ _ _ _ K
theorem ahD(K:AOps P Y ops dr cf Q r s (q++[e]))(h:SO P Y ops dr x v m n s e:=by intro _ _ _ _ k;exact bE rfl rfl (j7 (v:=.z) rfl) (fun hc=>⟨ak,trivial⟩) k):AOps P Y ops dr cf Q (x::r) ⟨v,m,n⟩ q:=h _ _ _ _ K
theorem Vi(K:AOps P Y ops dr cf Q r s (q++[e]))(h:SO P Y ops dr x v m n s e:=by intro _ _ _ _ k;exact cJ (iA (d:=.s (.bool _)) (cs':=_) rfl rfl cQ rfl rfl) ak (dQ V.h V.h (by first|(simp;done)|exact⟨rfl,bA rfl⟩|(simp;omega)) rfl) k):AOps P Y ops dr cf Q (x::r) ⟨v,m,n⟩ q:=h _ _ _ _ K
theorem UR(K:AOps P Y ops dr cf Q r s (q++[e]))(h:SO P Y ops dr x v m n s e:=by intro _ _ _ _ k;exact aF (RE rfl rfl) ak V.h k):AOps P Y ops dr cf Q (x::r) ⟨v,m,n⟩ q:=h _ _ _ _ K
theorem U4(K:AOps P Y ops dr cf Q r s (q++[e]))(h:SO P Y ops dr x v m n s e:=by intro _ _ _ _ k;exact aF (R3 rfl rfl V.h V.h (by assumption) (by assumption)) ak (R4 V.h (by assumption) (by assumption) oG) k):AOps P Y ops dr cf Q (x::r) ⟨v,m,n⟩ q:=h _ _ _ _ K
theorem U5(K:AOps P Y ops dr cf Q r s (q++[e]))(h:SO P Y ops dr x v m n s e:=by intro _ _ _ _ k;exact aF (ma rfl V.h V.h (PA (by assumption))) ak (me V.h V.h (by simp;omega)) k):AOps P Y ops dr cf Q (x::r) ⟨v,m,n⟩ q:=h _ _ _ _ K
theorem alS(K:AOps P Y ops dr cf Q r s (q++[e]))(h:SO P Y ops dr x v m n s e:=by intro _ _ _ _ k;exact aF (xg rfl rfl V.h V.h (ZV) (by assumption)) ak (xh V.h (ZV) (by assumption)) k):AOps P Y ops dr cf Q (x::r) ⟨v,m,n⟩ q:=h _ _ _ _ K
theorem UX(K:AOps P Y ops dr cf Q r s (q++[e]))(h:SO P Y ops dr x v m n s e:=by intro _ _ _ _ k;exact aF (KA rfl rfl) ak rfl k):AOps P Y ops dr cf Q (x::r) ⟨v,m,n⟩ q:=h _ _ _ _ K
theorem U'(K:AOps P Y ops dr cf Q r s (q++[e]))(h:SO P Y ops dr x v m n s e:=by intro _ _ _ _ k;exact aF (Ja (cs:=br _ _ _) V.h V.h V.h rfl rfl) ak ⟨V.h,V.h⟩ k):AOps P Y ops dr cf Q (x::r) ⟨v,m,n⟩ q:=h _ _ _ _ K
theorem UT(K:AOps P Y ops dr cf Q r s (q++[e]))(h:SO P Y ops dr x v m n s e:=by intro _ _ _ _ k;exact cJ (iA (d:=.s (.int _ _)) (cs':=[_]) rfl rfl rfl rfl rfl) ak (dQ V.h V.h (by first|(simp;done)|exact⟨rfl,bA rfl⟩|(simp;omega)) rfl) k):AOps P Y ops dr cf Q (x::r) ⟨v,m,n⟩ q:=h _ _ _ _ K
theorem UU(K:AOps P Y ops dr cf Q r s (q++[e]))(h:SO P Y ops dr x v m n s e:=by intro _ _ _ _ k;exact cJ (iA (d:=.rs _ _ _) (cs':=[_]) rfl rfl (ag oG (ag oG ay)) rfl rfl) ak (dQ V.h V.h (by first|(simp;done)|exact⟨rfl,bA rfl⟩|(simp;omega)) rfl) k):AOps P Y ops dr cf Q (x::r) ⟨v,m,n⟩ q:=h _ _ _ _ K
theorem UW(K:AOps P Y ops dr cf Q r s (q++[e]))(h:SO P Y ops dr x v m n s e:=by intro _ _ _ _ k;exact cJ (iA (d:=.rs _ _ _) (cs':=[_]) rfl rfl (ag oG (ag oG (ag oG ay))) rfl rfl) ak (dQ V.h V.h (by first|(simp;done)|exact⟨rfl,bA rfl⟩|(simp;omega)) rfl) k):AOps P Y ops dr cf Q (x::r) ⟨v,m,n⟩ q:=h _ _ _ _ K
theorem Vk(K:AOps P Y ops dr cf Q r s (q++[e]))(h:SO P Y ops dr x v m n s e:=by intro _ _ _ _ k;exact cJ (iA (d:=.rs _ _ _) (cs':=[_]) rfl rfl rfl rfl rfl) ak (dQ V.h V.h (by first|(simp;done)|exact⟨rfl,bA rfl⟩|(simp;omega)) rfl) k):AOps P Y ops dr cf Q (x::r) ⟨v,m,n⟩ q:=h _ _ _ _ K
theorem alT(K:AOps P Y ops dr cf Q r s (q++[e]))(h:SO P Y ops dr x v m n s e:=by intro _ _ _ _ k;exact rH (rq rfl (ag oG ay) rfl V.h V.h (pP (up_same _ _ _) rfl) rfl) ak ⟨V.h,rfl,(by first|omega|exact bA rfl|(simp;done)|(simp;omega)),(by decide),(by first|rfl|(simp;done)|(simp;omega)),(by unfold maxLen;first|omega|(simp;omega)),(by rw[MH];first|omega|(simp;omega)),(by first|(simp;done)|(simp;omega))⟩ k):AOps P Y ops dr cf Q (x::r) ⟨v,m,n⟩ q:=h _ _ _ _ K
theorem VS(K:AOps P Y ops dr cf Q r s (q++[e]))(h:SO P Y ops dr x v m n s e:=by intro _ _ _ _ k;exact aF (qU rfl (ag oG (ag oG (ag oG ay))) V.h) ak (pb V.h) k):AOps P Y ops dr cf Q (x::r) ⟨v,m,n⟩ q:=h _ _ _ _ K
theorem alU(K:AOps P Y ops dr cf Q r s (q++[e]))(h:SO P Y ops dr x v m n s e:=by intro _ _ _ _ k;exact fP (CA V.h V.h V.h rfl rfl) ak ⟨rfl,by decide,V.h,by decide⟩ k):AOps P Y ops dr cf Q (x::r) ⟨v,m,n⟩ q:=h _ _ _ _ K
theorem aiD(K:AOps P Y ops dr cf Q r s (q++[e]))(h:SO P Y ops dr x v m n s e:=by intro _ _ _ _ k;exact bE rfl rfl (RD rfl rfl) (fun hc=>⟨ak,V.h⟩) k):AOps P Y ops dr cf Q (x::r) ⟨v,m,n⟩ q:=h _ _ _ _ K
variable{rf:Bool}{W:Exit->St->Prop}{o:Array Oper}{B:Code}{i:Nat}{k:St}
theorem ws[eD Y](h:AOps P Y o false [] (gH fun k=>AW P Y rf B W k) o.toList k []):AW P Y rf (.seq (.region i o false) B) W k:=ao h
theorem er[eD Y](h:AOps P Y o false [] (gH fun k=>AW P Y rf B W k) o.toList k []):AOps P Y ops dr [] (gH fun k=>AW P Y rf (.seq (.region i o false) B) W k) [] k q:=ab (ao h)
end
end Go.Abs
theorem eH{p:Prop}(h:p:=by repeat' (first|exact trivial|exact rfl|refine And.intro ?_ ?_)):p:=h
namespace Go.Proofs.Tryz.K
open Go.Abs
theorem kR{α:Sort _}{a b:α}(h:a=b:=by kernel_rfl):a=b:=h
instance:V (prog.cellsOf 1) 1:=⟨c1⟩
instance:V (aggP prog 1) false:=⟨a1⟩
instance:V (tyOk prog 1) true:=⟨kR⟩
instance:V (prog.bytesOf 1) 8:=⟨b1⟩
instance:V (prog.cellsOf 2) 1:=⟨c2⟩
instance:V (prog.bytesOf 2) 8:=⟨b2⟩
instance:V (aggP prog 2) false:=⟨a2⟩
instance:V (tyOk prog 2) true:=⟨kR⟩
instance:V (prog.cellsOf 3) 1:=⟨c3⟩
instance:V (prog.bytesOf 3) 8:=⟨b3⟩
instance:V (aggP prog 3) false:=⟨a3⟩
instance:V (tyOk prog 3) true:=⟨kR⟩
instance:V (zeroP prog 3) [.s (.int .i64 0)]:=⟨kR⟩
instance:V (prog.cellsOf 4) 1:=⟨c4⟩
instance:V (prog.bytesOf 4) 1:=⟨b4⟩
instance:V (aggP prog 4) false:=⟨a4⟩
instance:V (tyOk prog 4) true:=⟨kR⟩
instance:V (zeroP prog 4) [.s (.bool false)]:=⟨kR⟩
instance:V (boT prog 4) true:=⟨kR⟩
instance:V (prog.cellsOf 5) 1:=⟨c5⟩
instance:V (prog.bytesOf 5) 1:=⟨b5⟩
instance:V (aggP prog 5) false:=⟨a5⟩
instance:V (tyOk prog 5) true:=⟨kR⟩
instance:V (zeroP prog 5) [.s (.int .u8 0)]:=⟨kR⟩
instance:V (prog.bytesOf 6) 1:=⟨b6⟩
instance:V (aggP prog 6) false:=⟨a6⟩
instance:V (prog.cellsOf 9) 1:=⟨kR⟩
instance:V (aggP prog 9) false:=⟨kR⟩
instance:V (tyOk prog 9) true:=⟨kR⟩
instance:V (stT prog 9) true:=⟨kR⟩
instance:V (elemP prog 15) 275:=⟨Fq⟩
instance:V (elemP prog 16) 278:=⟨Fs⟩
instance:V (elemP prog 17) 287:=⟨Fp⟩
instance:V (prog.cellsOf 22) 1:=⟨kR⟩
instance:V (aggP prog 22) false:=⟨kR⟩
instance:V (tyOk prog 22) true:=⟨kR⟩
instance:V (elemP prog 22) 5:=⟨Wv⟩
instance:V (slT prog 22) true:=⟨U7⟩
instance:V (prog.cellsOf 23) 1:=⟨kR⟩
instance:V (aggP prog 23) false:=⟨kR⟩
instance:V (tyOk prog 23) true:=⟨kR⟩
instance:V (elemP prog 23) 9:=⟨kR⟩
instance:V (slT prog 23) true:=⟨kR⟩
instance:V (prog.cellsOf 24) 1:=⟨kR⟩
instance:V (aggP prog 24) false:=⟨kR⟩
instance:V (tyOk prog 24) true:=⟨kR⟩
instance:V (elemP prog 24) 72:=⟨kR⟩
instance:V (slT prog 24) true:=⟨kR⟩
instance:V (prog.cellsOf 26) 8:=⟨kR⟩
instance:V (aggP prog 26) true:=⟨kR⟩
instance:V (tyOk prog 26) true:=⟨kR⟩
instance:V (zeroP prog 26) [.s (.string "".toUTF8),.s (.bool false),.s (.int .i64 0),.s (.int .u8 0),.z,.z,.z,.z]:=⟨kR⟩
instance:V (fieldP prog 26 0) (some (0,9)):=⟨kR⟩
instance:V (fieldP prog 26 1) (some (1,4)):=⟨kR⟩
instance:V (fieldP prog 26 2) (some (2,3)):=⟨kR⟩
instance:V (fieldP prog 26 3) (some (3,5)):=⟨kR⟩
instance:V (fieldP prog 26 4) (some (4,22)):=⟨kR⟩
instance:V (fieldP prog 26 5) (some (5,22)):=⟨kR⟩
instance:V (fieldP prog 26 6) (some (6,23)):=⟨kR⟩
instance:V (fieldP prog 26 7) (some (7,24)):=⟨kR⟩
instance:V (prog.cellsOf 27) 1:=⟨Ch⟩
instance:V (prog.bytesOf 27) 24:=⟨MH⟩
instance:V (aggP prog 27) false:=⟨kR⟩
instance:V (tyOk prog 27) true:=⟨kR⟩
instance:V (zeroP prog 27) [.z]:=⟨kR⟩
instance:V (elemP prog 27) 3:=⟨Fo⟩
instance:V (slT prog 27) true:=⟨Ez⟩
instance:V (prog.cellsOf 28) 1:=⟨kR⟩
instance:V (aggP prog 28) false:=⟨kR⟩
instance:V (tyOk prog 28) true:=⟨kR⟩
instance:V (elemP prog 28) 27:=⟨kR⟩
instance:V (slT prog 28) true:=⟨kR⟩
instance:V (prog.cellsOf 52) 1:=⟨Xj⟩
instance:V (prog.bytesOf 52) 24:=⟨Fw⟩
instance:V (aggP prog 52) false:=⟨kR⟩
instance:V (tyOk prog 52) true:=⟨kR⟩
instance:V (zeroP prog 52) [.z]:=⟨kR⟩
instance:V (elemP prog 52) 4:=⟨kR⟩
instance:V (slT prog 52) true:=⟨kR⟩
instance:V (prog.cellsOf 66) 6:=⟨kR⟩
instance:V (aggP prog 66) true:=⟨kR⟩
instance:V (tyOk prog 66) true:=⟨kR⟩
instance:V (zeroP prog 66) [.s (.int .u8 0),.s (.int .i64 0),.s (.int .i64 0),.s (.int .i64 0),.s (.int .i64 0),.z]:=⟨kR⟩
instance:V (fieldP prog 66 0) (some (0,5)):=⟨kR⟩
instance:V (fieldP prog 66 1) (some (1,3)):=⟨kR⟩
instance:V (fieldP prog 66 2) (some (2,3)):=⟨kR⟩
instance:V (fieldP prog 66 3) (some (3,3)):=⟨kR⟩
instance:V (fieldP prog 66 4) (some (4,3)):=⟨kR⟩
instance:V (fieldP prog 66 5) (some (5,27)):=⟨kR⟩
instance:V (prog.cellsOf 67) 1:=⟨kR⟩
instance:V (aggP prog 67) false:=⟨kR⟩
instance:V (tyOk prog 67) true:=⟨kR⟩
instance:V (elemP prog 67) 199:=⟨kR⟩
instance:V (slT prog 67) true:=⟨kR⟩
instance:V (prog.cellsOf 69) 15:=⟨kR⟩
instance:V (aggP prog 69) true:=⟨kR⟩
instance:V (tyOk prog 69) true:=⟨kR⟩
instance:V (zeroP prog 69) [.s (.int .u8 0),.s (.int .i64 0),.s (.int .i64 0),.s (.int .i64 0),.s (.int .i64 0),.s (.string "".toUTF8),.s (.int .u8 0),.s (.int .i64 0),.s (.int .i64 0),.s (.int .i64 0),.s (.int .i64 0),.z,.z,.z,.s (.int .i64 0)]:=⟨kR⟩
instance:V (fieldP prog 69 0) (some (0,5)):=⟨kR⟩
instance:V (fieldP prog 69 1) (some (1,3)):=⟨kR⟩
instance:V (fieldP prog 69 2) (some (2,3)):=⟨kR⟩
instance:V (fieldP prog 69 3) (some (3,3)):=⟨kR⟩
instance:V (fieldP prog 69 4) (some (4,3)):=⟨kR⟩
instance:V (fieldP prog 69 5) (some (5,9)):=⟨kR⟩
instance:V (fieldP prog 69 6) (some (6,66)):=⟨kR⟩
instance:V (fieldP prog 69 7) (some (12,27)):=⟨kR⟩
instance:V (fieldP prog 69 8) (some (13,67)):=⟨kR⟩
instance:V (fieldP prog 69 9) (some (14,3)):=⟨kR⟩
instance:V (prog.cellsOf 70) 1:=⟨kR⟩
instance:V (aggP prog 70) false:=⟨kR⟩
instance:V (tyOk prog 70) true:=⟨kR⟩
instance:V (elemP prog 70) 66:=⟨kR⟩
instance:V (slT prog 70) true:=⟨kR⟩
instance:V (prog.cellsOf 72) 16:=⟨kR⟩
instance:V (aggP prog 72) true:=⟨kR⟩
instance:V (tyOk prog 72) true:=⟨kR⟩
instance:V (zeroP prog 72) [.z,.s (.int .u8 0),.s (.int .i64 0),.s (.int .i64 0),.s (.int .i64 0),.s (.int .i64 0),.s (.string "".toUTF8),.s (.int .u8 0),.s (.int .i64 0),.s (.int .i64 0),.s (.int .i64 0),.s (.int .i64 0),.z,.z,.z,.s (.int .i64 0)]:=⟨kR⟩
instance:V (fieldP prog 72 0) (some (0,70)):=⟨kR⟩
instance:V (fieldP prog 72 1) (some (1,69)):=⟨kR⟩
instance:V (prog.cellsOf 79) 1:=⟨kR⟩
instance:V (aggP prog 79) false:=⟨kR⟩
instance:V (tyOk prog 79) true:=⟨kR⟩
instance:V (tyOk prog 89) true:=⟨kR⟩
instance:V (zeroP prog 89) [.s (.string "".toUTF8),.s (.bool false),.s (.int .i64 0),.s (.int .u8 0),.z,.z,.z,.z,.z,.z,.z]:=⟨kR⟩
instance:V (fieldP prog 89 0) (some (0,26)):=⟨kR⟩
instance:V (fieldP prog 89 1) (some (8,28)):=⟨kR⟩
instance:V (fieldP prog 89 2) (some (9,28)):=⟨kR⟩
instance:V (fieldP prog 89 3) (some (10,52)):=⟨kR⟩
instance:V (elemP prog 95) 100:=⟨kR⟩
instance:V (slT prog 95) true:=⟨kR⟩
instance:V (prog.cellsOf 98) 1:=⟨kR⟩
instance:V (aggP prog 98) false:=⟨kR⟩
instance:V (tyOk prog 98) true:=⟨kR⟩
instance:V (prog.cellsOf 100) 19:=⟨xV⟩
instance:V (prog.bytesOf 100) 152:=⟨LN⟩
instance:V (aggP prog 100) true:=⟨Eu⟩
instance:V (tyOk prog 100) true:=⟨t100⟩
instance:V (zeroP prog 100) [.s (.int .u64 0),.s (.int .u64 0),.s (.int .u64 0),.s (.int .u64 0),.s (.int .u64 0),.s (.int .u64 0),.s (.int .u64 0),.s (.int .u64 0),.s (.int .u64 0),.s (.int .u64 0),.s (.int .u64 0),.s (.int .u64 0),.s (.int .u64 0),.s (.int .u64 0),.s (.int .u64 0),.s (.int .u64 0),.s (.int .u64 0),.s (.int .u64 0),.s (.int .u64 0)]:=⟨kR⟩
instance:V (elemP prog 100) 98:=⟨kR⟩
instance:V (arT prog 100) true:=⟨kR⟩
instance:V (lenP prog 100) 19:=⟨kR⟩
instance:V (prog.cellsOf 102) 1:=⟨kR⟩
instance:V (aggP prog 102) false:=⟨kR⟩
instance:V (tyOk prog 102) true:=⟨kR⟩
instance:V (elemP prog 102) 52:=⟨kR⟩
instance:V (slT prog 102) true:=⟨kR⟩
instance:V (prog.cellsOf 104) 2:=⟨VW⟩
instance:V (aggP prog 104) true:=⟨VV⟩
instance:V (tyOk prog 104) true:=⟨t104⟩
instance:V (zeroP prog 104) [.z,.z]:=⟨kR⟩
instance:V (fieldP prog 104 0) (some (0,102)):=⟨kR⟩
instance:V (fieldP prog 104 1) (some (1,102)):=⟨kR⟩
instance:V (prog.cellsOf 120) 1:=⟨kR⟩
instance:V (aggP prog 120) false:=⟨kR⟩
instance:V (tyOk prog 120) true:=⟨kR⟩
instance:V (zeroP prog 120) [.s (.map none)]:=⟨kR⟩
instance:V (prog.cellsOf 128) 1:=⟨kR⟩
instance:V (aggP prog 128) false:=⟨kR⟩
instance:V (tyOk prog 128) true:=⟨kR⟩
instance:V (zeroP prog 128) [.s .nilFunc]:=⟨kR⟩
instance:V (prog.cellsOf 131) 1:=⟨kR⟩
instance:V (aggP prog 131) false:=⟨kR⟩
instance:V (tyOk prog 131) true:=⟨kR⟩
instance:V (prog.cellsOf 133) 10:=⟨VJ⟩
instance:V (aggP prog 133) true:=⟨VH⟩
instance:V (tyOk prog 133) true:=⟨t133⟩
instance:V (zeroP prog 133) [.s (.string "".toUTF8),.s (.bool false),.s (.int .i64 0),.s (.int .u8 0),.z,.z,.z,.z,.s (.map none),.s (.map none)]:=⟨kR⟩
instance:V (fieldP prog 133 0) (some (0,26)):=⟨kR⟩
instance:V (fieldP prog 133 1) (some (8,131)):=⟨kR⟩
instance:V (fieldP prog 133 2) (some (9,131)):=⟨kR⟩
instance:V (elemP prog 155) 158:=⟨kR⟩
instance:V (slT prog 155) true:=⟨kR⟩
instance:V (prog.cellsOf 158) 2:=⟨mI⟩
instance:V (prog.bytesOf 158) 32:=⟨VK⟩
instance:V (aggP prog 158) true:=⟨ta⟩
instance:V (tyOk prog 158) true:=⟨t158⟩
instance:V (zeroP prog 158) [.s (.bool false),.z]:=⟨kR⟩
instance:V (fieldP prog 158 0) (some (0,4)):=⟨kR⟩
instance:V (fieldP prog 158 1) (some (1,52)):=⟨kR⟩
instance:V (prog.cellsOf 199) 2:=⟨kR⟩
instance:V (aggP prog 199) true:=⟨kR⟩
instance:V (tyOk prog 199) true:=⟨kR⟩
instance:V (zeroP prog 199) [.s (.string "".toUTF8),.s (.int .i64 0)]:=⟨kR⟩
instance:V (fieldP prog 199 0) (some (0,9)):=⟨kR⟩
instance:V (fieldP prog 199 1) (some (1,3)):=⟨kR⟩
instance:V (prog.cellsOf 205) 6:=⟨kR⟩
instance:V (aggP prog 205) true:=⟨L4⟩
instance:V (tyOk prog 205) true:=⟨kR⟩
instance:V (zeroP prog 205) [.s (.int .i64 0),.s (.int .i64 0),.s (.int .i64 0),.s (.int .i64 0),.s (.int .i64 0),.s (.int .i64 0)]:=⟨L5⟩
instance:V (fieldP prog 205 0) (some (0,3)):=⟨kR⟩
instance:V (fieldP prog 205 1) (some (1,3)):=⟨kR⟩
instance:V (fieldP prog 205 2) (some (2,3)):=⟨kR⟩
instance:V (fieldP prog 205 3) (some (3,3)):=⟨kR⟩
instance:V (fieldP prog 205 4) (some (4,3)):=⟨kR⟩
instance:V (fieldP prog 205 5) (some (5,3)):=⟨kR⟩
instance:V (prog.cellsOf 208) 9:=⟨kR⟩
instance:V (aggP prog 208) true:=⟨kR⟩
instance:V (tyOk prog 208) true:=⟨kR⟩
instance:V (zeroP prog 208) [.s (.string "".toUTF8),.s (.bool false),.s (.int .i64 0),.s (.int .u8 0),.z,.z,.z,.z,.z]:=⟨kR⟩
instance:V (fieldP prog 208 0) (some (0,26)):=⟨kR⟩
instance:V (fieldP prog 208 1) (some (8,28)):=⟨kR⟩
instance:V (elemP prog 227) 231:=⟨kR⟩
instance:V (slT prog 227) true:=⟨kR⟩
instance:V (prog.cellsOf 231) 20:=⟨s3⟩
instance:V (prog.bytesOf 231) 160:=⟨U0⟩
instance:V (aggP prog 231) true:=⟨vY⟩
instance:V (tyOk prog 231) true:=⟨t231⟩
instance:V (zeroP prog 231) [.s (.int .u64 0),.s (.int .u64 0),.s (.int .u64 0),.s (.int .u64 0),.s (.int .u64 0),.s (.int .u64 0),.s (.int .u64 0),.s (.int .u64 0),.s (.int .u64 0),.s (.int .u64 0),.s (.int .u64 0),.s (.int .u64 0),.s (.int .u64 0),.s (.int .u64 0),.s (.int .u64 0),.s (.int .u64 0),.s (.int .u64 0),.s (.int .u64 0),.s (.int .u64 0),.s (.int .u64 0)]:=⟨UZ⟩
instance:V (elemP prog 231) 98:=⟨kR⟩
instance:V (arT prog 231) true:=⟨kR⟩
instance:V (lenP prog 231) 20:=⟨kR⟩
instance:V (prog.underlying 8) (some (.struct (ke prog 8))):=⟨u8⟩
instance:V (prog.underlying 22) (some (.slice 5)):=⟨kR⟩
instance:V (prog.underlying 66) (some (.struct (ke prog 66))):=⟨kR⟩
instance:V (((ke prog 66).toList.map fun f=>(f.offset,prog.cellsOf f.type))) [(0,1),(1,1),(2,1),(3,1),(4,1),(5,1)]:=⟨kR⟩
instance:V (((ke prog 66).toList.all fun f=>(prog.info? f.type).isSome)) true:=⟨kR⟩
instance:V (prog.underlying 89) (some (.struct (ke prog 89))):=⟨kR⟩
instance:V (((ke prog 89).toList.map fun f=>(f.offset,prog.cellsOf f.type))) [(0,8),(8,1),(9,1),(10,1)]:=⟨kR⟩
instance:V (((ke prog 89).toList.all fun f=>(prog.info? f.type).isSome)) true:=⟨kR⟩
instance:V (mkeyP prog 120) 3:=⟨GY⟩
instance:V (mapT prog 120) true:=⟨GZ⟩
instance:V (mkeyP prog 127) 3:=⟨KU⟩
instance:V (mapT prog 127) true:=⟨KV⟩
instance:V (mkeyP prog 131) 5:=⟨kR⟩
instance:V (mapT prog 131) true:=⟨kR⟩
instance:V (melP prog 131) 205:=⟨K6⟩
instance:V (prog.underlying 133) (some (.struct (ke prog 133))):=⟨kR⟩
instance:V (((ke prog 133).toList.map fun f=>(f.offset,prog.cellsOf f.type))) [(0,8),(8,1),(9,1)]:=⟨kR⟩
instance:V (((ke prog 133).toList.all fun f=>(prog.info? f.type).isSome)) true:=⟨kR⟩
instance:V (prog.underlying 158) (some (.struct (ke prog 158))):=⟨kR⟩
instance:V (((ke prog 158).toList.map fun f=>(f.offset,prog.cellsOf f.type))) [(0,1),(1,1)]:=⟨kR⟩
instance:V (((ke prog 158).toList.all fun f=>(prog.info? f.type).isSome)) true:=⟨kR⟩
instance:V (prog.underlying 205) (some (.struct (ke prog 205))):=⟨kR⟩
instance:V (((ke prog 205).toList.map fun f=>(f.offset,prog.cellsOf f.type))) [(0,1),(1,1),(2,1),(3,1),(4,1),(5,1)]:=⟨kR⟩
instance:V (((ke prog 205).toList.all fun f=>(prog.info? f.type).isSome)) true:=⟨kR⟩
instance:V (prog.underlying 208) (some (.struct (ke prog 208))):=⟨kR⟩
instance:V (((ke prog 208).toList.map fun f=>(f.offset,prog.cellsOf f.type))) [(0,8),(8,1)]:=⟨kR⟩
instance:V (((ke prog 208).toList.all fun f=>(prog.info? f.type).isSome)) true:=⟨kR⟩
instance:V (prog.underlying 2) (some (.int .i64)):=⟨u2⟩
instance:V (prog.underlying 3) (some (.int .i64)):=⟨kR⟩
instance:V (prog.underlying 5) (some (.int .u8)):=⟨u5⟩
instance:V (prog.underlying 189) (some (.int .u64)):=⟨kR⟩
end Go.Proofs.Tryz.K
namespace Go.Abs
open Go.Argus
section
variable{P:Program}{Y:YSpec}{ops:Array Oper}{dr:Bool}{cf:List (Nat×Nat)}{Q:Exit->St->Prop}{r:List Oper}{v:Env}{m:Mem}{n:Nat}{q:Tra}{x:Oper}{s:St}{e:List Nat×List Nat}
theorem gP{p:Prop}(h:p:=by first|rfl|exact bA rfl|(simp;done)|(simp;omega)|omega):p:=h
theorem ET{p:Prop}(h:p:=by first|omega|exact bA rfl|(simp;done)|(simp;omega)):p:=h
theorem pI{p:Prop}(h:p:=by first|(simp;done)|exact⟨rfl,bA rfl⟩|(simp;omega)):p:=h
theorem EU{p:Prop}(h:p:=by first|rfl|exact jv _|(simp[jv];done)|exact F3):p:=h
theorem B3{p:Prop}(h:p:=by first|(simp;done)|omega|exact bA rfl):p:=h
theorem EV{p:Prop}(h:p:=by unfold maxLen;first|omega|(simp;omega)):p:=h
theorem HR{p:Prop}(h:p:=by first|rfl|(simp;done)|(simp;omega)):p:=h
theorem HS{p:Prop}(h:p:=by first|(simp;done)|(simp;omega)):p:=h
theorem qH{p:Prop}(h:p:=by first|(simp;done)|fail):p:=h
theorem HT{p:Prop}(h:p:=by first|decide|simp):p:=h
def oT(x:Oper):Nat:=2*(match x.op with
 | .move ..=>1
 | .assign ..=>2
 | .pick ..=>3
 | .alloc ..=>4
 | .box ..=>5
 | .build ..=>6
 | .buildSlice ..=>7
 | .insert ..=>8
 | .load ..=>9
 | .store ..=>10
 | .nilCheck ..=>11
 | .unOp ..=>12
 | .convert ..=>13
 | .makeFunc ..=>14
 | .makeMap ..=>15
 | .makeSlice ..=>16
 | .slice ..=>17
 | .fieldAddr ..=>18
 | .field ..=>19
 | .indexAddr ..=>20
 | .index ..=>21
 | .lookup ..=>22
 | .mapUpdate ..=>23
 | .extract ..=>24
 | .call ..=>25
 | .binOp .add ..=>26
 | .binOp .sub ..=>27
 | .binOp .mul ..=>28
 | .binOp .quo ..=>29
 | .binOp .rem ..=>30
 | .binOp .and ..=>31
 | .binOp .or ..=>32
 | .binOp .xor ..=>33
 | .binOp .shl ..=>34
 | .binOp .shr ..=>35
 | .binOp .andNot ..=>36
 | .binOp .eql ..=>37
 | .binOp .neq ..=>38
 | .binOp .lss ..=>39
 | .binOp .leq ..=>40
 | .binOp .gtr ..=>41
 | .binOp .geq ..=>42
 |_=>0)+(match x.guard with
 |none=>0
 |_=>1)
theorem SS2(ht:oT x=2:=by exact rfl)(h:SO P Y ops dr x v m n s e:=by intro _ _ _ _ k;first|exact aF (j7 (v:=.s (.int _ _)) rfl) ak trivial k|exact aF (j7 (v:=.s (.bool _)) rfl) ak trivial k|exact aF (j7 (v:=.sl _ _) rfl) ak trivial k|exact aF (j7 (v:=.rs _ _ _) rfl) ak trivial k|exact aF (j7 (v:=.pt _) rfl) ak trivial k|exact aF (j7 (v:=.fn _ _ _) rfl) ak trivial k|exact aF (j7 (v:=.s (.string _)) rfl) ak trivial k|exact aF (j7 (v:=.mp _) rfl) ak trivial k|exact aF (j7 (v:=.rp _ _) rfl) ak trivial k|exact aF (j7 (v:=_) rfl) ak trivial k|fail):SO P Y ops dr x v m n s e:=h
theorem SS4(ht:oT x=4:=by exact rfl)(h:SO P Y ops dr x v m n s e:=by intro _ _ _ _ k;first|exact aF (na (v:=.s (.bool _)) rfl) ak trivial k|exact aF (na (v:=.s (.int _ _)) rfl) ak trivial k|exact aF (na (v:=.sl _ _) rfl) ak trivial k|exact aF (na (v:=.rs _ _ _) rfl) ak trivial k|exact aF (na (v:=.z) rfl) ak trivial k|exact aF (na (v:=.pt _) rfl) ak trivial k|exact aF (na (v:=.s (.pointer none)) rfl) ak trivial k|exact aF (na (v:=.mp _) rfl) ak trivial k|exact aF (na (v:=.fn _ _ _) rfl) ak trivial k|fail):SO P Y ops dr x v m n s e:=h
theorem agF(ht:oT x=18:=by exact rfl)(h:SO P Y ops dr x v m n s e:=by intro _ _ _ _ k;first|exact aF (ma (vs:=aD _) rfl V.h V.h rfl) ak (me V.h V.h qH) k|exact aF (ma (vs:=a9 _) rfl V.h V.h rfl) ak (me V.h V.h qH) k|exact aF (ma (vs:=bd _) rfl V.h V.h rfl) ak (me V.h V.h qH) k|exact aF (ma (vs:=br _ _ _) rfl V.h V.h rfl) ak (me V.h V.h qH) k|exact aF (ma (vs:=c9 _) rfl V.h V.h rfl) ak (me V.h V.h qH) k|exact aF (dx rfl rfl V.h V.h (iI gP)) ak (dy V.h V.h gP) k|exact aF (ma (vs:=bZ _ _) rfl V.h V.h rfl) ak (me V.h V.h qH) k|exact aF (dx rfl ay V.h V.h (iI gP)) ak (dy V.h V.h gP) k|exact aF (dx (vs:=aD _) rfl rfl V.h V.h rfl) ak (dy V.h V.h B3) k|exact aF (dx (vs:=bd _) rfl rfl V.h V.h rfl) ak (dy V.h V.h B3) k|exact aF (dx (vs:=a9 _) rfl (up_same _ _ _) V.h V.h rfl) ak (dy V.h V.h B3) k|exact aF (ma rfl V.h V.h rfl) ak (me V.h V.h qH) k|exact aF (ma (vs:=mf _) rfl V.h V.h rfl) ak (me V.h V.h qH) k|exact aF (dx rfl rfl V.h V.h rfl) ak (dy V.h V.h B3) k|exact aF (dx rfl (ag oG rfl) V.h V.h (iI gP)) ak (dy V.h V.h gP) k|exact aF (dx rfl (up_same _ _ _) V.h V.h rfl) ak (dy V.h V.h B3) k|exact aF (RF rfl V.h) ak (RN V.h V.h) k|exact aF (fV rfl rfl kd V.h) ak (fW V.h V.h kd) k|exact aF (fV rfl ay kd V.h) ak (fW V.h V.h kd) k|exact aF (fV rfl cQ kd V.h) ak (fW V.h V.h kd) k|exact aF (fV rfl (up_same _ _ _) kd V.h) ak (fW V.h V.h kd) k|exact aF (fV rfl rfl rfl V.h) ak (fW V.h V.h rfl) k|exact aF (fV rfl ay rfl V.h) ak (fW V.h V.h rfl) k|exact aF (fV rfl cQ rfl V.h) ak (fW V.h V.h rfl) k|exact aF (fV rfl (up_same _ _ _) rfl V.h) ak (fW V.h V.h rfl) k|fail):SO P Y ops dr x v m n s e:=h
theorem agG(ht:oT x=19:=by exact rfl)(h:SO P Y ops dr x v m n s e:=by intro _ _ _ _ k;first|exact bE rfl rfl (RF rfl V.h) (fun hc=>⟨ak,(RN V.h V.h)⟩) k|exact bE rfl rfl (ma (vs:=bZ _ _) rfl V.h V.h rfl) (fun hc=>⟨ak,(me V.h V.h qH)⟩) k|exact bE rfl rfl (ma (vs:=br _ _ _) rfl V.h V.h rfl) (fun hc=>⟨ak,(me V.h V.h qH)⟩) k|exact bE rfl rfl (ma (vs:=aD _) rfl V.h V.h rfl) (fun hc=>⟨ak,(me V.h V.h qH)⟩) k|exact bE rfl rfl (ma (vs:=bd _) rfl V.h V.h rfl) (fun hc=>⟨ak,(me V.h V.h qH)⟩) k|exact bE rfl rfl (ma (vs:=a9 _) rfl V.h V.h rfl) (fun hc=>⟨ak,(me V.h V.h qH)⟩) k|exact bE rfl rfl (fV rfl cQ kd V.h) (fun hc=>⟨ak,(fW V.h V.h kd)⟩) k|exact bE rfl rfl (fV rfl gy gA V.h) (fun hc=>⟨ak,(fW V.h V.h gA)⟩) k|exact bE rfl rfl (fV rfl rfl rfl V.h) (fun hc=>⟨ak,(fW V.h V.h rfl)⟩) k|exact bE rfl rfl (fV rfl ay rfl V.h) (fun hc=>⟨ak,(fW V.h V.h rfl)⟩) k|exact bE rfl rfl (fV rfl (up_same _ _ _) rfl V.h) (fun hc=>⟨ak,(fW V.h V.h rfl)⟩) k|exact bE rfl rfl (dx rfl rfl V.h V.h rfl) (fun hc=>⟨ak,(dy V.h V.h B3)⟩) k|exact bE rfl rfl (dx rfl (ag oG rfl) V.h V.h (iI gP)) (fun hc=>⟨ak,(dy V.h V.h gP)⟩) k|fail):SO P Y ops dr x v m n s e:=h
theorem SS6(ht:oT x=6:=by exact rfl)(h:SO P Y ops dr x v m n s e:=by intro _ _ _ _ k;first|exact aaf rfl rfl (by first|exact trivial|exact rfl) k|exact aag rfl rfl (by first|exact trivial|exact rfl) k|exact abw rfl rfl rfl (fun h=>by first|exact trivial|exact rfl|exact h|(show Eq _ _;rw[h];rfl)|(show Eq _ _;simp[h];done)|(show Eq _ _;simp_all;done)|fail) (fun h=>by first|exact trivial|exact rfl|exact h|(show Eq _ _;rw[h];rfl)|(show Eq _ _;simp[h];done)|(show Eq _ _;simp_all;done)|fail) k|fail):SO P Y ops dr x v m n s e:=h
theorem agH(ht:oT x=36:=by exact rfl)(h:SO P Y ops dr x v m n s e:=by intro _ _ _ _ k;first|exact aF (Qn rfl V.h) ak (pb V.h) k|exact aF (qU rfl rfl V.h) ak (pb V.h) k|exact aF (qU rfl ay V.h) ak (pb V.h) k|exact aF (qU rfl cQ V.h) ak (pb V.h) k|exact aF (qU rfl (up_same _ _ _) V.h) ak (pb V.h) k|fail):SO P Y ops dr x v m n s e:=h
theorem SS3(ht:oT x=3:=by exact rfl)(h:SO P Y ops dr x v m n s e:=by intro _ _ _ _ k;first|exact bE rfl rfl (j7 (v:=.s (.int _ _)) rfl) (fun hc=>⟨ak,trivial⟩) k|exact bE rfl rfl (j7 (v:=.sl _ _) rfl) (fun hc=>⟨ak,trivial⟩) k|exact bE rfl rfl (j7 (v:=.s (.bool _)) rfl) (fun hc=>⟨ak,trivial⟩) k|exact bE rfl rfl (j7 (v:=.pt _) rfl) (fun hc=>⟨ak,trivial⟩) k|exact bE rfl rfl (j7 (v:=.s (.string _)) rfl) (fun hc=>⟨ak,trivial⟩) k|exact bE rfl rfl (j7 (v:=.rs _ _ _) rfl) (fun hc=>⟨ak,trivial⟩) k|exact bE rfl rfl (j7 (v:=.fn _ _ _) rfl) (fun hc=>⟨ak,trivial⟩) k|fail):SO P Y ops dr x v m n s e:=h
theorem agI(ht:oT x=37:=by exact rfl)(h:SO P Y ops dr x v m n s e:=by intro _ _ _ _ k;first|exact bE rfl rfl (Qn rfl V.h) (fun hc=>⟨ak,(pb V.h)⟩) k|exact bE rfl rfl (qU rfl rfl V.h) (fun hc=>⟨ak,(pb V.h)⟩) k|exact bE rfl rfl (qU rfl ay V.h) (fun hc=>⟨ak,(pb V.h)⟩) k|exact bE rfl rfl (qU rfl (up_same _ _ _) V.h) (fun hc=>⟨ak,(pb V.h)⟩) k|fail):SO P Y ops dr x v m n s e:=h
theorem agJ(ht:oT x=74:=by exact rfl)(h:SO P Y ops dr x v m n s e:=by intro _ _ _ _ k;first|exact aF (Ki rfl rfl cM) ak rfl k|exact aF (KD rfl rfl) ak rfl k|fail):SO P Y ops dr x v m n s e:=h
theorem agK(ht:oT x=40:=by exact rfl)(h:SO P Y ops dr x v m n s e:=by intro _ _ _ _ k;first|exact aF (RL rfl rfl V.h V.h (by assumption)) ak (RM V.h (by assumption)) k|exact aF (xg rfl rfl V.h V.h (FP) (by assumption)) ak (xh V.h (FP) (by assumption)) k|exact aF (xg rfl rfl V.h V.h (FQ) (by assumption)) ak (xh V.h (FQ) (by assumption)) k|exact aF (aby rfl rfl rfl V.h V.h V.h) ak ⟨V.h,by omega⟩ k|exact aF (xg rfl rfl V.h V.h (Cy) (by assumption)) ak (xh V.h (Cy) (by assumption)) k|exact aF (xg rfl rfl V.h V.h (N8) (by assumption)) ak (xh V.h (N8) (by assumption)) k|exact aF (kV rfl rfl rfl V.h V.h) ak ⟨V.h,by omega⟩ k|exact aF (kV rfl rfl ay V.h V.h) ak ⟨V.h,by omega⟩ k|exact aF (kV rfl rfl (ag oG (ag oG ay)) V.h V.h) ak ⟨V.h,by omega⟩ k|exact aF (kV rfl rfl (ag oG (ag oG (ag oG ay))) V.h V.h) ak ⟨V.h,by omega⟩ k|exact aF (kV rfl rfl cQ V.h V.h) ak ⟨V.h,by omega⟩ k|exact aF (kV rfl rfl (up_same _ _ _) V.h V.h) ak ⟨V.h,by omega⟩ k|exact aF (tT rfl rfl rfl V.h V.h) ak ⟨V.h,by omega⟩ k|exact aF (abz rfl rfl (up_same _ _ _) V.h V.h) ak ⟨V.h,by omega⟩ k|fail):SO P Y ops dr x v m n s e:=h
theorem agL(ht:oT x=50:=by exact rfl)(h:SO P Y ops dr x v m n s e:=by intro _ _ _ _ k;first|exact aF (SU rfl) ak V.h k|exact aF (Kc rfl) ak V.h k|exact rH (rq rfl rfl rfl V.h V.h (Pj sZ) rfl) ak ⟨V.h,rfl,ET,(by decide),HR,EV,(by rw[b3];first|omega|(simp;omega)),HS⟩ k|exact aF (Gx rfl rfl) ak V.h k|exact aF (Gx rfl ay) ak V.h k|exact rH (rq rfl rfl rfl V.h V.h (pP rfl rfl) rfl) ak ⟨V.h,rfl,ET,(by decide),HR,EV,(by rw[b3];first|omega|(simp;omega)),HS⟩ k|exact rH (rq rfl (ag oG ay) rfl V.h V.h (pP (up_same _ _ _) rfl) rfl) ak ⟨V.h,rfl,ET,(by decide),HR,EV,(by rw[b3];first|omega|(simp;omega)),HS⟩ k|exact rH (rq rfl (ag oG cQ) rfl V.h V.h (pP (up_same _ _ _) rfl) rfl) ak ⟨V.h,rfl,ET,(by decide),HR,EV,(by rw[b3];first|omega|(simp;omega)),HS⟩ k|exact fP (Kd rfl rfl V.h V.h (pP (up_same _ _ _) rfl)) ak ⟨V.h,ET,(by decide),EV,(by rw[b3];first|omega|(simp;omega))⟩ k|fail):SO P Y ops dr x v m n s e:=h
theorem agM(ht:oT x=52:=by exact rfl)(h:SO P Y ops dr x v m n s e:=by intro _ _ _ _ k;first|exact aF (SP rfl rfl oG) ak rfl k|fail):SO P Y ops dr x v m n s e:=h
theorem agN(ht:oT x=20:=by exact rfl)(h:SO P Y ops dr x v m n s e:=by intro _ _ _ _ k;first|exact cJ (gq (cs':=a9 _) rfl rfl (up_same _ _ _) rfl) ak (dQ V.h V.h pI (by rfl)) k|exact cJ (iA (d:=.s (.bool _)) (cs':=_) rfl rfl rfl rfl rfl) ak (dQ V.h V.h pI rfl) k|exact cJ (iA (d:=.s (.string _)) (cs':=_) rfl rfl rfl rfl rfl) ak (dQ V.h V.h pI rfl) k|exact cJ (gq rfl rfl rfl (JR gP gP)) ak (CJ gP gP EU) k|exact cJ (gq (cs':=c9 _) rfl rfl (up_same _ _ _) rfl) ak (dQ V.h V.h pI (by rfl)) k|exact cJ (gq rfl rfl (up_same _ _ _) (JR gP gP)) ak (CJ gP gP EU) k|exact cJ (gq rfl rfl rfl (CW gP gP)) ak (y3 gP gP EU) k|exact cJ (gq rfl rfl ay (CW gP gP)) ak (y3 gP gP EU) k|exact cJ (gq (cs':=mf _) rfl rfl (up_same _ _ _) rfl) ak (dQ V.h V.h pI (by rfl)) k|exact cJ (iA (d:=.s (.int _ _)) (cs':=_) rfl rfl rfl rfl rfl) ak (dQ V.h V.h pI rfl) k|exact cJ (iA (d:=.s (.int _ _)) (cs':=_) rfl rfl (up_same _ _ _) rfl rfl) ak (dQ V.h V.h pI rfl) k|exact cJ (gq (cs':=bd _) rfl rfl rfl rfl) ak (dQ V.h V.h pI (by rfl)) k|exact cJ (gq rfl rfl rfl rfl) ak (dQ V.h V.h pI (by rfl)) k|exact cJ (gq rfl rfl (up_same _ _ _) rfl) ak (dQ V.h V.h pI (by rfl)) k|exact cJ (gq rfl rfl (ag oG rfl) (JR gP gP)) ak (CJ gP gP EU) k|exact cJ (gq rfl rfl rfl (GR (by decide) (by assumption) (by assumption) (by first|assumption|(simp;omega)|(simp;done)|fail))) ak (CJ (by first|(simp;omega)|(simp;done)|fail) (rB (by assumption) (by assumption)) (jv _)) k|exact cJ (iA (d:=.rs _ _ _) (cs':=_) rfl rfl rfl rfl rfl) ak (dQ V.h V.h pI rfl) k|exact cJ (iA (d:=.rs _ _ _) (cs':=_) rfl rfl (ag oG (ag oG ay)) rfl rfl) ak (dQ V.h V.h pI rfl) k|exact cJ (iA (d:=.rs _ _ _) (cs':=_) rfl rfl (ag oG (ag oG (ag oG ay))) rfl rfl) ak (dQ V.h V.h pI rfl) k|exact cJ (iA (d:=.z) (cs':=_) rfl rfl rfl rfl rfl) ak (dQ V.h V.h pI rfl) k|fail):SO P Y ops dr x v m n s e:=h
theorem agO(ht:oT x=78:=by exact rfl)(h:SO P Y ops dr x v m n s e:=by intro _ _ _ _ k;first|exact aF (RU rfl rfl nB) ak rfl k|exact aF (Kz rfl rfl) ak rfl k|fail):SO P Y ops dr x v m n s e:=h
theorem agP(ht:oT x=10:=by exact rfl)(h:SO P Y ops dr x v m n s e:=by intro _ _ _ _ k;first|exact fP (ud (cs:=aD _) rfl) ak (by first|rfl|exact vq fC fp|exact jv _|exact vK dB) k|exact fP (ud rfl) ak (by first|rfl|exact vq fC fp|exact jv _|exact vK dB) k|exact fP (ud (cs:=bd _) rfl) ak (by first|rfl|exact vq fC fp|exact jv _|exact vK dB) k|exact fP (ud (cs:=a9 _) rfl) ak (by first|rfl|exact vq fC fp|exact jv _|exact vK dB) k|exact fP (ud (cs:=br _ _ _) rfl) ak (by first|rfl|exact vq fC fp|exact jv _|exact vK dB) k|exact fP (ud (cs:=bZ _ _) rfl) ak (by first|rfl|exact vq fC fp|exact jv _|exact vK dB) k|exact fP (Bb (d:=.s (.int _ _)) rfl rfl) ak rfl k|fail):SO P Y ops dr x v m n s e:=h
theorem agQ(ht:oT x=41:=by exact rfl)(h:SO P Y ops dr x v m n s e:=by intro _ _ _ _ k;first|exact bE rfl rfl (RL rfl rfl V.h V.h (by assumption)) (fun hc=>⟨ak,(RM V.h (by assumption))⟩) k|exact bE rfl rfl (xg rfl rfl V.h V.h (FQ) (by assumption)) (fun hc=>⟨ak,(xh V.h (FQ) (by assumption))⟩) k|exact bE rfl rfl (xg rfl rfl V.h V.h (FP) (by assumption)) (fun hc=>⟨ak,(xh V.h (FP) (by assumption))⟩) k|exact bE rfl rfl (kV rfl rfl cQ V.h V.h) (fun hc=>⟨ak,⟨V.h,by omega⟩⟩) k|exact bE rfl rfl (kV rfl rfl gy V.h V.h) (fun hc=>⟨ak,⟨V.h,by omega⟩⟩) k|fail):SO P Y ops dr x v m n s e:=h
theorem agR(ht:oT x=75:=by exact rfl)(h:SO P Y ops dr x v m n s e:=by intro _ _ _ _ k;first|exact bE rfl rfl (Ki rfl rfl cM) (fun hc=>⟨ak,rfl⟩) k|exact bE rfl rfl (Ki rfl rfl xC) (fun hc=>⟨ak,rfl⟩) k|exact bE rfl rfl (KD rfl rfl) (fun hc=>⟨ak,rfl⟩) k|exact bE rfl rfl (Kb rfl rfl) (fun hc=>⟨ak,trivial⟩) k|fail):SO P Y ops dr x v m n s e:=h
theorem agS(ht:oT x=51:=by exact rfl)(h:SO P Y ops dr x v m n s e:=by intro _ _ _ _ k;first|exact bE rfl rfl (SU rfl) (fun hc=>⟨ak,V.h⟩) k|exact bE rfl rfl (acp rfl) (fun hc=>⟨ak,V.h⟩) k|fail):SO P Y ops dr x v m n s e:=h
theorem SS8(ht:oT x=8:=by exact rfl)(h:SO P Y ops dr x v m n s e:=by intro _ _ _ _ k;first|exact fP (abl V.h) ak V.h k|fail):SO P Y ops dr x v m n s e:=h
theorem agT(ht:oT x=24:=by exact rfl)(h:SO P Y ops dr x v m n s e:=by intro _ _ _ _ k;first|exact aF (SQ rfl) ak trivial k|fail):SO P Y ops dr x v m n s e:=h
theorem agU(ht:oT x=25:=by exact rfl)(h:SO P Y ops dr x v m n s e:=by intro _ _ _ _ k;first|exact bE rfl rfl (SQ rfl) (fun hc=>⟨ak,trivial⟩) k|fail):SO P Y ops dr x v m n s e:=h
theorem agV(ht:oT x=83:=by exact rfl)(h:SO P Y ops dr x v m n s e:=by intro _ _ _ _ k;first|exact bE rfl rfl (RV rfl rfl ja) (fun hc=>⟨ak,rfl⟩) k|exact bE rfl rfl (KB rfl rfl) (fun hc=>⟨ak,rfl⟩) k|fail):SO P Y ops dr x v m n s e:=h
theorem SS7(ht:oT x=7:=by exact rfl)(h:SO P Y ops dr x v m n s e:=by intro _ _ _ _ k;first|exact YS rfl rfl rfl rfl (by first|exact fun _=>trivial|exact fun _=>rfl|exact fun hc=>hc) (by first|exact fun _=>trivial|exact fun _=>rfl|exact fun hc=>hc) k|exact YT rfl rfl rfl rfl (by first|exact fun _=>trivial|exact fun _=>rfl|exact fun hc=>hc) (by first|exact fun _=>trivial|exact fun _=>rfl|exact fun hc=>hc) k|exact aah rfl rfl rfl rfl rfl (by first|exact fun _=>trivial|exact fun _=>rfl|exact fun hc=>hc) (fun hc h=>by first|exact trivial|exact rfl|exact hc|(show Eq _ _;rw[hc,h];rfl)|(show Eq _ _;rw[h,hc];rfl)|(show Eq _ _;simp[hc,h];done)|(show Eq _ _;simp_all;done)|fail) (fun hc h=>by first|exact trivial|exact rfl|exact hc|(show Eq _ _;rw[hc,h];rfl)|(show Eq _ _;rw[h,hc];rfl)|(show Eq _ _;simp[hc,h];done)|(show Eq _ _;simp_all;done)|fail) k|fail):SO P Y ops dr x v m n s e:=h
theorem agW(ht:oT x=14:=by exact rfl)(h:SO P Y ops dr x v m n s e:=by intro _ _ _ _ k;first|exact fP (CA (cs:=[_]) V.h V.h V.h rfl rfl) ak ⟨rfl,by decide,V.h,by decide⟩ k|exact fP (CA (cs:=[_,_]) V.h V.h V.h rfl rfl) ak ⟨rfl,by decide,V.h,by decide⟩ k|exact fP (CA (cs:=[]) V.h V.h V.h rfl rfl) ak ⟨rfl,by decide,V.h,by decide⟩ k|fail):SO P Y ops dr x v m n s e:=h
theorem agX(ht:oT x=48:=by exact rfl)(h:SO P Y ops dr x v m n s e:=by intro _ _ _ _ k;first|exact aF (sm (v:=.s (.int _ _)) rfl rfl) ak HT k|exact aF (sm (v:=.s (.bool _)) rfl rfl) ak HT k|exact aF (sm (v:=.sl _ _) rfl rfl) ak HT k|exact aF (sm (v:=.agg _) rfl rfl) ak HT k|fail):SO P Y ops dr x v m n s e:=h
theorem agY(ht:oT x=76:=by exact rfl)(h:SO P Y ops dr x v m n s e:=by intro _ _ _ _ k;first|exact aF (RW rfl rfl fQ) ak rfl k|exact aF (KE rfl rfl) ak rfl k|fail):SO P Y ops dr x v m n s e:=h
theorem agZ(ht:oT x=12:=by exact rfl)(h:SO P Y ops dr x v m n s e:=by intro _ _ _ _ k;first|exact aF (Ja V.h V.h V.h rfl rfl) ak ⟨V.h,V.h⟩ k|fail):SO P Y ops dr x v m n s e:=h
theorem ag0(ht:oT x=77:=by exact rfl)(h:SO P Y ops dr x v m n s e:=by intro _ _ _ _ k;first|exact bE rfl rfl (RW rfl rfl fQ) (fun hc=>⟨ak,rfl⟩) k|exact bE rfl rfl (KE rfl rfl) (fun hc=>⟨ak,rfl⟩) k|exact bE rfl rfl (RE rfl rfl) (fun hc=>⟨ak,V.h⟩) k|fail):SO P Y ops dr x v m n s e:=h
theorem ag1(ht:oT x=54:=by exact rfl)(h:SO P Y ops dr x v m n s e:=by intro _ _ _ _ k;first|exact aF (RX rfl rfl pw) ak rfl k|exact aF (KF rfl rfl oG) ak rfl k|fail):SO P Y ops dr x v m n s e:=h
theorem ag2(ht:oT x=16:=by exact rfl)(h:SO P Y ops dr x v m n s e:=by intro _ _ _ _ k;first|exact cJ (aaj rfl rfl rfl rfl V.h) ak ⟨V.h,by kernel_rfl,by kernel_rfl⟩ k|fail):SO P Y ops dr x v m n s e:=h
theorem ag3(ht:oT x=22:=by exact rfl)(h:SO P Y ops dr x v m n s e:=by intro _ _ _ _ k;first|exact aF (RG rfl) ak trivial k|exact aF (RH rfl ay) ak trivial k|exact aF (RH rfl cQ) ak trivial k|fail):SO P Y ops dr x v m n s e:=h
theorem ag4(ht:oT x=84:=by exact rfl)(h:SO P Y ops dr x v m n s e:=by intro _ _ _ _ k;first|exact aF (RY rfl rfl uD) ak rfl k|exact aF (KC rfl rfl) ak rfl k|fail):SO P Y ops dr x v m n s e:=h
theorem ag5(ht:oT x=32:=by exact rfl)(h:SO P Y ops dr x v m n s e:=by intro _ _ _ _ k;first|exact fP (AS rfl rfl V.h V.h) ak ⟨by omega,rfl,by omega,by rw[b4];omega,V.h⟩ k|exact fP (AS rfl rfl V.h V.h) ak ⟨by omega,rfl,by omega,by rw[MH];omega,V.h⟩ k|fail):SO P Y ops dr x v m n s e:=h
theorem ag6(ht:oT x=82:=by exact rfl)(h:SO P Y ops dr x v m n s e:=by intro _ _ _ _ k;first|exact aF (RV rfl rfl ja) ak rfl k|exact aF (KB rfl rfl) ak rfl k|fail):SO P Y ops dr x v m n s e:=h
theorem ag7(ht:oT x=79:=by exact rfl)(h:SO P Y ops dr x v m n s e:=by intro _ _ _ _ k;first|exact bE rfl rfl (RU rfl rfl nB) (fun hc=>⟨ak,rfl⟩) k|exact bE rfl rfl (Kz rfl rfl) (fun hc=>⟨ak,rfl⟩) k|fail):SO P Y ops dr x v m n s e:=h
theorem ag8(ht:oT x=55:=by exact rfl)(h:SO P Y ops dr x v m n s e:=by intro _ _ _ _ k;first|exact bE rfl rfl (RX rfl rfl pw) (fun hc=>⟨ak,rfl⟩) k|exact bE rfl rfl (KF rfl rfl oG) (fun hc=>⟨ak,rfl⟩) k|fail):SO P Y ops dr x v m n s e:=h
theorem ag9(ht:oT x=81:=by exact rfl)(h:SO P Y ops dr x v m n s e:=by intro _ _ _ _ k;first|exact bE rfl rfl (acA rfl rfl UN) (fun hc=>⟨ak,rfl⟩) k|exact bE rfl rfl (KA rfl rfl) (fun hc=>⟨ak,rfl⟩) k|fail):SO P Y ops dr x v m n s e:=h
theorem ag'(ht:oT x=28:=by exact rfl)(h:SO P Y ops dr x v m n s e:=by intro _ _ _ _ k;first|exact aF (RJ rfl rfl) ak trivial k|fail):SO P Y ops dr x v m n s e:=h
theorem aha(ht:oT x=85:=by exact rfl)(h:SO P Y ops dr x v m n s e:=by intro _ _ _ _ k;first|exact bE rfl rfl (RY rfl rfl uD) (fun hc=>⟨ak,rfl⟩) k|exact bE rfl rfl (KC rfl rfl) (fun hc=>⟨ak,rfl⟩) k|fail):SO P Y ops dr x v m n s e:=h
theorem ahb(ht:oT x=23:=by exact rfl)(h:SO P Y ops dr x v m n s e:=by intro _ _ _ _ k;first|exact bE rfl rfl (RG rfl) (fun hc=>⟨ak,trivial⟩) k|fail):SO P Y ops dr x v m n s e:=h
theorem ahc(ht:oT x=58:=by exact rfl)(h:SO P Y ops dr x v m n s e:=by intro _ _ _ _ k;first|exact aF (acB rfl rfl Ej) ak ⟨rfl,by omega⟩ k|fail):SO P Y ops dr x v m n s e:=h
theorem ahe(ht:oT x=60:=by exact rfl)(h:SO P Y ops dr x v m n s e:=by intro _ _ _ _ k;first|exact aF (acC rfl rfl Ek) ak ⟨rfl,by omega⟩ k|fail):SO P Y ops dr x v m n s e:=h
theorem ahf(ht:oT x=53:=by exact rfl)(h:SO P Y ops dr x v m n s e:=by intro _ _ _ _ k;first|exact bE rfl rfl (SP rfl rfl oG) (fun hc=>⟨ak,rfl⟩) k|fail):SO P Y ops dr x v m n s e:=h
theorem ahg(ht:oT x=30:=by exact rfl)(h:SO P Y ops dr x v m n s e:=by intro _ _ _ _ k;first|exact fP adh ak trivial k|fail):SO P Y ops dr x v m n s e:=h
theorem ahh(ht:oT x=42:=by exact rfl)(h:SO P Y ops dr x v m n s e:=by intro _ _ _ _ k;first|exact aF (RI rfl rfl) ak ⟨V.h,by omega,by omega⟩ k|fail):SO P Y ops dr x v m n s e:=h
theorem ahi(ht:oT x=43:=by exact rfl)(h:SO P Y ops dr x v m n s e:=by intro _ _ _ _ k;first|exact bE rfl rfl (RI rfl rfl) (fun hc=>⟨ak,⟨V.h,by omega,by omega⟩⟩) k|fail):SO P Y ops dr x v m n s e:=h
theorem ahj(ht:oT x=15:=by exact rfl)(h:SO P Y ops dr x v m n s e:=by intro _ _ _ _ k;first|exact acz rfl rfl (CA (cs:=[_]) V.h V.h V.h rfl rfl) ak ⟨rfl,by decide,V.h,by decide⟩ k|fail):SO P Y ops dr x v m n s e:=h
theorem ahk(ht:oT x=62:=by exact rfl)(h:SO P Y ops dr x v m n s e:=by intro _ _ _ _ k;first|exact aF (adf rfl rfl) ak rfl k|fail):SO P Y ops dr x v m n s e:=h
theorem ahl(ht:oT x=68:=by exact rfl)(h:SO P Y ops dr x v m n s e:=by intro _ _ _ _ k;first|exact aF (adg rfl rfl) ak oG k|fail):SO P Y ops dr x v m n s e:=h
theorem ahm(ht:oT x=64:=by exact rfl)(h:SO P Y ops dr x v m n s e:=by intro _ _ _ _ k;first|exact aF (agA rfl rfl) ak rfl k|fail):SO P Y ops dr x v m n s e:=h
theorem SS(K:AOps P Y ops dr cf Q r s (q++[e]))(h:SO P Y ops dr x v m n s e:=by first|exact SS2|exact SS4|exact agF|exact agG|exact SS6|exact agH|exact SS3|exact agI|exact agJ|exact agK|exact agL|exact agM|exact agN|exact agO|exact agP|exact agQ|exact agR|exact agS|exact SS8|exact agT|exact agU|exact agV|exact SS7|exact agW|exact agX|exact agY|exact agZ|exact ag0|exact ag1|exact ag2|exact ag3|exact ag4|exact ag5|exact ag6|exact ag7|exact ag8|exact ag9|exact ag'|exact aha|exact ahb|exact ahc|exact ahe|exact ahf|exact ahg|exact ahh|exact ahi|exact ahj|exact ahk|exact ahl|exact ahm):AOps P Y ops dr cf Q (x::r) ⟨v,m,n⟩ q:=h _ _ _ _ K
variable{x2 x3 x4 x5 x6 x7 x8 x9:Oper}{e2 e3 e4 e5 e6 e7 e8 e9:List Nat×List Nat}
theorem af(K:AOps P Y ops dr cf Q r s (q++[e]++[e2]))(h:∀ cf Q r q,AOps P Y ops dr cf Q r s (q++[e]++[e2])->AOps P Y ops dr cf Q (x::x2::r) ⟨v,m,n⟩ q:=by intro _ _ _ _ k;(iterate 2 refine SS ?_);exact k):AOps P Y ops dr cf Q (x::x2::r) ⟨v,m,n⟩ q:=h _ _ _ _ K
theorem au(K:AOps P Y ops dr cf Q r s (q++[e]++[e2]++[e3]))(h:∀ cf Q r q,AOps P Y ops dr cf Q r s (q++[e]++[e2]++[e3])->AOps P Y ops dr cf Q (x::x2::x3::r) ⟨v,m,n⟩ q:=by intro _ _ _ _ k;(iterate 3 refine SS ?_);exact k):AOps P Y ops dr cf Q (x::x2::x3::r) ⟨v,m,n⟩ q:=h _ _ _ _ K
theorem aJ(K:AOps P Y ops dr cf Q r s (q++[e]++[e2]++[e3]++[e4]))(h:∀ cf Q r q,AOps P Y ops dr cf Q r s (q++[e]++[e2]++[e3]++[e4])->AOps P Y ops dr cf Q (x::x2::x3::x4::r) ⟨v,m,n⟩ q:=by intro _ _ _ _ k;(iterate 4 refine SS ?_);exact k):AOps P Y ops dr cf Q (x::x2::x3::x4::r) ⟨v,m,n⟩ q:=h _ _ _ _ K
theorem aV(K:AOps P Y ops dr cf Q r s (q++[e]++[e2]++[e3]++[e4]++[e5]))(h:∀ cf Q r q,AOps P Y ops dr cf Q r s (q++[e]++[e2]++[e3]++[e4]++[e5])->AOps P Y ops dr cf Q (x::x2::x3::x4::x5::r) ⟨v,m,n⟩ q:=by intro _ _ _ _ k;(iterate 5 refine SS ?_);exact k):AOps P Y ops dr cf Q (x::x2::x3::x4::x5::r) ⟨v,m,n⟩ q:=h _ _ _ _ K
theorem bK(K:AOps P Y ops dr cf Q r s (q++[e]++[e2]++[e3]++[e4]++[e5]++[e6]))(h:∀ cf Q r q,AOps P Y ops dr cf Q r s (q++[e]++[e2]++[e3]++[e4]++[e5]++[e6])->AOps P Y ops dr cf Q (x::x2::x3::x4::x5::x6::r) ⟨v,m,n⟩ q:=by intro _ _ _ _ k;(iterate 6 refine SS ?_);exact k):AOps P Y ops dr cf Q (x::x2::x3::x4::x5::x6::r) ⟨v,m,n⟩ q:=h _ _ _ _ K
theorem dk(K:AOps P Y ops dr cf Q r s (q++[e]++[e2]++[e3]++[e4]++[e5]++[e6]++[e7]))(h:∀ cf Q r q,AOps P Y ops dr cf Q r s (q++[e]++[e2]++[e3]++[e4]++[e5]++[e6]++[e7])->AOps P Y ops dr cf Q (x::x2::x3::x4::x5::x6::x7::r) ⟨v,m,n⟩ q:=by intro _ _ _ _ k;(iterate 7 refine SS ?_);exact k):AOps P Y ops dr cf Q (x::x2::x3::x4::x5::x6::x7::r) ⟨v,m,n⟩ q:=h _ _ _ _ K
theorem bI(K:AOps P Y ops dr cf Q r s (q++[e]++[e2]++[e3]++[e4]++[e5]++[e6]++[e7]++[e8]))(h:∀ cf Q r q,AOps P Y ops dr cf Q r s (q++[e]++[e2]++[e3]++[e4]++[e5]++[e6]++[e7]++[e8])->AOps P Y ops dr cf Q (x::x2::x3::x4::x5::x6::x7::x8::r) ⟨v,m,n⟩ q:=by intro _ _ _ _ k;(iterate 8 refine SS ?_);exact k):AOps P Y ops dr cf Q (x::x2::x3::x4::x5::x6::x7::x8::r) ⟨v,m,n⟩ q:=h _ _ _ _ K
theorem aE(K:AOps P Y ops dr cf Q r s (q++[e]++[e2]++[e3]++[e4]++[e5]++[e6]++[e7]++[e8]++[e9]))(h:∀ cf Q r q,AOps P Y ops dr cf Q r s (q++[e]++[e2]++[e3]++[e4]++[e5]++[e6]++[e7]++[e8]++[e9])->AOps P Y ops dr cf Q (x::x2::x3::x4::x5::x6::x7::x8::x9::r) ⟨v,m,n⟩ q:=by intro _ _ _ _ k;(iterate 9 refine SS ?_);exact k):AOps P Y ops dr cf Q (x::x2::x3::x4::x5::x6::x7::x8::x9::r) ⟨v,m,n⟩ q:=h _ _ _ _ K
end
end Go.Abs
namespace Go.Abs
open Go.ChangeShapes Go.WideShapes
inductive Bg:List Sh->List D->Prop
 |nil:Bg [] []
 |cons {s:Sh} {l:List Sh} {ds:List D} (x:s.val) (hx:s.ok x) (h:Bg l ds):Bg (s::l) (s.arg x::ds)
def xZ(P:Program)(n:Nat):List TypeId->Option (List Sh)
 |[]=>some []
 |t::ts=>match shT P n t,xZ P n ts with
  |some s,some l=>some (s::l)
  |_,_=>none
theorem ZX{P:Program}{n:Nat}{t:TypeId}{ts:List TypeId}{l:List Sh}(h:xZ P n (t::ts)=some l):∃ s C,shT P n t=some s/\xZ P n ts=some C/\l=s::C:=by
 simp only[xZ] at h;split at h
 .rename_i s C h1 h2;simp only[aQ] at h;exact⟨s,C,h1,h2,h.symm⟩
 .cases h
section
variable{P:Program}{H:Type}{ec:TypeId×Value->H}{w w':World}{base b0:Nat}{r:Reach}
theorem SK{n:Nat}:∀ {ts:List TypeId} {C:List Sh} {vs:List Value} {ds:List (DataW H)} {ps:List MemPlace},xZ P n ts=some C->
 (∀ (j:Nat) t v,ts[j]? =some t->vs[j]? =some v->Value.okWide P w r b0 t v)->DataW.TrodAll ec P w base (fun _=>true) true ts vs ds ps->
 ∃ aS,Bg C aS/\aS.length=vs.length/\∀ (k:Nat) (d:D) (v:Value),aS[k]? =some d->vs[k]? =some v->R (fun _=>False) noRows w d v
 |[],C,[],[],_,hs,_,_=>by
  simp only[xZ,aQ] at hs;subst hs;exact⟨[],.nil,rfl,oS⟩
 |t::ts,C,v::vs,d::ds,ps,hs,aY,h=>by
  obtain⟨p,q,h1,h2,_⟩:=h;obtain⟨s,l',J,U,rfl⟩:=ZX hs;obtain⟨x,X,hx⟩:=arg_R J (aY 0 t v rfl rfl) h1;obtain⟨aS,a1,a2,a3⟩:=SK U (fun j t v hj hv=>aY (j+1) t v (by simpa using hj) (by simpa using hv)) h2;refine⟨s.arg x::aS,.cons x X a1,by simp[a2],fun k d v hd hv=>?_⟩;cases k with
  |zero=>
   simp only[List.getElem?_cons_zero,aQ] at hd hv;subst hd hv;exact hx
  |succ k=>exact a3 k d v (by simpa using hd) (by simpa using hv)
 |[],_,_::_,_,_,_,_,h=>by simp[DataW.TrodAll] at h
 |[],_,[],_::_,_,_,_,h=>by simp[DataW.TrodAll] at h
 |_::_,_,[],_,_,_,_,h=>by simp[DataW.TrodAll] at h
 |_::_,_,_::_,[],_,_,_,h=>by simp[DataW.TrodAll] at h
theorem Kept.same(h:Kept w w'){p:MemPlace}(hp:p.block<w.heap.size):w.sameAt w' p:=by
 cases p with
 |cell b o=>exact Go.World.cell?_of_block (w:=w) (h.2.1 b hp)
 |map b=>exact h.2.1 b hp
theorem Kept.frame(h:Kept w w')(C:MemPlace->Prop):w.keptBut w' C:=by
 refine⟨h.2.2.1,h.2.2.2,fun i hi=>?_⟩;rw[h.2.1 i hi];split<;>simp_all
theorem NB(hl:laidOutB P=true)(h:Kept w w'):∀ {ts:List TypeId} {vs:List Value} {ds:List (DataW H)} {ps:List MemPlace},(ts.all fun t=>P.readableRec t&&decide (t<P.types.size))=true->
 DataW.TrodAll ec P w 0 (fun _=>true) true ts vs ds ps->DataW.TrodAll ec P w' 0 (fun b=>decide (b<w.heap.size)) true ts vs ds ps
 |[],[],[],_,_,h0=>h0
 |t::ts,v::vs,d::ds,ps,ht,h0=>by
  obtain⟨p,q,h1,h2,rfl⟩:=h0;simp only[List.all_cons,aO,decide_eq_true_eq] at ht;have ap:∀ x∈p,x.block<w.heap.size:=by obtain⟨m,hm⟩:=h1;exact DataW.trod_lt m _ _ _ hm
  exact⟨p,q,WideElems.Trod_stays hl ht.1.1 ht.1.2 h1 (fun x hx=>h.same (ap x hx)) (fun x hx=>by simpa using ap x hx),NB hl h (by simpa using ht.2) h2,rfl⟩
 |[],_::_,_,_,_,h0=>by simp[DataW.TrodAll] at h0
 |[],[],_::_,_,_,h0=>by simp[DataW.TrodAll] at h0
 |_::_,[],_,_,_,h0=>by simp[DataW.TrodAll] at h0
 |_::_,_::_,[],_,_,h0=>by simp[DataW.TrodAll] at h0
theorem NS:∀ {ts:List TypeId} {vs:List Value} {ds:List (DataW H)} {ps:List MemPlace},DataW.TrodAll ec P w 0 (fun _=>true) true ts vs ds ps->ds.length=ts.length
 |[],[],[],_,_=>rfl
 |t::ts,v::vs,d::ds,ps,h0=>by
  obtain⟨p,q,h1,h2,rfl⟩:=h0;simp[NS h2]
 |[],_::_,_,_,h0=>by simp[DataW.TrodAll] at h0
 |[],[],_::_,_,h0=>by simp[DataW.TrodAll] at h0
 |_::_,[],_,_,h0=>by simp[DataW.TrodAll] at h0
 |_::_,_::_,[],_,h0=>by simp[DataW.TrodAll] at h0
end
theorem XE{C:Checked}{f:FuncId}{fn:Func}{s:ChangeSpec}{H:Type}{ec:TypeId×Value->H}{n:Nat}{AF:List Sh}{tb:TypeId}
 (UB:s.vars=[]) (hs:∀ ds:List (DataW H),ds.length=fn.params.size->s.fn H ds={ results:=[.lit (.bool true)],args:=ds })
 (J:laidOutB C.prog=true) (U:(fn.params.toList.all fun t=>C.prog.readableRec t&&decide (t<C.prog.types.size))=true) (nA:fn.resultTypes= #[tb]) (hb:C.prog.underlying tb=some .bool)
 (hsh:xZ C.prog n fn.params.toList=some AF) (h:∀ aS,Bg AF aS->PCall C.prog f aS (.s (.bool true)))
 (W:World) (base:Nat) (args:Array Value) (ds gs:List (DataW H)) (before:List MemPlace)
 (EE:∀ (j:Nat) t v,fn.params[j]? =some t->args[j]? =some v->Value.okWide C.prog W .any base t v)
 (hW:DataW.Whole ec C.prog fn.params.toList s.vars false W args.toList ds gs before):
 Calls C.prog f args W fun e W'=>∃ v,e=.returned v/\s.post ec C.prog fn false true false false W args v W':=by
 have hW':=hW;obtain⟨p,q,X,hV,rfl,hfz,dZ⟩:=hW;rw[UB] at hV
 have hg:gs=[]/\q=[]:=by
  cases gs with
  |nil=>exact⟨rfl,hV⟩
  |cons g gs=>exact hV.elim
 obtain⟨rfl,rfl⟩:=hg;obtain⟨aS,a1,a2,a3⟩:=SK hsh (fun j t v hj hv=>EE j t v (by simpa using hj) (by simpa using hv)) X;refine((h aS a1).2.2 (fun _=>False) W args (fun _ hf=>hf.elim) ⟨by simpa using a2.symm,fun k d v hd hv=>a3 k d v hd (by simpa using hv)⟩).mono ?_;rintro e W' ⟨v,rfl,hv,hk⟩;obtain⟨rfl,_⟩:=hv.s_inv;have hlen:ds.length=fn.params.size:=by simpa using NS X
 refine⟨_,rfl,ds,[],_,[],p,[],hW',?_,?_,?_,hk.frame _,fun h=>by cases h⟩
 .rw[List.append_nil,hs ds hlen,nA];exact⟨[],[],⟨1,by simp[DataW.trod,Value.cells,hb]⟩,rfl,rfl⟩
 .rw[List.append_nil,hs ds hlen];exact NB J hk U X
 .rw[List.append_nil,hs ds hlen,UB];rfl
end Go.Abs
section
open Go Go.Abs Go.Proofs Go.Argus
namespace Go.Proofs.Tryz.K
set_option maxRecDepth 10000
theorem Lq{l:List Int}{g:FuncId}{fs cs:List D}{p:Int->Bool}(ht:Tr (.fn (.func g) fs cs))(hg:∀ x∈l,PCall prog g (fs++[U8 x]++cs) (B (p x))):PCall prog 252 [kQ l,.fn (.func g) fs cs] (I (jO p l)):=by
 refine m8 KN.he (.cons (qV _) (.cons ht .nil)) fun C=>?_;have hlen:=(C (kQ l) oS).sl.1;unfold maxLen at hlen;refine bc KN (.cons (qV _) (.cons ht .nil)) (Tr.s _) ?_;rw[adw];refine ws ?_;refine SS ?_;refine ab (aC (aw ?_));refine au ?_
 refine ab (bV (fun s=>Ghost prog s ⟨az [],fun _=>none,0⟩/\∀ (j:Nat) y,l[j]? =some y->p y=false) (dM (α:=Nat) (fun k=>⟨az [(0,kQ l),(1,.fn (.func g) fs cs),(7,I l.length),(8,I k)],fun _=>none,0⟩)
  (fun k=>k<=l.length/\∀ j y,j<k->l[j]? =some y->p y=false) (fun k=>l.length - k) 0 (aq eH) ⟨oG,fun j y hj=>by omega⟩ ?_) ?_)
 .rintro k ⟨hk,hinv⟩;refine SS ?_;refine ab ⟨_,rfl,fun h=>?_,fun h=>?_⟩
  .have ap:k<l.length:=by simpa using h
   have hx:l[k]? =some l[k]:=by simp[ap]
   generalize l[k]=x at hx;have U:=hg x (cx hx);refine ws ?_;refine af ?_;refine er ?_;refine aV ?_;refine cl U ?_;refine ab (av rfl (fun hp=>?_) fun hp=>?_)
   .refine ws ?_;refine af ?_;refine ab (aT (bR (aL (ax rfl ?_))));rw[AM hx hp hinv];rfl
   .refine ct ?_;refine af ?_;refine ab (aK (k+1) (aq eH) ⟨oG,fun j y hj hy=>?_⟩ oG);by_cases e:j=k
    .subst e;rw[hx] at hy;cases hy;exact hp
    .exact hinv j y oG hy
  .have X:¬ k<l.length:=by simpa using h
   exact⟨.forget _ _ _ _ fun _=>.inr rfl,fun j y hy=>hinv j y (by have:=(bL.1 hy).1;omega) hy⟩
 .rintro s ⟨hg,J⟩;refine⟨_,hg,ao ?_⟩;refine SS ?_;refine ab (ax rfl ?_);rw[AN J];rfl
theorem vW{l:List Int}{g:FuncId}{fs cs:List D}{p:Int->Bool}(ht:Tr (.fn (.func g) fs cs))(hg:∀ x∈l,PCall prog g (fs++[U8 x]++cs) (B (p x))):PCall prog 228 [kQ l,.fn (.func g) fs cs] (B (l.any p)):=by
 have Lq:=Lq ht hg;refine bc S5 (.cons (qV _) (.cons ht .nil)) (Tr.s _) ?_;rw[adx];refine ws ?_;refine SS ?_;refine er ?_;refine af ?_;refine cl Lq ?_;refine af ?_;refine ab (ax rfl ?_);rw[<- AV];rfl
theorem Lr{l:List ByteArray}{g:FuncId}{fs cs:List D}{p:ByteArray->Bool}(ht:Tr (.fn (.func g) fs cs))(hg:∀ x∈l,PCall prog g (fs++[S x]++cs) (B (p x))):PCall prog 231 [q0 l,.fn (.func g) fs cs] (I (jO p l)):=by
 refine m8 KO.he (.cons (y8 _) (.cons ht .nil)) fun C=>?_;have hlen:=(C (q0 l) oS).sl.1;unfold maxLen at hlen;refine bc KO (.cons (y8 _) (.cons ht .nil)) (Tr.s _) ?_;rw[ady];refine ws ?_;refine SS ?_;refine ab (aC (aw ?_));refine au ?_
 refine ab (bV (fun s=>Ghost prog s ⟨az [],fun _=>none,0⟩/\∀ (j:Nat) y,l[j]? =some y->p y=false) (dM (α:=Nat) (fun k=>⟨az [(0,q0 l),(1,.fn (.func g) fs cs),(7,I l.length),(8,I k)],fun _=>none,0⟩)
  (fun k=>k<=l.length/\∀ j y,j<k->l[j]? =some y->p y=false) (fun k=>l.length - k) 0 (aq eH) ⟨oG,fun j y hj=>by omega⟩ ?_) ?_)
 .rintro k ⟨hk,hinv⟩;refine SS ?_;refine ab ⟨_,rfl,fun h=>?_,fun h=>?_⟩
  .have ap:k<l.length:=by simpa using h
   have hx:l[k]? =some l[k]:=by simp[ap]
   generalize l[k]=x at hx;have U:=hg x (cx hx);refine ws ?_;refine af ?_;refine er ?_;refine aV ?_;refine cl U ?_;refine ab (av rfl (fun hp=>?_) fun hp=>?_)
   .refine ws ?_;refine af ?_;refine ab (aT (bR (aL (ax rfl ?_))));rw[AM hx hp hinv];rfl
   .refine ct ?_;refine af ?_;refine ab (aK (k+1) (aq eH) ⟨oG,fun j y hj hy=>?_⟩ oG);by_cases e:j=k
    .subst e;rw[hx] at hy;cases hy;exact hp
    .exact hinv j y oG hy
  .have X:¬ k<l.length:=by simpa using h
   exact⟨.forget _ _ _ _ fun _=>.inr rfl,fun j y hy=>hinv j y (by have:=(bL.1 hy).1;omega) hy⟩
 .rintro s ⟨hg,J⟩;refine⟨_,hg,ao ?_⟩;refine SS ?_;refine ab (ax rfl ?_);rw[AN J];rfl
theorem Ha{l:List ByteArray}{g:FuncId}{fs cs:List D}{p:ByteArray->Bool}(ht:Tr (.fn (.func g) fs cs))(hg:∀ x∈l,PCall prog g (fs++[S x]++cs) (B (p x))):PCall prog 192 [q0 l,.fn (.func g) fs cs] (B (l.any p)):=by
 have Lr:=Lr ht hg;refine bc S6 (.cons (y8 _) (.cons ht .nil)) (Tr.s _) ?_;rw[adz];refine ws ?_;refine SS ?_;refine er ?_;refine af ?_;refine cl Lr ?_;refine af ?_;refine ab (ax rfl ?_);rw[<- AV];rfl
theorem BB{l:List a7}{g:FuncId}{fs cs:List D}{p:a7->Bool}(ht:Tr (.fn (.func g) fs cs))(hg:∀ x∈l,PCall prog g (fs++[.agg (a9 x)]++cs) (B (p x))):PCall prog 158 [dG l,.fn (.func g) fs cs] (I (jO p l)):=by
 refine m8 KP.he (.cons (y9 _) (.cons ht .nil)) fun C=>?_;have hlen:=(C (dG l) oS).sl.1;unfold maxLen at hlen;refine bc KP (.cons (y9 _) (.cons ht .nil)) (Tr.s _) ?_;rw[adA];refine ws ?_;refine SS ?_;refine ab (aC (aw ?_));refine au ?_
 refine ab (bV (fun s=>Ghost prog s ⟨az [],fun _=>none,0⟩/\∀ (j:Nat) y,l[j]? =some y->p y=false) (dM (α:=Nat) (fun k=>⟨az [(0,dG l),(1,.fn (.func g) fs cs),(7,I l.length),(8,I k)],fun _=>none,0⟩)
  (fun k=>k<=l.length/\∀ j y,j<k->l[j]? =some y->p y=false) (fun k=>l.length - k) 0 (aq eH) ⟨oG,fun j y hj=>by omega⟩ ?_) ?_)
 .rintro k ⟨hk,hinv⟩;refine SS ?_;refine ab ⟨_,rfl,fun h=>?_,fun h=>?_⟩
  .have ap:k<l.length:=by simpa using h
   have hx:l[k]? =some l[k]:=by simp[ap]
   generalize l[k]=x at hx;have U:=hg x (cx hx);refine ws ?_;refine af ?_;refine er ?_;refine aV ?_;refine cl U ?_;refine ab (av rfl (fun hp=>?_) fun hp=>?_)
   .refine ws ?_;refine af ?_;refine ab (aT (bR (aL (ax rfl ?_))));rw[AM hx hp hinv];rfl
   .refine ct ?_;refine af ?_;refine ab (aK (k+1) (aq eH) ⟨oG,fun j y hj hy=>?_⟩ oG);by_cases e:j=k
    .subst e;rw[hx] at hy;cases hy;exact hp
    .exact hinv j y oG hy
  .have X:¬ k<l.length:=by simpa using h
   exact⟨.forget _ _ _ _ fun _=>.inr rfl,fun j y hy=>hinv j y (by have:=(bL.1 hy).1;omega) hy⟩
 .rintro s ⟨hg,J⟩;refine⟨_,hg,ao ?_⟩;refine SS ?_;refine ab (ax rfl ?_);rw[AN J];rfl
theorem vX{l:List a7}{g:FuncId}{fs cs:List D}{p:a7->Bool}(ht:Tr (.fn (.func g) fs cs))(hg:∀ x∈l,PCall prog g (fs++[.agg (a9 x)]++cs) (B (p x))):PCall prog 100 [dG l,.fn (.func g) fs cs] (B (l.any p)):=by
 have BB:=BB ht hg;refine bc S7 (.cons (y9 _) (.cons ht .nil)) (Tr.s _) ?_;rw[adB];refine ws ?_;refine SS ?_;refine er ?_;refine af ?_;refine cl BB ?_;refine af ?_;refine ab (ax rfl ?_);rw[<- AV];rfl
theorem Ls{l:List kq}{g:FuncId}{fs cs:List D}{p:kq->Bool}(ht:Tr (.fn (.func g) fs cs))(hg:∀ x∈l,PCall prog g (fs++[.agg (mf x)]++cs) (B (p x))):PCall prog 260 [pQ l,.fn (.func g) fs cs] (I (jO p l)):=by
 refine m8 KQ.he (.cons (j3 _) (.cons ht .nil)) fun C=>?_;have hlen:=(C (pQ l) oS).sl.1;unfold maxLen at hlen;refine bc KQ (.cons (j3 _) (.cons ht .nil)) (Tr.s _) ?_;rw[adC];refine ws ?_;refine SS ?_;refine ab (aC (aw ?_));refine au ?_
 refine ab (bV (fun s=>Ghost prog s ⟨az [],fun _=>none,0⟩/\∀ (j:Nat) y,l[j]? =some y->p y=false) (dM (α:=Nat) (fun k=>⟨az [(0,pQ l),(1,.fn (.func g) fs cs),(7,I l.length),(8,I k)],fun _=>none,0⟩)
  (fun k=>k<=l.length/\∀ j y,j<k->l[j]? =some y->p y=false) (fun k=>l.length - k) 0 (aq eH) ⟨oG,fun j y hj=>by omega⟩ ?_) ?_)
 .rintro k ⟨hk,hinv⟩;refine SS ?_;refine ab ⟨_,rfl,fun h=>?_,fun h=>?_⟩
  .have ap:k<l.length:=by simpa using h
   have hx:l[k]? =some l[k]:=by simp[ap]
   generalize l[k]=x at hx;have U:=hg x (cx hx);refine ws ?_;refine af ?_;refine er ?_;refine aV ?_;refine cl U ?_;refine ab (av rfl (fun hp=>?_) fun hp=>?_)
   .refine ws ?_;refine af ?_;refine ab (aT (bR (aL (ax rfl ?_))));rw[AM hx hp hinv];rfl
   .refine ct ?_;refine af ?_;refine ab (aK (k+1) (aq eH) ⟨oG,fun j y hj hy=>?_⟩ oG);by_cases e:j=k
    .subst e;rw[hx] at hy;cases hy;exact hp
    .exact hinv j y oG hy
  .have X:¬ k<l.length:=by simpa using h
   exact⟨.forget _ _ _ _ fun _=>.inr rfl,fun j y hy=>hinv j y (by have:=(bL.1 hy).1;omega) hy⟩
 .rintro s ⟨hg,J⟩;refine⟨_,hg,ao ?_⟩;refine SS ?_;refine ab (ax rfl ?_);rw[AN J];rfl
theorem El{l:List kq}{g:FuncId}{fs cs:List D}{p:kq->Bool}(ht:Tr (.fn (.func g) fs cs))(hg:∀ x∈l,PCall prog g (fs++[.agg (mf x)]++cs) (B (p x))):PCall prog 254 [pQ l,.fn (.func g) fs cs] (B (l.any p)):=by
 have Ls:=Ls ht hg;refine bc S8 (.cons (j3 _) (.cons ht .nil)) (Tr.s _) ?_;rw[adD];refine ws ?_;refine SS ?_;refine er ?_;refine af ?_;refine cl Ls ?_;refine af ?_;refine ab (ax rfl ?_);rw[<- AV];rfl
theorem Lt{l:List Int}{g:FuncId}{fs cs:List D}{p:Int->Bool}(ht:Tr (.fn (.func g) fs cs))(hg:∀ x∈l,PCall prog g (fs++[I x]++cs) (B (p x))):PCall prog 130 [aB l,.fn (.func g) fs cs] (I (jO p l)):=by
 refine m8 KR.he (.cons (dg _) (.cons ht .nil)) fun C=>?_;have hlen:=(C (aB l) oS).sl.1;unfold maxLen at hlen;refine bc KR (.cons (dg _) (.cons ht .nil)) (Tr.s _) ?_;rw[adE];refine ws ?_;refine SS ?_;refine ab (aC (aw ?_));refine au ?_
 refine ab (bV (fun s=>Ghost prog s ⟨az [],fun _=>none,0⟩/\∀ (j:Nat) y,l[j]? =some y->p y=false) (dM (α:=Nat) (fun k=>⟨az [(0,aB l),(1,.fn (.func g) fs cs),(7,I l.length),(8,I k)],fun _=>none,0⟩)
  (fun k=>k<=l.length/\∀ j y,j<k->l[j]? =some y->p y=false) (fun k=>l.length - k) 0 (aq eH) ⟨oG,fun j y hj=>by omega⟩ ?_) ?_)
 .rintro k ⟨hk,hinv⟩;refine SS ?_;refine ab ⟨_,rfl,fun h=>?_,fun h=>?_⟩
  .have ap:k<l.length:=by simpa using h
   have hx:l[k]? =some l[k]:=by simp[ap]
   generalize l[k]=x at hx;have U:=hg x (cx hx);refine ws ?_;refine af ?_;refine er ?_;refine aV ?_;refine cl U ?_;refine ab (av rfl (fun hp=>?_) fun hp=>?_)
   .refine ws ?_;refine af ?_;refine ab (aT (bR (aL (ax rfl ?_))));rw[AM hx hp hinv];rfl
   .refine ct ?_;refine af ?_;refine ab (aK (k+1) (aq eH) ⟨oG,fun j y hj hy=>?_⟩ oG);by_cases e:j=k
    .subst e;rw[hx] at hy;cases hy;exact hp
    .exact hinv j y oG hy
  .have X:¬ k<l.length:=by simpa using h
   exact⟨.forget _ _ _ _ fun _=>.inr rfl,fun j y hy=>hinv j y (by have:=(bL.1 hy).1;omega) hy⟩
 .rintro s ⟨hg,J⟩;refine⟨_,hg,ao ?_⟩;refine SS ?_;refine ab (ax rfl ?_);rw[AN J];rfl
theorem BC{l:List Int}{g:FuncId}{fs cs:List D}{p:Int->Bool}(ht:Tr (.fn (.func g) fs cs))(hg:∀ x∈l,PCall prog g (fs++[I x]++cs) (B (p x))):PCall prog 119 [aB l,.fn (.func g) fs cs] (B (l.any p)):=by
 have Lt:=Lt ht hg;refine bc S9 (.cons (dg _) (.cons ht .nil)) (Tr.s _) ?_;rw[adF];refine ws ?_;refine SS ?_;refine er ?_;refine af ?_;refine cl Lt ?_;refine af ?_;refine ab (ax rfl ?_);rw[<- AV];rfl
theorem mU{n a b:Int}:PCall prog 96 [I n,I a,I b] (B (cY n a b)):=by
 refine bc U2 (by simp[Tr.s]) (Tr.s _) ?_;rw[ahP];refine ws ?_;refine SS ?_;refine er ?_;refine aE ?_;refine ab (ax (d:=.s (.bool _)) rfl ?_);simp[cY]
theorem ahQ{b:Int}:PCall prog 229 [U8 b] (B (tO b)):=by
 refine bc Tw (by simp[Tr.s]) (Tr.s _) ?_;rw[ad7];refine ws ?_;refine SS ?_;refine er ?_;refine dk ?_;refine ab (ax (d:=.s (.bool _)) rfl ?_);simp[tO]
theorem ahR{b:Int}:PCall prog 232 [U8 b] (B (tP b)):=by
 refine bc Tx (by simp[Tr.s]) (Tr.s _) ?_;rw[ad8];refine ws ?_;refine SS ?_;refine er ?_;refine aE ?_;refine bK ?_;refine ab (ax (d:=.s (.bool _)) rfl ?_);simp[tP]
theorem s5{s:ByteArray}:PCall prog 190 [S s] (B (lN s)):=by
 refine bc Ty (by simp[Tr.s]) (Tr.s _) ?_;have vW:=vW (l:=cR s) (g:=229) (fs:=[]) (cs:=[]) (p:=tO) (.fn oS oS) (fun x _=>ahQ);rw[ad9];refine ws ?_;refine SS ?_;refine er ?_;refine af ?_;refine cl mU ?_;refine af ?_;refine bE rfl rfl (Pk rfl V.h V.h) (fun hc=>⟨ak,⟨V.h,by have:=kT.1 (by simpa using hc);unfold maxLen;omega⟩⟩) ?_;refine gc vW ?_;refine au ?_;refine ab (ax (d:=.s (.bool _)) rfl ?_);simp[lN]
theorem Er{s:ByteArray}:PCall prog 194 [S s] (B (isName s)):=by
 refine bc Tz (by simp[Tr.s]) (Tr.s _) ?_;have vW:=vW (l:=cR s) (g:=232) (fs:=[]) (cs:=[]) (p:=tP) (.fn oS oS) (fun x _=>ahR);rw[ad'];refine ws ?_;refine SS ?_;refine er ?_;refine af ?_;refine cl mU ?_;refine af ?_;refine bE rfl rfl (Pk rfl V.h V.h) (fun hc=>⟨ak,⟨V.h,by have:=kT.1 (by simpa using hc);unfold maxLen;omega⟩⟩) ?_;refine gc vW ?_;refine au ?_;refine ab (ax (d:=.s (.bool _)) rfl ?_);simp[isName]
theorem ahS{s:ByteArray}:PCall prog 193 [S s] (B !(isName s)):=by
 refine bc TA (by simp[Tr.s]) (Tr.s _) ?_;rw[aea];refine ws ?_;refine SS ?_;refine er ?_;refine SS ?_;refine cl Er ?_;refine af ?_;refine ab (ax rfl rfl)
theorem ahT{b m:Int}:PCall prog 230 [U8 b,.pt [U8 m]] (B (nh m b)):=by
 refine bc TB (.cons (.s _) (.cons (.pt (by simp[Tr.s])) .nil)) (Tr.s _) ?_;rw[aeb];refine ws ?_;refine SS ?_;refine er ?_;refine bI ?_;refine ab (ax (d:=.s (.bool _)) rfl ?_);simp[nh]
theorem LF{l:List Int}{m:Int}:PCall prog 191 [kQ l,U8 m] (B (eR l m)):=by
 refine bc TC (.cons (qV _) (.cons (.s _) .nil)) (Tr.s _) ?_;have vW:=vW (l:=l) (g:=230) (fs:=[]) (cs:=[.pt [U8 m]]) (p:=nh m) (.fn oS (.cons (.pt (by simp[Tr.s])) .nil)) (fun x _=>ahT);rw[aec];refine aw ?_;refine af ?_;refine ab (aI (bw [(0,[U8 m],5)] eH (l:=[(0,kQ l),(3,.pt [U8 m])]) eH) (ao ?_));refine af ?_;refine cl vW ?_;refine af ?_;refine ab (ax rfl rfl)
theorem IX{p q:D}{f:aA}(h:Real (.agg (br p q f))):f.aj.length<=maxLen/\f.aW.length<=maxLen/\f.signals.length<=maxLen/\f.blocks.length<=maxLen:=
 ⟨(h.agg (kQ f.aj) (by simp[br])).sl.1,(h.agg (kQ f.aW) (by simp[br])).sl.1,(h.agg (q0 f.signals) (by simp[br])).sl.1,(h.agg (fL f.blocks) (by simp[br])).sl.1⟩
section
variable{p q:D}{f:aA}(hp:Tr p)(hq:Tr q)(fC:p.one=true)(fp:q.one=true)
include hp hq fC fp
theorem jQ{n:Int}:PCall prog 233 [.agg (br p q f),I n] (B (cY n 0 (f.blocks.length - 1))):=by
 have C:∀ a∈[D.agg (br p q f),I n],Tr a:=.cons (nk hp hq f) (.cons (.s _) .nil);refine m8 KZ.he C fun J=>?_;obtain⟨U,X,l3,l4⟩:=IX (J _ (List.mem_cons_self ..));unfold maxLen at*
 refine bc KZ C (Tr.s _) ?_;rw[aew];refine ws ?_;refine af ?_;refine er ?_;refine bK ?_;refine cl mU ?_;refine SS ?_;refine ab (ax rfl rfl)
theorem fA{r:Int}:PCall prog 234 [.agg (br p q f),I r] (U8 (cD f.aj r)):=by
 have C:∀ a∈[D.agg (br p q f),I r],Tr a:=.cons (nk hp hq f) (.cons (.s _) .nil);refine m8 K0.he C fun U=>?_;obtain⟨X,l2,l3,l4⟩:=IX (U _ (List.mem_cons_self ..));unfold maxLen at*
 refine bc K0 C (Tr.s _) ?_;rw[aex];refine ws ?_;refine af ?_;refine ab (aC (ao ?_));refine bK ?_;refine cl mU ?_;refine SS ?_;refine ab (cH rfl (fun h=>?_) fun h=>?_)
 .refine aC (ao ?_);refine SS ?_;refine ab (cK (ax rfl ?_));rw[IS (fun J=>by simp[cY] at h;omega)];rfl
 .have J:0<=r/\r<f.aj.length:=by simp[cY] at h;omega
  obtain⟨i,rfl⟩:=cN J.1;have ap:i<f.aj.length:=by omega
  have hx:f.aj[i]? =some f.aj[i]:=by simp[ap]
  generalize f.aj[i]=x at hx;refine b7 (ao ?_);refine dk ?_;refine ab (ax rfl ?_);rw[tQ hx];rfl
theorem ah8{r:Int}:PCall prog 256 [I r,.pt (br p q f)] (B !(eI f.aj r)):=by
 have C:∀ a∈[I r,D.pt (br p q f)],Tr a:=.cons (.s _) (.cons (.pt (CO hp hq f)) .nil);have fA:=fA (f:=f) (r:=r) hp hq fC fp;refine bc TU C (Tr.s _) ?_;rw[aey];refine ws ?_;refine SS ?_;refine er ?_;refine af ?_;refine cl fA ?_;refine aJ ?_;refine gc fA ?_;refine au ?_;refine ab (ax (d:=.s (.bool _)) rfl ?_);unfold eI;generalize cD f.aj r=k;show D.s (.bool _)=D.s (.bool _);simp only[bne];cases (k==1)<;>cases (k==2)<;>rfl
theorem iD{l:List Int}:PCall prog 237 [.agg (br p q f),aB l] (B (gC f.aj l)):=by
 have C:∀ a∈[D.agg (br p q f),aB l],Tr a:=.cons (nk hp hq f) (.cons (dg _) .nil);have BC:=BC (l:=l) (g:=256) (fs:=[]) (cs:=[.pt (br p q f)]) (p:=fun r=> !(eI f.aj r)) (.fn oS (.cons (.pt (CO hp hq f)) .nil)) (fun x _=>ah8 hp hq fC fp);refine bc TV C (Tr.s _) ?_;rw[aez];refine aw ?_;refine af ?_;refine ab (aI (bw [(0,br p q f,133)] eH (l:=[(1,aB l),(2,.pt (br p q f))]) eH) (ao ?_));refine af ?_;refine cl BC ?_;refine af ?_;refine ab (ax (d:=.s (.bool _)) rfl ?_);simp[gC,List.all_eq_not_any_not]
theorem Hm{r n:Int}:PCall prog 239 [.agg (br p q f),I r,I n] (B (my f.aj f.aW r n)):=by
 have J:∀ a∈[D.agg (br p q f),I r,I n],Tr a:=.cons (nk hp hq f) (.cons (.s _) (.cons (.s _) .nil));refine m8 K2.he J fun U=>?_;obtain⟨l1,l2,l3,l4⟩:=IX (U _ (List.mem_cons_self ..));unfold maxLen at*
 have fA:=fA (f:=f) (r:=r) hp hq fC fp;refine bc K2 J (Tr.s _) ?_;rw[aeA];have mU:=mU (n:=n) (a:=0) (b:=f.aW.length - 1);by_cases X:0<=n/\n<f.aW.length
 .obtain⟨i,rfl⟩:=cN X.1;have ap:i<f.aW.length:=by omega
  have hx:f.aW[i]? =some f.aW[i]:=by simp[ap]
  generalize f.aW[i]=x at hx;have C:cY (i:Int) 0 (f.aW.length - 1)=true:=kT.2 oG;rw[C] at mU;refine ws ?_;refine af ?_;refine ab (c8 OI ?_);refine bK ?_;refine cl mU ?_;refine SS ?_;refine bE rfl rfl (dx (vs:=br _ _ _) rfl rfl V.h V.h rfl) (fun hc=>⟨ak,(dy V.h V.h (by first|(simp;done)|omega|exact bA rfl))⟩) ?_;refine SS ?_;refine gc fA ?_;refine aE ?_;refine a8 bf ?_;refine ax (d:=.s (.bool _)) rfl ?_;simp[my,C,tQ hx]
 .have C:cY n 0 (f.aW.length - 1)=false:=Zg.2 oG;rw[C] at mU;refine ws ?_;refine af ?_;refine ab (c8 OI ?_);refine bK ?_;refine cl mU ?_;refine SS ?_;(iterate 10 refine z fun _ _=>?_);refine af ?_;refine a8 bf ?_;refine ax (d:=.s (.bool _)) rfl ?_;simp[my,C]
end
section
variable{p q:D}{f:aA}(hp:Tr p)(hq:Tr q)(fC:p.one=true)(fp:q.one=true)
include hp hq fC fp
theorem Ex{r want kd:Int}:PCall prog 253 [.agg (br p q f),I r,I want,U8 kd] (B (mn f.aj r want kd)):=by
 have C:∀ a∈[D.agg (br p q f),I r,I want,U8 kd],Tr a:=.cons (nk hp hq f) (.cons (.s _) (.cons (.s _) (.cons (.s _) .nil)));have fA:=fA (f:=f) (r:=r) hp hq fC fp;refine bc TZ C (Tr.s _) ?_;rw[aeE];refine ws ?_;refine af ?_;refine er ?_;refine aF (dx (vs:=br _ _ _) rfl rfl V.h V.h rfl) ak (dy V.h V.h (by first|(simp;done)|omega|exact bA rfl)) ?_;refine SS ?_;refine cl fA ?_;refine SS ?_;refine ab (aC (ao ?_));refine SS ?_;refine ab (l8 (ao ?_));refine af ?_;refine ab (av rfl (fun h0=>?_) fun h0=>?_)
 .have h0:want=0:=by simpa using h0
  refine ws ?_;refine au ?_;refine ab (aT (bH (aL (ax (d:=.s (.bool _)) rfl ?_))));simp[mn,h0]
 have h0:¬ want=0:=by simpa using h0
 refine ws ?_;refine af ?_;refine ab (av rfl (fun h1=>?_) fun h1=>?_)
 .have h1:want=1:=by simpa using h1
  refine ws ?_;refine au ?_;refine ab (aT (bH (aL (ax (d:=.s (.bool _)) rfl ?_))));simp[mn,h1]
 have h1:¬ want=1:=by simpa using h1
 refine ws ?_;refine af ?_;refine ab (av rfl (fun h2=>?_) fun h2=>?_)
 .have h2:want=2:=by simpa using h2
  refine ws ?_;refine au ?_;refine ab (aT (bH (aL (ax (d:=.s (.bool _)) rfl ?_))));simp[mn,h2]
 have h2:¬ want=2:=by simpa using h2
 refine ws ?_;refine af ?_;refine ab (av rfl (fun h3=>?_) fun h3=>?_)
 .have h3:want=3:=by simpa using h3
  refine ws ?_;refine dk ?_;refine ab (aT (bH (aL (ax (d:=.s (.bool _)) rfl ?_))));simp[mn,h3,eI,ib]
 have h3:¬ want=3:=by simpa using h3
 refine lL (ao ?_);refine bI ?_;refine ab (ax (d:=.s (.bool _)) rfl ?_);simp[mn,h0,h1,h2,h3,ib,bne]
theorem BJ{x:a7}{s:Shape}:PCall prog 235 [.agg (br p q f),.agg (a9 x),.agg (jE s)] (B (pS f.aj x s)):=by
 have J:∀ a∈[D.agg (br p q f),.agg (a9 x),.agg (jE s)],Tr a:=.cons (nk hp hq f) (.cons (.agg (mg x)) (.cons (.agg (OM s)) .nil));have fA:=fun r=>fA (f:=f) (r:=r) hp hq fC fp;have Ex:= @Ex p q f hp hq fC fp;have iD:=iD (f:=f) hp hq fC fp (l:=x.args);have U:=mU (n:=x.n) (a:=s.low) (b:=s.high);refine bc T0 J (Tr.s _) ?_;rw[aeF];refine aw ?_;refine af ?_;refine fP (ud (cs:=jE _) rfl) ak (by first|rfl|exact vq fC fp|exact jv _|exact vK dB) ?_;refine SS ?_;refine ab (aI (bw [(0,br p q f,133),(1,a9 x,66),(2,jE s,205)] eH (l:=[(3,.pt (br p q f)),(4,.pt (a9 x)),(5,.pt (jE s))]) eH) (ao ?_));have C:=fA;have fA:=fA x.to;refine au ?_;refine cl fA ?_;refine SS ?_;refine ab ?_;refine ew (fun s'=>Ghost prog s' ⟨az [(3,.pt (br p q f)),(4,.pt (a9 x)),(5,.pt (jE s)),(7,U8 (qZ f.aj x s))],fun _=>none,3⟩) (ao ?_) fun s' hg=>⟨_,hg,?_⟩
 .refine bI ?_;refine ab (av rfl (fun h=>lM ?_) fun h=>bj ?_)
  .have h:s.to=0\/s.to=1:=by simpa[ib] using h
   have fA:=C x.a;refine au ?_;refine cl fA ?_;refine SS ?_;refine ab ?_;show Ghost _ _ _;refine aq (l:=[(3,_),(4,_),(5,_),(7,_)]) ⟨rfl,rfl,rfl,?_,trivial⟩;simp only[qZ,if_pos h];rfl
  .have h:¬ (s.to=0\/s.to=1):=by simpa[ib] using h
   show Ghost _ _ _;refine aq (l:=[(3,_),(4,_),(5,_),(7,_)]) ⟨rfl,rfl,rfl,?_,trivial⟩;simp only[qZ,if_neg h];rfl
 refine ws ?_;refine aV ?_;refine ab ?_;refine ew (fun s'=>Ghost prog s' ⟨az [(3,.pt (br p q f)),(4,.pt (a9 x)),(5,.pt (jE s)),(7,U8 (qZ f.aj x s)),(8,B (qS f.aj x s))],fun _=>none,3⟩) (ao ?_) fun s' hg=>⟨_,hg,?_⟩
 .refine af ?_;refine ab (nY (ao ?_));refine af ?_;refine ab (av rfl (fun h=>oZ ?_) fun h=>ao ?_)
  .have h:s.args=5:=by simpa using h
   have mU:=mU (n:=x.args.length) (a:=1) (b:=6);refine au ?_;refine cl mU ?_;refine aJ ?_;refine gc iD ?_;refine af ?_;refine ab ?_;refine aq ⟨rfl,rfl,rfl,rfl,?_,trivial⟩;show D.s (.bool _)=_;simp[qS,h]
  .have h5:¬ s.args=5:=by simpa using h
   refine af ?_;refine ab (av rfl (fun h=>oZ ?_) fun h=>Jh ?_)
   .have h:s.args=6:=by simpa using h
    refine bI ?_;refine gc iD ?_;refine af ?_;refine ab ?_;refine aq ⟨rfl,rfl,rfl,rfl,?_,trivial⟩;show D.s (.bool _)=_;simp[qS,h,ib]
   .have X:¬ s.args=6:=by simpa using h
    refine aq ⟨rfl,rfl,rfl,rfl,?_,trivial⟩;show D.s (.bool _)=_;simp[qS,h5,X,ib]
 refine ws ?_;refine aV ?_;refine cl Ex ?_;refine dk ?_;refine gc Ex ?_;refine bI ?_;refine gc Ex ?_;refine aE ?_;refine af ?_;refine gc mU ?_;refine af ?_;refine ab (ax (d:=.s (.bool _)) rfl ?_);simp[pS,Bool.and_assoc]
end
theorem L2{x:a7}:PCall prog 257 [.agg (a9 x)] (B (DQ x)):=by
 have C:∀ a∈[D.agg (a9 x)],Tr a:=.cons (.agg (mg x)) .nil;refine bc T7 C (Tr.s _) ?_;rw[aeJ];refine ws ?_;refine af ?_;refine er ?_;refine aE ?_;refine aE ?_;refine aE ?_;refine au ?_;refine ab (ax (d:=.s (.bool _)) rfl ?_);simp only[DQ,ib];cases decide (x.op=0)<;>cases decide (x.to=0)<;>cases decide (x.a=0)<;>cases decide (x.b=0)<;>cases decide (x.n=0)<;>rfl
theorem L3{x:Argus.End}:PCall prog 238 [.agg (bd x)] (B (zv x)):=by
 have C:∀ a∈[D.agg (bd x)],Tr a:=.cons (.agg (jF x)) .nil;have L2:=L2 (x:=x.ins);refine bc T8 C (Tr.s _) ?_;rw[aeK];refine ws ?_;refine af ?_;refine er ?_;refine aE ?_;refine aE ?_;refine aE ?_;refine aE ?_;refine aE ?_;refine af ?_;refine bE rfl rfl (dx (vs:=a9 _) rfl rfl V.h V.h rfl) (fun hc=>⟨ak,(dy V.h V.h (by first|(simp;done)|omega|exact bA rfl))⟩) ?_;refine gc L2 ?_;refine af ?_;refine ab (ax (d:=.s (.bool _)) rfl ?_);have:decide (x.name.toList=[])=x.name.toList.isEmpty:=by cases x.name.toList<;>rfl
 simp[zv,ib,Bool.and_assoc,this]
theorem ais{w v:kq}:PCall prog 255 [.agg (mf v),.pt (mf w)] (B (v.name.toList==w.name.toList)):=by
 have C:∀ a∈[D.agg (mf v),.pt (mf w)],Tr a:=.cons (.agg (F7 v)) (.cons (.pt (F7 w)) .nil);refine bc T9 C (Tr.s _) ?_;rw[aeL];refine ws ?_;refine fP (ud (cs:=mf _) rfl) ak (by first|rfl|exact vq fC fp|exact jv _|exact vK dB) ?_;refine SS ?_;refine er ?_;refine aJ ?_;refine aF (Kb rfl rfl) ak trivial ?_;refine SS ?_;exact ab (ax rfl rfl)
section
variable{p q:D}{f:aA}(hp:Tr p)(hq:Tr q)(fC:p.one=true)(fp:q.one=true)
include hp hq fC fp
theorem uK{x:Argus.End}:PCall prog 236 [.agg (br p q f),.agg (bd x)] (B (nj f x)):=by
 have J:∀ a∈[D.agg (br p q f),.agg (bd x)],Tr a:=.cons (nk hp hq f) (.cons (.agg (jF x)) .nil);refine m8 K4.he J fun fF=>?_;have hlen:x.aH.length<=maxLen:=((fF _ (List.mem_cons_of_mem _ (List.mem_cons_self ..))).agg (pQ x.aH) (by simp[bd])).sl.1;unfold maxLen at hlen;have jQ:= @jQ p q f hp hq fC fp;refine bc K4 J (Tr.s _) ?_;rw[aeM];refine aw ?_;refine au ?_;refine ab (aI (bw [(0,br p q f,133),(1,bd x,69)] eH (l:=[(2,.pt (br p q f)),(3,.pt (bd x))]) eH) (aC (aw ?_)));refine aJ ?_
 refine ab (bV (fun s=>∃ n,Ghost prog s ⟨az [(2,.pt (br p q f)),(3,.pt (bd x))],fun _=>none,n⟩/\∀ (j:Nat) y,x.aH[j]? =some y->pj f x.aH j y=true) (dM (α:=Nat) (fun k=>⟨az [(2,.pt (br p q f)),(3,.pt (bd x)),(8,pQ x.aH),(9,I x.aH.length),(10,I k)],fun _=>none,2+k⟩)
  (fun k=>k<=x.aH.length/\∀ j y,j<k->x.aH[j]? =some y->pj f x.aH j y=true) (fun k=>x.aH.length - k) 0 (aq eH) ⟨oG,fun j y hj=>by omega⟩ ?_) ?_)
 .rintro k ⟨hk,hinv⟩;refine SS ?_;refine ab ⟨_,rfl,fun h=>?_,fun h=>?_⟩
  .have ap:k<x.aH.length:=by simpa using h
   have hx:x.aH[k]? =some x.aH[k]:=by simp[ap]
   generalize x.aH[k]=w at hx;refine aw ?_;refine bK ?_;refine ab (aI (bw [(2+k,mf w,199)] ⟨up_same _ _ _,trivial⟩ (l:=[(2,.pt (br p q f)),(3,.pt (bd x)),(5,I k),(6,.pt (mf w)),(8,pQ x.aH),(9,I x.aH.length),(10,I k)]) ⟨rfl,rfl,rfl,lP (sz:=prog.cellsOf 199),rfl,rfl,rfl,trivial⟩) (ao ?_));have Er:=Er (s:=w.name);have El:=El (l:=x.aH.take k) (g:=255) (fs:=[]) (cs:=[.pt (mf w)]) (p:=fun v=>v.name.toList==w.name.toList) (.fn oS (.cons (.pt (F7 w)) .nil)) (fun v _=>ais);unfold pQ at El;rw[<- QC Cy hk] at El;refine af ?_;refine cl Er ?_;refine aV ?_;refine gc jQ ?_;refine bK ?_;refine bE rfl rfl (AZ rfl V.h V.h rfl rfl rfl) (fun hc=>⟨ak,⟨V.h,oG,oG,oG⟩⟩) ?_;refine bE rfl rfl (RJ rfl rfl) (fun hc=>⟨ak,trivial⟩) ?_;refine gc El ?_;refine SS ?_;have hb:((isName w.name&&(cr f w.to&& !(x.aH.take k).any fun v=>v.name.toList==w.name.toList)))=pj f x.aH k w:=rfl;refine ab (av rfl (fun hp=>?_) fun hp=>?_)
   .refine ws ?_;refine SS ?_;refine ab (aT (bR (aL (ax (d:=.s (.bool _)) rfl ?_))))
    have C:pj f x.aH k w=false:=by
     rw[<- hb];simp only[cr];revert hp;generalize isName w.name=a;generalize cY w.to 0 (f.blocks.length - 1)=b;generalize (List.any _ _)=c;cases a<;>cases b<;>cases c<;>simp
    simp[nj,It hx C]
   .refine ct ?_
    have C:pj f x.aH k w=true:=by
     rw[<- hb];simp only[cr];revert hp;generalize isName w.name=a;generalize cY w.to 0 (f.blocks.length - 1)=b;generalize (List.any _ _)=c;cases a<;>cases b<;>cases c<;>simp
    refine af ?_;refine ab (aK (k+1) (aq eH) ⟨oG,fun j y hj hy=>?_⟩ oG);by_cases e:j=k
    .subst e;rw[hx] at hy;cases hy;exact C
    .exact hinv j y oG hy
  .have bh:¬ k<x.aH.length:=by simpa using h
   exact⟨2+k,.forget _ _ _ _ fun t=>nX (l:=[(2,.pt (br p q f)),(3,.pt (bd x))]) ⟨rfl,rfl,trivial⟩ t,fun j y hy=>hinv j y (by have:=(bL.1 hy).1;omega) hy⟩
 .rintro s ⟨n,hg,X⟩;refine⟨_,hg,ao ?_⟩;refine au ?_;refine UX ?_;refine bI ?_;refine gc jQ ?_;refine au ?_;refine ab (ax (d:=.s (.bool _)) rfl ?_);have U:=NO X;simp[nj,cr,U,ib]
end
abbrev P0:D:=.im (rN o8)
abbrev Q0:D:=.im (rN jJ)
theorem ait:PCall prog 166 [] (.tup [P0,Q0]):=by
 refine bc T' Tr.nil (.tup (.cons (Bt _) (.cons (Bt _) .nil))) ?_;rw[aeN];refine ws ?_;refine aF (na (v:=.s (.map none)) rfl) ak trivial ?_;refine aF (na (v:=.s (.map none)) rfl) ak trivial ?_;refine er ?_;refine aE ?_;refine aE ?_;refine aE ?_;refine bK ?_;refine er ?_;refine aE ?_;refine aE ?_;refine au ?_;refine ab (aw ?_);refine aJ ?_;refine ab (aI (aaF [(0,rN o8),(1,rN jJ)] eH (l:=[(0,P0),(1,Q0)]) eH) ?_);exact dN rfl rfl rfl
abbrev sR(f:aA):D:=.agg (br P0 Q0 f)
theorem LJ{f:aA}:PCall prog 189 [.agg (aD f)] (sR f):=by
 have C:∀ a∈[D.agg (aD f)],Tr a:=.cons (.agg (fu f)) .nil;refine bc Ua C (nk (Bt _) (Bt _) f) ?_;rw[aeO];refine ws ?_;refine af ?_;refine er ?_;refine cl ait ?_;refine SS ?_;refine aF (sm (v:=.im _) rfl rfl) ak (by first|decide|simp) ?_;refine aF (sm (v:=.im _) rfl rfl) ak (by first|decide|simp) ?_;refine aF (na (v:=.im _) rfl) ak trivial ?_;refine aF (na (v:=.im _) rfl) ak trivial ?_;refine er ?_;refine SS ?_;refine aF (j7 (v:=.im _) rfl) ak trivial ?_;refine aF (j7 (v:=.im _) rfl) ak trivial ?_;refine U' ?_;refine cJ (gq (cs':=br _ _ _) rfl rfl rfl rfl) ak (dQ V.h V.h (by first|(simp;done)|exact⟨rfl,bA rfl⟩|(simp;omega)) (by rfl)) ?_;refine ab (jH (jZ rfl rfl VH VJ rfl t133 oS) ?_);rfl
theorem mz:Tr P0:=Bt _
theorem mA:Tr Q0:=Bt _
section
variable{p q:D}{f:aA}(hp:Tr p)(hq:Tr q)(fC:p.one=true)(fp:q.one=true)
include hp hq fC fp
theorem aiu{r kd:Int}:PCall prog 240 [I r,.pt (br p q f),.pt [U8 kd]] (B !(aR (cD f.aj r) kd)):=by
 have C:∀ a∈[I r,.pt (br p q f),.pt [U8 kd]],Tr a:=.cons (.s _) (.cons (.pt (CO hp hq f)) (.cons (.pt (.cons (.s _) .nil)) .nil));have fA:=fA (f:=f) (r:=r) hp hq fC fp;refine bc Uc C (Tr.s _) ?_;rw[ae4];refine ws ?_;refine SS ?_;refine ab (c8 Zv ?_);refine af ?_;refine cl fA ?_;refine au ?_;refine a8 bf ?_;refine ax (d:=.s (.bool _)) rfl ?_;rfl
end
theorem Hi{f:aA}{b ahead:Int}{x:a7}{phis:Bool}:PCall prog 196 [sR f,I b,.agg (a9 x),B phis,I ahead] (B (jm f b x phis ahead)):=by
 have U:∀ a∈[sR f,I b,.agg (a9 x),B phis,I ahead],Tr a:=.cons (nk mz mA f) (.cons (.s _) (.cons (.agg (mg x)) (.cons (.s _) (.cons (.s _) .nil))));have fA:= @fA P0 Q0 f mz mA rfl rfl;have Hm:= @Hm P0 Q0 f mz mA rfl rfl;have iD:= @iD P0 Q0 f mz mA rfl rfl;have BJ:= @BJ P0 Q0 f mz mA rfl rfl;refine bc Ud U (Tr.s _) ?_;rw[ae5];refine aw ?_;refine au ?_;refine ab (aI (bw [(0,br P0 Q0 f,133),(1,a9 x,66)] eH (l:=[(1,I b),(3,B phis),(4,I ahead),(5,.pt (br P0 Q0 f)),(7,.pt (a9 x))]) eH) (aC (ao ?_)));refine af ?_;refine ab (l8 (ao ?_));refine af ?_;refine ab (av rfl (fun h0=>?_) fun h0=>?_)
 .have h0:x.op=16:=by simpa using h0
  refine ws ?_;refine dk ?_;refine gc fA ?_;refine aE ?_;refine bI ?_;refine af ?_;refine ab (aT (bH (aL (ax (d:=.s (.bool _)) rfl ?_))));simp[jm,h0,aR,jK,ib,Bool.and_assoc]
 have h0:¬ x.op=16:=by simpa using h0
 refine ws ?_;refine af ?_;refine ab (av rfl (fun h1=>?_) fun h1=>?_)
 .have h1:x.op=17:=by simpa using h1
  refine ws ?_;refine aE ?_;refine aE ?_;refine af ?_;refine gc Hm ?_;refine af ?_;refine ab (aT (bH (aL (ax (d:=.s (.bool _)) rfl ?_))));simp[jm,h1,aR,jK,ib,Bool.and_assoc]
 have h1:¬ x.op=17:=by simpa using h1
 refine ws ?_;refine af ?_;refine ab (av rfl (fun h2=>?_) fun h2=>?_)
 .have h2:x.op=18:=by simpa using h2
  refine ws ?_;refine aE ?_;refine aE ?_;refine af ?_;refine gc Hm ?_;refine af ?_;refine ab (aT (bH (aL (ax (d:=.s (.bool _)) rfl ?_))));simp[jm,h2,aR,jK,ib,Bool.and_assoc]
 have h2:¬ x.op=18:=by simpa using h2
 refine ws ?_;refine af ?_;refine ab (av rfl (fun h3=>?_) fun h3=>?_)
 .have h3:x.op=19:=by simpa using h3
  refine aw ?_;refine au ?_;refine cl fA ?_;refine SS ?_;refine UT ?_;refine ab (aI (bw [(2,[U8 (cD f.aj x.to)],5)] eH (l:=[(1,I b),(3,B phis),(4,I ahead),(5,.pt (br P0 Q0 f)),(7,.pt (a9 x)),(11,.pt [U8 (cD f.aj x.to)])]) eH) (ao ?_));have BC:=BC (l:=x.args) (g:=240) (fs:=[]) (cs:=[.pt (br P0 Q0 f),.pt [U8 (cD f.aj x.to)]]) (p:=fun r=> !(aR (cD f.aj r) (cD f.aj x.to))) (.fn oS (.cons (.pt (CO mz mA f)) (.cons (.pt (.cons (.s _) .nil)) .nil))) (fun r _=>aiu mz mA rfl rfl);refine au ?_;refine cl BC ?_;refine SS ?_;refine er ?_;by_cases hb:phis=true/\0<b
  .obtain⟨rfl,hb⟩:=hb;have ja:decide (0<b)=true:=by simpa using hb
   have iD:=iD (l:=[x.to]);have C:∀ {m:Mem},m 3=some (.cells [I x.to] 3)->Sns prog [3] m [sR f,.rs 3 0 1] [sR f,aB [x.to]]:=fun hm=>⟨cU (nk mz mA f),GN hm oS (by rw[c3];rfl) (.cons (.s _) .nil),trivial⟩
   refine bI ?_;refine af ?_;refine Gz iD rfl rfl rfl rfl (C rfl) ak ?_;refine aE ?_;refine aE ?_;refine bI ?_;refine af ?_;refine ab (aT (bH (aL (ax (d:=.s (.bool _)) rfl ?_))));simp[jm,h3,hb,aR,jK,ib,Bool.and_assoc,gC]
  .have hf:jm f b x phis ahead=false:=by
    cases phis with
    |false=>simp[jm,h3]
    |true=>simp[jm,h3,show ¬ 0<b by simpa using hb]
   have hf:D.s (.bool false)=B (jm f b x phis ahead):=by rw[hf]
   cases phis with
   |false=>
    refine af ?_;(iterate 2 refine z fun _ _=>?_);refine af ?_;(iterate 5 refine z fun _ _=>?_);refine af ?_;(iterate 3 refine z fun _ _=>?_);refine af ?_;(iterate 3 refine z fun _ _=>?_);refine af ?_;(iterate 3 refine z fun _ _=>?_);refine af ?_;(iterate 5 refine z fun _ _=>?_);refine af ?_;(iterate 2 refine z fun _ _=>?_);refine af ?_;exact ab (aT (bH (aL (ax (d:=.s (.bool _)) rfl hf))))
   |true=>
    have ja:decide (0<b)=false:=by simpa using hb
    refine bK ?_;(iterate 5 refine z fun _ _=>?_);refine af ?_;(iterate 3 refine z fun _ _=>?_);refine af ?_;(iterate 3 refine z fun _ _=>?_);refine af ?_;(iterate 3 refine z fun _ _=>?_);refine af ?_;(iterate 5 refine z fun _ _=>?_);refine af ?_;(iterate 2 refine z fun _ _=>?_);refine af ?_;exact ab (aT (bH (aL (ax (d:=.s (.bool _)) rfl hf))))
 have h3:¬ x.op=19:=by simpa using h3
 refine lL (ao ?_);have X:gotD prog 131 true (lookD (.int .u8 x.op) (rN o8))=.tup [.agg (jE ((fM o8 x.op).getD zb)),.s (.bool (fM o8 x.op).isSome)]:=Sb rfl _ _ (by rw[K6];unfold zeroD;rw[L4,L5];rfl);have J:=QH (P:=prog) (kt:=5) u5 o8;refine aJ ?_;refine aF (Om rfl rfl V.h X) ak ⟨V.h,by kernel_rfl,J⟩ ?_;refine SS ?_;refine aF (sm (v:=.agg (jE _)) rfl rfl) ak (by first|decide|simp) ?_;refine af ?_;refine cJ (gq (cs':=jE _) rfl rfl rfl rfl) ak (dQ V.h V.h (by first|(simp;done)|exact⟨rfl,bA rfl⟩|(simp;omega)) (by rfl)) ?_;refine SS ?_;refine er ?_;refine aJ ?_;refine bE rfl rfl (dx (vs:=jE _) rfl rfl V.h V.h rfl) (fun hc=>⟨ak,(dy V.h V.h (by first|(simp;done)|omega|exact bA rfl))⟩) ?_;refine gc BJ ?_;refine af ?_;refine ab (ax (d:=.s (.bool _)) rfl ?_);simp[jm,h0,h1,h2,h3]
def Um(f:aA)(x:Argus.End)(s:St):Prop:=∃ cells n,Ghost prog s ⟨az [(2,.pt (br P0 Q0 f)),(3,.pt (bd x)),(5,.rp 2 0),(6,B (gf f x).1)],up (fun _=>none) 2 (some (.cells cells 69)),n⟩/\cells.length=15/\∀ m,Sns prog [2] m cells (bd (gf f x).2)
theorem vR{l:List Int}{r:Int}:gC l [r]=eI l r:=by simp[gC]
theorem nF{f:aA}{x r:Argus.End}{env:Env}{m:Mem}{nx:Nat}{cells:List D}{ok:Bool}(hr:gf f x=(ok,r))(he:jk [(2,.pt (br P0 Q0 f)),(3,.pt (bd x)),(5,.rp 2 0),(6,B ok)] env)(hm:m 2=some (.cells cells 69))(hl:cells.length=15)
 (C:∀ m,Sns prog [2] m cells (bd r)):Um f x ⟨env,m,nx⟩:=by
 refine⟨cells,nx,?_,hl,?_⟩
 .rw[hr];exact PB he (aae hm)
 .rw[hr];exact C
set_option maxHeartbeats 4000000 in
theorem Hh{f:aA}{x:Argus.End}:PCall prog 195 [sR f,.agg (bd x)] (B (jI f x)):=by
 have aZ:∀ a∈[sR f,.agg (bd x)],Tr a:=.cons (nk mz mA f) (.cons (.agg (jF x)) .nil);have jQ:= @jQ P0 Q0 f mz mA rfl rfl;have fA:= @fA P0 Q0 f mz mA rfl rfl;have iD:= @iD P0 Q0 f mz mA rfl rfl;have BJ:= @BJ P0 Q0 f mz mA rfl rfl;have uK:= @uK P0 Q0 f mz mA rfl rfl;refine bc Un aZ (Tr.s _) ?_;rw[afB];refine aw ?_;refine au ?_;refine ab (aI (bw [(0,br P0 Q0 f,133),(1,bd x,69)] eH (l:=[(2,.pt (br P0 Q0 f)),(3,.pt (bd x))]) eH) (ao ?_));refine aJ ?_;refine er ?_;refine af ?_;refine ab ?_;refine ew (Um f x) (ao ?_) fun s hs=>?_
 .refine af ?_;refine ab (nY (ao ?_));refine af ?_;refine ab (av rfl (fun h=>?_) fun h=>?_)
  .have h:x.kind=1:=by simpa using h
   refine oZ ?_;refine au ?_;refine cl jQ ?_;refine au ?_;refine ab ?_;exact nF (r:={ x with kind:=0,to:=0 }) (by simp[gf,h,aR,ib,Bool.and_assoc,cr]) ⟨rfl,rfl,rfl,rfl,trivial⟩ rfl rfl (fun m=>by repeat' (first|exact trivial|exact cU (Tr.s _)|exact cU (dg _)|exact cU (j3 _)|exact nG|refine And.intro ?_ ?_))
  have h1:¬ x.kind=1:=by simpa using h
  clear h;refine ws ?_;refine af ?_;refine ab (av rfl (fun h=>?_) fun h=>?_)
  .have h:x.kind=2:=by simpa using h
   refine oZ ?_;refine au ?_;refine cl fA ?_;refine aV ?_;refine gc jQ ?_;refine aV ?_;refine gc jQ ?_;refine bI ?_;refine ab ?_;exact nF (r:={ x with kind:=0,a:=0,to:=0,fS:=0 }) (by simp[gf,h,aR,ib,Bool.and_assoc,cr]) ⟨rfl,rfl,rfl,rfl,trivial⟩ rfl rfl (fun m=>by repeat' (first|exact trivial|exact cU (Tr.s _)|exact cU (dg _)|exact cU (j3 _)|exact nG|refine And.intro ?_ ?_))
  have h2:¬ x.kind=2:=by simpa using h
  clear h;refine ws ?_;refine af ?_;refine ab (av rfl (fun h=>?_) fun h=>?_)
  .have h:x.kind=3:=by simpa using h
   refine ws ?_;refine bK ?_;refine er ?_;refine bI ?_;refine af ?_;refine ab (av rfl (fun hr=>?_) fun hr=>?_)
   .have hr:f.result≠0/\f.iter=false:=by simpa[bne,ib] using hr
    refine Pw Ys ?_;refine au ?_;refine cl fA ?_;refine aV ?_;refine a8 bf ?_;exact nF (r:={ x with kind:=0,a:=0 }) (by simp[gf,h,aR,ib,Bool.and_assoc,hr.1,hr.2]) ⟨rfl,rfl,rfl,rfl,trivial⟩ rfl rfl (fun m=>by repeat' (first|exact trivial|exact cU (Tr.s _)|exact cU (dg _)|exact cU (j3 _)|exact nG|refine And.intro ?_ ?_))
   .have hr:¬ (f.result≠0/\f.iter=false):=by simpa[bne,ib] using hr
    refine Jh ?_;exact nF (r:={ x with kind:=0,a:=0 }) (by simp only[gf,h];simp only[if_neg hr];simp[aR,ib]) ⟨rfl,rfl,rfl,rfl,trivial⟩ rfl rfl (fun m=>by repeat' (first|exact trivial|exact cU (Tr.s _)|exact cU (dg _)|exact cU (j3 _)|exact nG|refine And.intro ?_ ?_))
  have h3:¬ x.kind=3:=by simpa using h
  clear h;refine ws ?_;refine af ?_;refine ab (av rfl (fun h=>?_) fun h=>?_)
  .have h:x.kind=4:=by simpa using h
   refine oZ ?_;refine af ?_;refine cl Er ?_;refine au ?_;refine ab ?_;exact nF (r:={ x with kind:=0,name:=.empty }) (by simp[gf,h,aR,ib,Bool.and_assoc]) ⟨rfl,rfl,rfl,rfl,trivial⟩ rfl rfl (fun m=>by repeat' (first|exact trivial|exact cU (Tr.s _)|exact cU (dg _)|exact cU (j3 _)|exact nG|refine And.intro ?_ ?_))
  have h4:¬ x.kind=4:=by simpa using h
  clear h;refine ws ?_;refine af ?_;refine ab (av rfl (fun h=>?_) fun h=>?_)
  .have h:x.kind=5:=by simpa using h
   refine ws ?_;have kg:gotD prog 131 true (lookD (.int .u8 x.ins.op) (rN jJ))=.tup [.agg (jE ((fM jJ x.ins.op).getD zb)),.s (.bool (fM jJ x.ins.op).isSome)]:=Sb rfl _ _ (by rw[K6];unfold zeroD;rw[L4,L5];rfl);have Nb:=QH (P:=prog) (kt:=5) u5 jJ;refine aV ?_;refine aF (Om rfl rfl V.h kg) ak ⟨V.h,by kernel_rfl,Nb⟩ ?_;refine SS ?_;refine aF (sm (v:=.agg (jE _)) rfl rfl) ak (by first|decide|simp) ?_;refine af ?_;refine cJ (gq (cs':=jE _) rfl rfl rfl rfl) ak (dQ V.h V.h (by first|(simp;done)|exact⟨rfl,bA rfl⟩|(simp;omega)) (by rfl)) ?_;refine SS ?_;refine er ?_;refine aV ?_;refine bE rfl rfl (dx (vs:=jE _) rfl rfl V.h V.h rfl) (fun hc=>⟨ak,(dy V.h V.h (by first|(simp;done)|omega|exact bA rfl))⟩) ?_;refine gc BJ ?_;refine aV ?_;refine gc jQ ?_;refine aJ ?_;refine gc uK ?_;refine af ?_;refine ab (oZ ?_);refine aE ?_;refine ab ?_;exact nF (r:={ x with kind:=0,ins:=dT,to:=0,aH:=[],cP:= -1 }) (by simp[gf,h,aR,ib,Bool.and_assoc,cr]) ⟨rfl,rfl,rfl,rfl,trivial⟩ rfl rfl (fun m=>by repeat' (first|exact trivial|exact cU (Tr.s _)|exact cU (dg _)|exact cU (j3 _)|exact nG|refine And.intro ?_ ?_))
  have h5:¬ x.kind=5:=by simpa using h
  clear h;refine ws ?_;refine af ?_;refine ab (av rfl (fun h=>?_) fun h=>?_)
  .have h:x.kind=6:=by simpa using h
   refine ws ?_;have s5:=s5 (s:=x.name);have afC:=iD (l:=[x.a]);have iD:=iD (l:=x.args);have acV:∀ {m:Mem},m 3=some (.cells [I x.a] 3)->Sns prog [3] m [sR f,.rs 3 0 1] [sR f,aB [x.a]]:=fun hm=>⟨cU (nk mz mA f),GN hm oS (by rw[c3];rfl) (.cons (.s _) .nil),trivial⟩
   cases C:lN x.name with
   |false=>
    rw[C] at s5;refine af ?_;refine cl s5 ?_;refine bI ?_;refine af ?_;refine gc iD ?_;refine aE ?_;(iterate 3 refine z fun _ _=>?_);refine aV ?_;refine gc jQ ?_;refine aJ ?_;refine gc uK ?_;refine af ?_;refine ab (oZ ?_);refine aE ?_;refine au ?_;refine ab ?_;exact nF (r:={ x with kind:=0,name:=.empty,args:=[],a:=0,to:=0,aH:=[],cP:= -1 }) (by simp[gf,h,aR,ib,Bool.and_assoc,cr,C]) ⟨rfl,rfl,rfl,rfl,trivial⟩ rfl rfl (fun m=>by repeat' (first|exact trivial|exact cU (Tr.s _)|exact cU (dg _)|exact cU (j3 _)|exact nG|refine And.intro ?_ ?_))
   |true=>
    rw[C] at s5;by_cases J:(x.args.length:Int)<=6
    rotate_left
    .have UN:decide ((x.args.length:Int)<=6)=false:=by simpa using J
     refine af ?_;refine cl s5 ?_;refine bI ?_;refine af ?_;refine gc iD ?_;refine aE ?_;(iterate 3 refine z fun _ _=>?_);refine aV ?_;refine gc jQ ?_;refine aJ ?_;refine gc uK ?_;refine af ?_;refine ab (oZ ?_);refine aE ?_;refine au ?_;refine ab ?_;exact nF (r:={ x with kind:=0,name:=.empty,args:=[],a:=0,to:=0,aH:=[],cP:= -1 }) (by simp[gf,h,aR,ib,Bool.and_assoc,cr,C,J]) ⟨rfl,rfl,rfl,rfl,trivial⟩ rfl rfl (fun m=>by repeat' (first|exact trivial|exact cU (Tr.s _)|exact cU (dg _)|exact cU (j3 _)|exact nG|refine And.intro ?_ ?_))
    have UN:decide ((x.args.length:Int)<=6)=true:=by simpa using J
    cases U:gC f.aj x.args with
    |false=>
     rw[U] at iD;refine af ?_;refine cl s5 ?_;refine bI ?_;refine af ?_;refine gc iD ?_;refine aE ?_;(iterate 3 refine z fun _ _=>?_);refine aV ?_;refine gc jQ ?_;refine aJ ?_;refine gc uK ?_;refine af ?_;refine ab (oZ ?_);refine aE ?_;refine au ?_;refine ab ?_;exact nF (r:={ x with kind:=0,name:=.empty,args:=[],a:=0,to:=0,aH:=[],cP:= -1 }) (by simp[gf,h,aR,ib,Bool.and_assoc,cr,C,J,U]) ⟨rfl,rfl,rfl,rfl,trivial⟩ rfl rfl (fun m=>by repeat' (first|exact trivial|exact cU (Tr.s _)|exact cU (dg _)|exact cU (j3 _)|exact nG|refine And.intro ?_ ?_))
    |true=>
     rw[U] at iD;by_cases X:x.a= -1
     .have cM:(x.a== -1)=true:=by simpa using X
      refine af ?_;refine cl s5 ?_;refine bI ?_;refine af ?_;refine gc iD ?_;refine aE ?_;(iterate 2 refine z fun _ _=>?_);refine bK ?_;refine gc jQ ?_;refine aJ ?_;refine gc uK ?_;refine af ?_;refine ab (oZ ?_);refine aE ?_;refine au ?_;refine ab ?_;exact nF (r:={ x with kind:=0,name:=.empty,args:=[],a:=0,to:=0,aH:=[],cP:= -1 }) (by simp[gf,h,aR,ib,Bool.and_assoc,cr,C,J,U,X]) ⟨rfl,rfl,rfl,rfl,trivial⟩ rfl rfl (fun m=>by repeat' (first|exact trivial|exact cU (Tr.s _)|exact cU (dg _)|exact cU (j3 _)|exact nG|refine And.intro ?_ ?_))
     .have cM:(x.a== -1)=false:=by simpa using X
      refine af ?_;refine cl s5 ?_;refine bI ?_;refine af ?_;refine gc iD ?_;refine bI ?_;refine af ?_;refine Gz afC rfl rfl rfl rfl (acV rfl) ak ?_;refine bK ?_;refine gc jQ ?_;refine aJ ?_;refine gc uK ?_;refine af ?_;refine ab (oZ ?_);refine aE ?_;refine au ?_;refine ab ?_;exact nF (r:={ x with kind:=0,name:=.empty,args:=[],a:=0,to:=0,aH:=[],cP:= -1 }) (by simp[gf,h,aR,ib,Bool.and_assoc,cr,C,J,U,X,vR]) ⟨rfl,rfl,rfl,rfl,trivial⟩ rfl rfl (fun m=>by repeat' (first|exact trivial|exact cU (Tr.s _)|exact cU (dg _)|exact cU (j3 _)|exact nG|refine And.intro ?_ ?_))
  have h6:¬ x.kind=6:=by simpa using h
  clear h;refine ws ?_;refine af ?_;refine ab (av rfl (fun h=>?_) fun h=>?_)
  .have h:x.kind=7:=by simpa using h
   refine ws ?_;refine af ?_;refine cl s5 ?_;refine bI ?_;refine af ?_;refine gc iD ?_;refine aV ?_;refine gc fA ?_;refine bK ?_;refine gc jQ ?_;refine af ?_;refine ab (oZ ?_);refine bI ?_;refine ab ?_;exact nF (r:={ x with kind:=0,name:=.empty,args:=[],a:=0,to:=0 }) (by simp[gf,h,aR,ib,Bool.and_assoc,cr]) ⟨rfl,rfl,rfl,rfl,trivial⟩ rfl rfl (fun m=>by repeat' (first|exact trivial|exact cU (Tr.s _)|exact cU (dg _)|exact cU (j3 _)|exact nG|refine And.intro ?_ ?_))
  have h7:¬ x.kind=7:=by simpa using h
  clear h;refine ws ?_;refine af ?_;refine ab (av rfl (fun h=>?_) fun h=>?_)
  .have h:x.kind=8:=by simpa using h
   refine ws ?_;have iD:=iD (l:=[x.b]);have K5:∀ {m:Mem},m 3=some (.cells [I x.b] 3)->Sns prog [3] m [sR f,.rs 3 0 1] [sR f,aB [x.b]]:=fun hm=>⟨cU (nk mz mA f),GN hm oS (by rw[c3];rfl) (.cons (.s _) .nil),trivial⟩
   by_cases C:cD f.aj x.a=3
   .have cM:(cD f.aj x.a==3)=true:=by simpa using C
    refine au ?_;refine cl fA ?_;refine bK ?_;refine Gz iD rfl rfl rfl rfl (K5 rfl) ak ?_;refine aV ?_;refine gc jQ ?_;refine aV ?_;refine gc jQ ?_;refine aJ ?_;refine gc uK ?_;refine af ?_;refine ab (oZ ?_);refine aE ?_;refine au ?_;refine ab ?_;exact nF (r:={ x with kind:=0,a:=0,b:=0,to:=0,fS:=0,aH:=[],cP:= -1 }) (by simp[gf,h,aR,ib,Bool.and_assoc,cr,C,vR]) ⟨rfl,rfl,rfl,rfl,trivial⟩ rfl rfl (fun m=>by repeat' (first|exact trivial|exact cU (Tr.s _)|exact cU (dg _)|exact cU (j3 _)|exact nG|refine And.intro ?_ ?_))
   .have cM:(cD f.aj x.a==3)=false:=by simpa using C
    refine au ?_;refine cl fA ?_;refine aV ?_;(iterate 2 refine z fun _ _=>?_);refine aV ?_;refine gc jQ ?_;refine aV ?_;refine gc jQ ?_;refine aJ ?_;refine gc uK ?_;refine af ?_;refine ab (oZ ?_);refine aE ?_;refine au ?_;refine ab ?_;exact nF (r:={ x with kind:=0,a:=0,b:=0,to:=0,fS:=0,aH:=[],cP:= -1 }) (by simp[gf,h,aR,ib,Bool.and_assoc,cr,C]) ⟨rfl,rfl,rfl,rfl,trivial⟩ rfl rfl (fun m=>by repeat' (first|exact trivial|exact cU (Tr.s _)|exact cU (dg _)|exact cU (j3 _)|exact nG|refine And.intro ?_ ?_))
  have h8:¬ x.kind=8:=by simpa using h
  clear h;refine ws ?_;refine af ?_;refine ab (av rfl (fun h=>?_) fun h=>?_)
  .have h:x.kind=9:=by simpa using h
   refine Pw Yt ?_;refine dk ?_;refine gc fA ?_;refine aE ?_;refine gc jQ ?_;refine bK ?_;refine a8 bf ?_;exact nF (r:={ x with kind:=0,a:=0,to:=0 }) (by simp[gf,h,aR,ib,Bool.and_assoc,cr]) ⟨rfl,rfl,rfl,rfl,trivial⟩ rfl rfl (fun m=>by repeat' (first|exact trivial|exact cU (Tr.s _)|exact cU (dg _)|exact cU (j3 _)|exact nG|refine And.intro ?_ ?_))
  .have h9:¬ x.kind=9:=by simpa using h
   refine Jh ?_;exact nF (r:={ x with kind:=0 }) (by simp[gf,h1,h2,h3,h4,h5,h6,h7,h8,h9]) ⟨rfl,rfl,rfl,rfl,trivial⟩ rfl rfl (fun m=>by repeat' (first|exact trivial|exact cU (Tr.s _)|exact cU (dg _)|exact cU (j3 _)|exact nG|refine And.intro ?_ ?_))
 .obtain⟨cells,n,hg,hl,hs⟩:=hs;refine⟨_,hg,ao ?_⟩;have tu:(cells.drop 0).take 15=cells:=by rw[List.drop_zero,dn oG]
  have L3:=L3 (x:=(gf f x).2);have afD:∀ {m:Mem},m 2=m 2->Sns prog [2] m [.agg ((cells.drop 0).take 15)] [.agg (bd (gf f x).2)]:=fun {m} _=>⟨acW (by rw[tu];exact hs m),trivial⟩
  have he:jI f x=((gf f x).1&&zv (gf f x).2):=rfl;generalize (gf f x).1=ok at he;cases ok with
  |true=>
   refine au ?_;refine Gz L3 rfl rfl rfl rfl (afD rfl) ak ?_;refine af ?_;refine ab (ax (d:=.s (.bool _)) rfl ?_);rw[he];simp
  |false=>
   refine af ?_;(iterate 2 refine z fun _ _=>?_);refine af ?_;refine ab (ax (d:=.s (.bool _)) rfl ?_);rw[he];simp
theorem vZ{n:Int}(hn: -1000000<=n/\n<=1000000):PCall prog 244 [I n] (I (kP n)):=by
 refine bc Uo (by simp[Tr.s]) (Tr.s _) ?_;rw[afN];refine ws ?_;refine SS ?_;refine er ?_;refine au ?_;exact ab (ax rfl rfl)
theorem og{x:a7}:PCall prog 139 [.agg (a9 x)] (I (bT x)):=by
 have aZ:∀ a∈[D.agg (a9 x)],Tr a:=.cons (.agg (mg x)) .nil;refine bc Up aZ (Tr.s _) ?_;rw[afO];refine aw ?_;refine af ?_;refine ab (aI (bw [(0,a9 x,66)] eH (l:=[(1,.pt (a9 x))]) eH) (aC (ao ?_)));refine af ?_;refine ab (l8 ?_);refine ew (fun s=>Ghost prog s ⟨az [(1,.pt (a9 x)),(4,U8 x.op),(5,B (aN l9 x.op))],fun _=>none,1⟩) (ao ?_) fun s hg=>⟨_,hg,?_⟩
 .refine af ?_;refine ab (av rfl (fun h=>bj ?_) fun e1=>ao ?_)
  .have h:x.op=1:=by simpa using h
   refine aq ⟨rfl,rfl,?_,trivial⟩;show D.s (.bool (x.op==1))=_;rw[h];rfl
  refine af ?_;refine ab (av rfl (fun h=>bj ?_) fun e2=>ao ?_)
  .have h:x.op=2:=by simpa using h
   refine aq ⟨rfl,rfl,?_,trivial⟩;show D.s (.bool (x.op==2))=_;rw[h];rfl
  refine af ?_;refine ab (av rfl (fun h=>bj ?_) fun e3=>ao ?_)
  .have h:x.op=3:=by simpa using h
   refine aq ⟨rfl,rfl,?_,trivial⟩;show D.s (.bool (x.op==3))=_;rw[h];rfl
  refine af ?_;refine ab (av rfl (fun h=>bj ?_) fun e4=>ao ?_)
  .have h:x.op=4:=by simpa using h
   refine aq ⟨rfl,rfl,?_,trivial⟩;show D.s (.bool (x.op==4))=_;rw[h];rfl
  refine af ?_;refine ab (av rfl (fun h=>bj ?_) fun e5=>ao ?_)
  .have h:x.op=5:=by simpa using h
   refine aq ⟨rfl,rfl,?_,trivial⟩;show D.s (.bool (x.op==5))=_;rw[h];rfl
  refine af ?_;refine ab (av rfl (fun h=>bj ?_) fun e6=>ao ?_)
  .have h:x.op=6:=by simpa using h
   refine aq ⟨rfl,rfl,?_,trivial⟩;show D.s (.bool (x.op==6))=_;rw[h];rfl
  refine af ?_;refine ab (av rfl (fun h=>bj ?_) fun e7=>ao ?_)
  .have h:x.op=7:=by simpa using h
   refine aq ⟨rfl,rfl,?_,trivial⟩;show D.s (.bool (x.op==7))=_;rw[h];rfl
  refine af ?_;refine ab (av rfl (fun h=>bj ?_) fun e8=>ao ?_)
  .have h:x.op=8:=by simpa using h
   refine aq ⟨rfl,rfl,?_,trivial⟩;show D.s (.bool (x.op==8))=_;rw[h];rfl
  refine af ?_;refine ab (av rfl (fun h=>bj ?_) fun e9=>ao ?_)
  .have h:x.op=9:=by simpa using h
   refine aq ⟨rfl,rfl,?_,trivial⟩;show D.s (.bool (x.op==9))=_;rw[h];rfl
  refine af ?_;refine ab (av rfl (fun h=>bj ?_) fun U=>ao ?_)
  .have h:x.op=10:=by simpa using h
   refine aq ⟨rfl,rfl,?_,trivial⟩;show D.s (.bool (x.op==10))=_;rw[h];rfl
  refine af ?_;refine ab (av rfl (fun h=>bj ?_) fun wK=>ao ?_)
  .have h:x.op=11:=by simpa using h
   refine aq ⟨rfl,rfl,?_,trivial⟩;show D.s (.bool (x.op==11))=_;rw[h];rfl
  refine af ?_;refine ab (av rfl (fun h=>bj ?_) fun wL=>ao ?_)
  .have h:x.op=13:=by simpa using h
   refine aq ⟨rfl,rfl,?_,trivial⟩;show D.s (.bool (x.op==13))=_;rw[h];rfl
  refine af ?_;refine ab (av rfl (fun h=>bj ?_) fun C=>ao ?_)
  .have h:x.op=14:=by simpa using h
   refine aq ⟨rfl,rfl,?_,trivial⟩;show D.s (.bool (x.op==14))=_;rw[h];rfl
  refine af ?_;refine ab (av rfl (fun h=>bj ?_) fun Fp=>lM ?_)
  .have h:x.op=17:=by simpa using h
   refine aq ⟨rfl,rfl,?_,trivial⟩;show D.s (.bool (x.op==17))=_;rw[h];rfl
  refine af ?_;refine ab ?_;refine aq ⟨rfl,rfl,?_,trivial⟩;show D.s (.bool (x.op==19))=_;simp[aN,l9,e1,e2,e3,e4,e5,e6,e7,e8,e9,U,wK,wL,C,Fp]
 refine av rfl (fun h1=>?_) fun h1=>?_
 .refine ws ?_;refine au ?_;refine ab (aT (bH (aL (ax (d:=I x.to) rfl ?_))));simp[bT,h1]
 refine ew (fun s=>Ghost prog s ⟨az [(1,.pt (a9 x)),(4,U8 x.op),(23,B (aN oY x.op))],fun _=>none,1⟩) (ao ?_) fun s hg=>⟨_,hg,?_⟩
 .refine af ?_;refine ab (av rfl (fun h=>bj ?_) fun wM=>ao ?_)
  .have h:x.op=30:=by simpa using h
   refine aq ⟨rfl,rfl,?_,trivial⟩;show D.s (.bool (x.op==30))=_;rw[h];rfl
  refine af ?_;refine ab (av rfl (fun h=>bj ?_) fun wN=>ao ?_)
  .have h:x.op=31:=by simpa using h
   refine aq ⟨rfl,rfl,?_,trivial⟩;show D.s (.bool (x.op==31))=_;rw[h];rfl
  refine af ?_;refine ab (av rfl (fun h=>bj ?_) fun wO=>ao ?_)
  .have h:x.op=32:=by simpa using h
   refine aq ⟨rfl,rfl,?_,trivial⟩;show D.s (.bool (x.op==32))=_;rw[h];rfl
  refine af ?_;refine ab (av rfl (fun h=>bj ?_) fun wP=>ao ?_)
  .have h:x.op=33:=by simpa using h
   refine aq ⟨rfl,rfl,?_,trivial⟩;show D.s (.bool (x.op==33))=_;rw[h];rfl
  refine af ?_;refine ab (av rfl (fun h=>bj ?_) fun J=>ao ?_)
  .have h:x.op=34:=by simpa using h
   refine aq ⟨rfl,rfl,?_,trivial⟩;show D.s (.bool (x.op==34))=_;rw[h];rfl
  refine af ?_;refine ab (av rfl (fun h=>bj ?_) fun X=>lM ?_)
  .have h:x.op=36:=by simpa using h
   refine aq ⟨rfl,rfl,?_,trivial⟩;show D.s (.bool (x.op==36))=_;rw[h];rfl
  refine af ?_;refine ab ?_;refine aq ⟨rfl,rfl,?_,trivial⟩;show D.s (.bool (x.op==37))=_;simp[aN,oY,wM,wN,wO,wP,J,X]
 refine av rfl (fun h2=>?_) fun h2=>?_
 .refine ws ?_;refine au ?_;refine ab (aT (bH (aL (ax (d:=I x.to) rfl ?_))));simp[bT,h2]
 refine lL (ao ?_);refine SS ?_;refine ab (ax (d:=I (-1)) rfl ?_);simp[bT,h1,h2]
theorem BG{x:Argus.End}:PCall prog 175 [.agg (bd x)] (I (eg x)):=by
 have C:∀ a∈[D.agg (bd x)],Tr a:=.cons (.agg (jF x)) .nil;have og:=og (x:=x.ins);refine bc Uq C (Tr.s _) ?_;rw[afP];refine aw ?_;refine af ?_;refine ab (aI (bw [(0,bd x,69)] eH (l:=[(1,.pt (bd x))]) eH) (aC (ao ?_)));refine af ?_;refine ab (l8 (ao ?_));refine af ?_;refine ab (av rfl (fun h1=>?_) fun h1=>?_)
 .have h1:x.kind=5:=by simpa using h1
  refine ws ?_;refine af ?_;refine cl og ?_;refine SS ?_;refine ab (aT (bH (aL (ax (d:=I (bT x.ins)) rfl ?_))));simp[eg,h1]
 have h1:¬ x.kind=5:=by simpa using h1
 refine ew (fun s=>Ghost prog s ⟨az [(1,.pt (bd x)),(4,U8 x.kind),(10,B (aN [6,7] x.kind))],fun _=>none,1⟩) (ao ?_) fun s hg=>⟨_,hg,?_⟩
 .refine af ?_;refine ab (av rfl (fun h=>bj ?_) fun e6=>lM ?_)
  .have h:x.kind=6:=by simpa using h
   refine aq ⟨rfl,rfl,?_,trivial⟩;show D.s (.bool (x.kind==6))=_;rw[h];rfl
  refine af ?_;refine ab ?_;refine aq ⟨rfl,rfl,?_,trivial⟩;show D.s (.bool (x.kind==7))=_;simp[aN,e6]
 refine av rfl (fun h2=>?_) fun h2=>?_
 .refine ws ?_;refine au ?_;refine ab (aT (bH (aL (ax (d:=I x.a) rfl ?_))));simp[eg,h1,h2]
 refine ws ?_;refine af ?_;refine ab (av rfl (fun h3=>?_) fun h3=>?_)
 .have h3:x.kind=8:=by simpa using h3
  refine ws ?_;refine au ?_;refine ab (aT (bH (aL (ax (d:=I x.b) rfl ?_))));simp[eg,h2,h3];simp[aN]
 have h3:¬ x.kind=8:=by simpa using h3
 refine lL (ao ?_);refine SS ?_;refine ab (ax (d:=I (-1)) rfl ?_);simp[eg,h1,h2,h3]
theorem BS{l:List Int}(hl:l.length<=100000):PCall prog 105 [aB l] (aB l):=by
 have J:∀ a∈[aB l],Tr a:=.cons (dg _) .nil;refine bc Ur J (dg _) ?_;rw[afQ];have sZ:(l.map I).take (l.length*1)=l.map I:=dn oS
 have last:AW prog noY true (.seq (.region 3 (Z w8 3) false) .ret) (retQ prog [.tmp 2] fun d x=>d=aB l) ⟨az [(0,aB l)],fun _=>none,0⟩:=by
  refine aw ?_;refine aJ ?_;refine ab (aI (bw [(1,l.map I,3)] eH (l:=[(2,aB l)]) ⟨?_,trivial⟩) (ax rfl rfl));show tf _ [(1,l.map I,3)] (.rs 1 0 (0+l.length))=.sl (l.map I) l.length;rw[Nat.zero_add];exact lb c3 (dn oS)
 refine ws ?_;refine SS ?_;refine ab ?_;refine ew (fun s=>Ghost prog s ⟨az [(0,aB l)],fun _=>none,0⟩) (ao ?_) fun s hg=>⟨_,hg,last⟩
 cases l with
 |nil=>
  refine SS ?_;refine aF (acY rfl) ak V.h ?_;refine ab (abx rfl (aw ?_) (bj (aq eH)));refine SS ?_;exact ab (aI (yZ (n0:=2) rfl) (aT (aL (ax rfl rfl))))
 |cons a l=>
  have C:(a::l).length≠0:=by simp
  refine SS ?_;refine aF (acZ rfl C) ak V.h ?_;exact ab (av rfl (fun h=>oH) fun h=>bj (aq eH))
theorem qj{x:a7}(hx:x.op=10\/x.op=38->x.args.length<=1000):PCall prog 140 [.agg (a9 x)] (aB (bU x)):=by
 have aZ:∀ a∈[D.agg (a9 x)],Tr a:=.cons (.agg (mg x)) .nil;refine bc Us aZ (dg _) ?_;rw[afR];refine aw ?_;refine af ?_;refine ab (aI (bw [(0,a9 x,66)] eH (l:=[(1,.pt (a9 x))]) eH) (aC (ao ?_)));refine af ?_;refine ab (l8 ?_);refine ew (fun s=>Ghost prog s ⟨az [(1,.pt (a9 x)),(4,U8 x.op),(5,B (aN n4 x.op))],fun _=>none,1⟩) (ao ?_) fun s hg=>⟨_,hg,?_⟩
 .refine af ?_;refine ab (av rfl (fun h=>bj ?_) fun e2=>ao ?_)
  .have h:x.op=2:=by simpa using h
   refine aq ⟨rfl,rfl,?_,trivial⟩;show D.s (.bool (x.op==2))=_;rw[h];rfl
  refine af ?_;refine ab (av rfl (fun h=>bj ?_) fun e8=>ao ?_)
  .have h:x.op=8:=by simpa using h
   refine aq ⟨rfl,rfl,?_,trivial⟩;show D.s (.bool (x.op==8))=_;rw[h];rfl
  refine af ?_;refine ab (av rfl (fun h=>bj ?_) fun wK=>ao ?_)
  .have h:x.op=11:=by simpa using h
   refine aq ⟨rfl,rfl,?_,trivial⟩;show D.s (.bool (x.op==11))=_;rw[h];rfl
  refine af ?_;refine ab (av rfl (fun h=>bj ?_) fun wL=>ao ?_)
  .have h:x.op=13:=by simpa using h
   refine aq ⟨rfl,rfl,?_,trivial⟩;show D.s (.bool (x.op==13))=_;rw[h];rfl
  refine af ?_;refine ab (av rfl (fun h=>bj ?_) fun C=>ao ?_)
  .have h:x.op=14:=by simpa using h
   refine aq ⟨rfl,rfl,?_,trivial⟩;show D.s (.bool (x.op==14))=_;rw[h];rfl
  refine af ?_;refine ab (av rfl (fun h=>bj ?_) fun Fq=>ao ?_)
  .have h:x.op=15:=by simpa using h
   refine aq ⟨rfl,rfl,?_,trivial⟩;show D.s (.bool (x.op==15))=_;rw[h];rfl
  refine af ?_;refine ab (av rfl (fun h=>bj ?_) fun Fs=>ao ?_)
  .have h:x.op=16:=by simpa using h
   refine aq ⟨rfl,rfl,?_,trivial⟩;show D.s (.bool (x.op==16))=_;rw[h];rfl
  refine af ?_;refine ab (av rfl (fun h=>bj ?_) fun U=>lM ?_)
  .have h:x.op=18:=by simpa using h
   refine aq ⟨rfl,rfl,?_,trivial⟩;show D.s (.bool (x.op==18))=_;rw[h];rfl
  refine af ?_;refine ab ?_;refine aq ⟨rfl,rfl,?_,trivial⟩;show D.s (.bool (x.op==36))=_;simp[aN,n4,e2,e8,wK,wL,C,Fq,Fs,U]
 refine av rfl (fun h1=>?_) fun h1=>?_
 .refine aw ?_;refine aJ ?_;refine ab (aI (bw [(1,([x.a]).map I,3)] eH (l:=[(2,aB ([x.a]))]) ⟨lb c3 rfl,trivial⟩) (aT (bH (aL (ax (d:=aB ([x.a])) rfl ?_)))));exact congrArg aB (by unfold bU;rw[if_pos h1])
 refine ew (fun s=>Ghost prog s ⟨az [(1,.pt (a9 x)),(4,U8 x.op),(18,B (aN q9 x.op))],fun _=>none,1⟩) (ao ?_) fun s hg=>⟨_,hg,?_⟩
 .refine af ?_;refine ab (av rfl (fun h=>bj ?_) fun e3=>ao ?_)
  .have h:x.op=3:=by simpa using h
   refine aq ⟨rfl,rfl,?_,trivial⟩;show D.s (.bool (x.op==3))=_;rw[h];rfl
  refine af ?_;refine ab (av rfl (fun h=>bj ?_) fun e4=>ao ?_)
  .have h:x.op=4:=by simpa using h
   refine aq ⟨rfl,rfl,?_,trivial⟩;show D.s (.bool (x.op==4))=_;rw[h];rfl
  refine af ?_;refine ab (av rfl (fun h=>bj ?_) fun e5=>ao ?_)
  .have h:x.op=5:=by simpa using h
   refine aq ⟨rfl,rfl,?_,trivial⟩;show D.s (.bool (x.op==5))=_;rw[h];rfl
  refine af ?_;refine ab (av rfl (fun h=>bj ?_) fun e6=>ao ?_)
  .have h:x.op=6:=by simpa using h
   refine aq ⟨rfl,rfl,?_,trivial⟩;show D.s (.bool (x.op==6))=_;rw[h];rfl
  refine af ?_;refine ab (av rfl (fun h=>bj ?_) fun e7=>ao ?_)
  .have h:x.op=7:=by simpa using h
   refine aq ⟨rfl,rfl,?_,trivial⟩;show D.s (.bool (x.op==7))=_;rw[h];rfl
  refine af ?_;refine ab (av rfl (fun h=>bj ?_) fun X=>ao ?_)
  .have h:x.op=12:=by simpa using h
   refine aq ⟨rfl,rfl,?_,trivial⟩;show D.s (.bool (x.op==12))=_;rw[h];rfl
  refine af ?_;refine ab (av rfl (fun h=>bj ?_) fun wM=>ao ?_)
  .have h:x.op=30:=by simpa using h
   refine aq ⟨rfl,rfl,?_,trivial⟩;show D.s (.bool (x.op==30))=_;rw[h];rfl
  refine af ?_;refine ab (av rfl (fun h=>bj ?_) fun wN=>ao ?_)
  .have h:x.op=31:=by simpa using h
   refine aq ⟨rfl,rfl,?_,trivial⟩;show D.s (.bool (x.op==31))=_;rw[h];rfl
  refine af ?_;refine ab (av rfl (fun h=>bj ?_) fun wO=>ao ?_)
  .have h:x.op=32:=by simpa using h
   refine aq ⟨rfl,rfl,?_,trivial⟩;show D.s (.bool (x.op==32))=_;rw[h];rfl
  refine af ?_;refine ab (av rfl (fun h=>bj ?_) fun wP=>ao ?_)
  .have h:x.op=33:=by simpa using h
   refine aq ⟨rfl,rfl,?_,trivial⟩;show D.s (.bool (x.op==33))=_;rw[h];rfl
  refine af ?_;refine ab (av rfl (fun h=>bj ?_) fun J=>ao ?_)
  .have h:x.op=34:=by simpa using h
   refine aq ⟨rfl,rfl,?_,trivial⟩;show D.s (.bool (x.op==34))=_;rw[h];rfl
  refine af ?_;refine ab (av rfl (fun h=>bj ?_) fun Nl=>lM ?_)
  .have h:x.op=35:=by simpa using h
   refine aq ⟨rfl,rfl,?_,trivial⟩;show D.s (.bool (x.op==35))=_;rw[h];rfl
  refine af ?_;refine ab ?_;refine aq ⟨rfl,rfl,?_,trivial⟩;show D.s (.bool (x.op==37))=_;simp[aN,q9,e3,e4,e5,e6,e7,X,wM,wN,wO,wP,J,Nl]
 refine av rfl (fun h2=>?_) fun h2=>?_
 .refine aw ?_;refine bK ?_;refine ab (aI (bw [(1,([x.a,x.b]).map I,3)] eH (l:=[(2,aB ([x.a,x.b]))]) ⟨lb c3 rfl,trivial⟩) (aT (bH (aL (ax (d:=aB ([x.a,x.b])) rfl ?_)))));exact congrArg aB (by unfold bU;rw[if_neg (by simp[h1]),if_pos h2])
 refine ws ?_;refine af ?_;refine ab (av rfl (fun h3=>?_) fun h3=>?_)
 .have h3:x.op=10:=by simpa using h3
  have BS:=BS (l:=x.args) (by have:=hx (.inl h3);omega);refine ws ?_;refine af ?_;refine cl BS ?_;refine SS ?_;refine ab (aT (bH (aL (ax (d:=aB x.args) rfl ?_))));exact congrArg aB (by unfold bU;rw[if_neg (by simp[h1]),if_neg (by simp[h2]),if_pos h3])
 have h3:¬ x.op=10:=by simpa using h3
 refine ws ?_;refine af ?_;refine ab (av rfl (fun h4=>?_) fun h4=>?_)
 .have h4:x.op=38:=by simpa using h4
  have hl:=hx (.inr h4);have sZ:(x.args.map I).take (x.args.length*1)=x.args.map I:=dn oS;refine aw ?_;refine aE ?_;refine ab (aI (bw [(2,(x.a::x.b::x.args).map I,3)] eH (l:=[(2,aB (x.a::x.b::x.args))]) ⟨?_,trivial⟩) (aT (bH (aL (ax (d:=aB (x.a::x.b::x.args)) rfl ?_)))))
  .show tf _ [(2,_,3)] (.rs 2 0 (2+x.args.length))=_;refine(lb c3 (es:=(x.a::x.b::x.args).map I) (dn oP)).trans ?_;rw[Nat.add_comm];rfl
  .exact congrArg aB (by unfold bU;rw[if_neg (by simp[h1]),if_neg (by simp[h2]),if_neg h3,if_pos h4])
 have h4:¬ x.op=38:=by simpa using h4
 refine lL (aw ?_);refine SS ?_;refine ab (aI (yZ (n0:=2) rfl) (ax (d:=aB []) rfl ?_));exact congrArg aB (by unfold bU;rw[if_neg (by simp[h1]),if_neg (by simp[h2]),if_neg h3,if_neg h4])
theorem uF{x:Argus.End}(hx:x.kind=5->x.ins.op=10\/x.ins.op=38->x.ins.args.length<=1000)(hy:x.kind=6\/x.kind=7->x.args.length<=1000):PCall prog 137 [.agg (bd x)] (aB (bS x)):=by
 have C:∀ a∈[D.agg (bd x)],Tr a:=.cons (.agg (jF x)) .nil;refine bc Ut C (dg _) ?_;rw[afS];refine aw ?_;refine af ?_;refine ab (aI (bw [(0,bd x,69)] eH (l:=[(1,.pt (bd x))]) eH) (aC (ao ?_)));refine af ?_;refine ab (l8 ?_);refine ew (fun s=>Ghost prog s ⟨az [(1,.pt (bd x)),(4,U8 x.kind),(5,B (aN [2,8,9] x.kind))],fun _=>none,1⟩) (ao ?_) fun s hg=>⟨_,hg,?_⟩
 .refine af ?_;refine ab (av rfl (fun h=>bj ?_) fun e2=>ao ?_)
  .have h:x.kind=2:=by simpa using h
   refine aq ⟨rfl,rfl,?_,trivial⟩;show D.s (.bool (x.kind==2))=_;rw[h];rfl
  refine af ?_;refine ab (av rfl (fun h=>bj ?_) fun e8=>lM ?_)
  .have h:x.kind=8:=by simpa using h
   refine aq ⟨rfl,rfl,?_,trivial⟩;show D.s (.bool (x.kind==8))=_;rw[h];rfl
  refine af ?_;refine ab ?_;refine aq ⟨rfl,rfl,?_,trivial⟩;show D.s (.bool (x.kind==9))=_;simp[aN,e2,e8]
 refine av rfl (fun h1=>?_) fun h1=>?_
 .refine aw ?_;refine aJ ?_;refine ab (aI (bw [(1,([x.a]).map I,3)] eH (l:=[(2,aB ([x.a]))]) ⟨lb c3 rfl,trivial⟩) (aT (bH (aL (ax (d:=aB ([x.a])) rfl ?_)))));exact congrArg aB (by unfold bS;rw[if_pos h1])
 refine ws ?_;refine af ?_;refine ab (av rfl (fun h2=>?_) fun h2=>?_)
 .have h2:x.kind=3:=by simpa using h2
  refine ws ?_;refine au ?_;refine ab (av rfl (fun h3=>?_) fun h3=>?_)
  .have h3:¬ x.a= -1:=by simpa[bne,ib] using h3
   refine aw ?_;refine aJ ?_;refine ab (aI (bw [(1,([x.a]).map I,3)] eH (l:=[(2,aB ([x.a]))]) ⟨lb c3 rfl,trivial⟩) (aT (bH (aL (ax (d:=aB ([x.a])) rfl ?_)))));exact congrArg aB (by unfold bS;rw[if_neg (by simp[h1]),if_pos h2,if_pos h3])
  .have h3:x.a= -1:=by simpa[bne,ib] using h3
   refine lL (aw ?_);refine SS ?_;refine ab (aI (yZ (n0:=2) rfl) (ax (d:=aB []) rfl ?_));exact congrArg aB (by unfold bS;rw[if_neg (by simp[h1]),if_pos h2,if_neg (by simp[h3])])
 have h2:¬ x.kind=3:=by simpa using h2
 refine ws ?_;refine af ?_;refine ab (av rfl (fun h3=>?_) fun h3=>?_)
 .have h3:x.kind=5:=by simpa using h3
  have qj:=qj (x:=x.ins) (hx h3);refine ws ?_;refine af ?_;refine cl qj ?_;refine SS ?_;refine ab (aT (bH (aL (ax (d:=aB (bU x.ins)) rfl ?_))));exact congrArg aB (by unfold bS;rw[if_neg (by simp[h1]),if_neg h2,if_pos h3])
 have h3:¬ x.kind=5:=by simpa using h3
 refine ew (fun s=>Ghost prog s ⟨az [(1,.pt (bd x)),(4,U8 x.kind),(25,B (aN [6,7] x.kind))],fun _=>none,1⟩) (ao ?_) fun s hg=>⟨_,hg,?_⟩
 .refine af ?_;refine ab (av rfl (fun h=>bj ?_) fun e6=>lM ?_)
  .have h:x.kind=6:=by simpa using h
   refine aq ⟨rfl,rfl,?_,trivial⟩;show D.s (.bool (x.kind==6))=_;rw[h];rfl
  refine af ?_;refine ab ?_;refine aq ⟨rfl,rfl,?_,trivial⟩;show D.s (.bool (x.kind==7))=_;simp[aN,e6]
 refine av rfl (fun h4=>?_) fun h4=>?_
 .have h5:x.kind=6\/x.kind=7:=by simpa[aN] using h4
  have BS:=BS (l:=x.args) (by have:=hy h5;omega);refine ws ?_;refine af ?_;refine cl BS ?_;refine SS ?_;refine ab (aT (bH (aL (ax (d:=aB x.args) rfl ?_))));exact congrArg aB (by unfold bS;rw[if_neg (by simp[h1]),if_neg h2,if_neg h3,if_pos h4])
 refine lL (aw ?_);refine SS ?_;refine ab (aI (yZ (n0:=2) rfl) (ax (d:=aB []) rfl ?_));exact congrArg aB (by unfold bS;rw[if_neg (by simp[h1]),if_neg h2,if_neg h3,if_neg (by simp[h4])])
noncomputable def cx0:Ctx:=⟨fun f=>Em.get f,fun _ _ _=>none,fun _ _=>none⟩
theorem nq:cx0.Ok prog:=⟨mixed,Kj,fun _ _ _ _ h=>oH,fun _ _ _ h=>oH⟩
theorem CJ{off:Nat}{vs cs:List D}(hv:vs.length=20)(hl:off+20<=cs.length)(C:vs.all D.one=true):tyOk prog 231=true/\vs.length=prog.cellsOf 231/\off+prog.cellsOf 231<=cs.length/\vs.all D.one=true:=by
 rw[s3];exact⟨t231,hv,hl,C⟩
theorem lS{w:List Int}{m:Nat}(J:w.length=20)(hm:m<1280):PCall prog 200 [dI w,I m] (B (ku w m)):=by
 have C:∀ a∈[dI w,I m],Tr a:=.cons (kx _) (.cons (.s _) .nil);have hi:w[m / 64]? =some w[m / 64]:=aG oG;have hg:w.getD (m / 64) 0=w[m / 64]:=by simp[bF,hi]
 have Ej:=D4 (m:=m) oG;have Ek:=D5 m;have kd:=gu (f:=bp) hi;refine bc S' C (Tr.s _) ?_;rw[adG];refine ws ?_;refine af ?_;refine er ?_;refine bK ?_;refine aF (SN rfl rfl) ak oG ?_;refine au ?_;refine ab (ax (d:=.s (.bool _)) rfl ?_);unfold ku;rw[hg];rfl
theorem rI{w:List Int}{n:Int}(J:w.length=20)(hn: -1000000<=n/\n<1280):PCall prog 242 [dI w,I n] (dI (hU w n)):=by
 have C:∀ a∈[dI w,I n],Tr a:=.cons (kx _) (.cons (.s _) .nil);refine bc Ta C (kx _) ?_;rw[adH];refine ws ?_;refine af ?_;refine ab (aC (ao ?_));by_cases h0:0<=n
 .obtain⟨m,rfl⟩:=cN h0;have hm:m<1280:=by omega
  have hi:w[m / 64]? =some w[m / 64]:=aG oG;have hg:w.getD (m / 64) 0=w[m / 64]:=by simp[bF,hi]
  have Ej:=D4 (m:=m) oG;have Ek:=D5 m;have kd:=gu (f:=bp) hi;have uD:decide (0<=(m:Int))=true:=by simp
  refine af ?_;refine ab (gU (c8 YV ?_));refine bI ?_;refine af ?_;refine a8 bf (ao ?_);refine af ?_;refine ab (jH (jZ rfl rfl vY s3 (iI (by first|rfl|simp;omega)) t231 oP) ?_);simp only[hU,h0,if_true,bx,iX,hg,dI,List.map_set];rfl
 .have uD:decide (0<=n)=false:=by simpa using h0
  refine af ?_;refine ab (hP (b7 (ao ?_)));refine af ?_;refine ab (jH (jZ rfl rfl vY s3 (iI oP) t231 oP) ?_);simp only[hU,h0,if_false]
theorem Hb{w v:List Int}(C:w.length=20)(hv:v.length=20):PCall prog 243 [dI w,dI v] (dI (hZ w v)):=by
 have X:∀ a∈[dI w,dI v],Tr a:=.cons (kx _) (.cons (kx _) .nil);refine bc Tb X (kx _) ?_;rw[adI];refine ws ?_;refine au ?_;refine ab (aC (aw ?_));refine SS ?_
 refine ab (bV (fun s=>Ghost prog s ⟨az [(2,.rp 0 0),(3,.rp 1 0),(4,.rp 2 0)],bm [(0,.cells ((hZ w v).map bp) 231),(1,.cells (v.map bp) 231),(2,.cells (List.replicate 20 (bp 0)) 231)],3⟩) (dM (α:=Nat)
  (fun k=>⟨az [(2,.rp 0 0),(3,.rp 1 0),(4,.rp 2 0),(6,I k)],bm [(0,.cells ((fk w v k).map bp) 231),(1,.cells (v.map bp) 231),(2,.cells (List.replicate 20 (bp 0)) 231)],3⟩)
  (fun k=>k<=20) (fun k=>20 - k) 0 (aP eH eH) oG ?_) ?_)
 .intro k hk;refine SS ?_;refine ab ⟨_,rfl,fun h=>?_,fun h=>?_⟩
  .have ap:k<20:=by have h:(k:Int)<20:=by simpa using h
                    omega
   have mL:(fk w v k).length=20:=by simp[C]
   have hi:(fk w v k)[k]? =some (fk w v k)[k]:=aG oG;have hj:v[k]? =some v[k]:=aG oG;have hg:(fk w v k).getD k 0=(fk w v k)[k]:=by simp[bF,hi]
   have J:v.getD k 0=v[k]:=by simp[bF,hj]
   have kd:=gu (f:=bp) hi;have gA:=gu (f:=bp) hj;refine ws ?_;refine af ?_;refine ab (kU YW ?_);refine aV ?_;refine aF (fV rfl rfl gA V.h) ak (fW V.h V.h gA) ?_;refine au ?_;refine a8 bf ?_;refine af ?_;refine ab (aK (k+1) (aP eH ⟨?_,rfl,rfl,trivial⟩) oG oG);rw[up_same];simp only[fk,hg,J,List.map_set];rfl
  .have bh:¬ k<20:=by intro hh;simp at h;omega
   have:k=20:=by omega
   subst this;exact .forget _ _ _ _ fun t=>nX (l:=[(2,.rp 0 0),(3,.rp 1 0),(4,.rp 2 0)]) ⟨rfl,rfl,rfl,trivial⟩ t
 .intro s hg;have U:(hZ w v).length=20:=by simp[C]
  generalize hZ w v=u at hg U ⊢;refine⟨_,hg,ao ?_⟩;refine af ?_;refine ab (jH (jZ rfl rfl vY s3 (iI oP) t231 oP) ?_);rfl
def ahn:Int:=18446744073709551615
theorem Lu:PCall prog 241 [] (dI (List.replicate 20 ahn)):=by
 exact lF nq 100 rfl kr
theorem En{w:List Int}{x:a7}(C:w.length=20)(hn:x.op=18->0<=x.n/\x.n<80)(ht:x.op≠18-> -1000000<=bT x/\bT x<1280):PCall prog 245 [dI w,.agg (a9 x)] (dI (hU w (if x.op=18 then kP x.n else bT x))):=by
 have J:∀ a∈[dI w,.agg (a9 x)],Tr a:=.cons (kx _) (.cons (.agg (mg x)) .nil);refine bc Tc J (kx _) ?_;rw[adJ];refine ws ?_;refine au ?_;refine ab (aC (ao ?_));refine au ?_;refine ab (cH rfl (fun h=>?_) fun h=>b7 (c8 YX ?_))
 .have h:x.op=18:=by simpa using h
  have hx:=hn h;have vZ:=vZ (n:=x.n) oG;have rI:=rI (w:=w) (n:=kP x.n) C (by unfold kP;omega);refine aC (c8 YY ?_);refine au ?_;refine cl vZ ?_;refine cl rI ?_;refine SS ?_;refine a8 bf (cK (jH (jZ rfl rfl vY s3 (iI oP) t231 oP) ?_));simp[h]
 .have h:x.op≠18:=by simpa using h
  have og:=og (x:=x);have rI:=rI (w:=w) (n:=bT x) C (ht h);refine SS ?_;refine aF (dx (vs:=a9 _) rfl rfl V.h V.h rfl) ak (dy V.h V.h (by first|(simp;done)|omega|exact bA rfl)) ?_;refine cl og ?_;refine cl rI ?_;refine SS ?_;refine a8 bf (jH (jZ rfl rfl vY s3 (iI oP) t231 oP) ?_);simp[h]
end Go.Proofs.Tryz.K
namespace Go.Argus
def iw(x:End):Bool:=decide (0<=x.cP)&&aN [5,6,8] x.kind
def cX(x:End):List Int:=if aN [3,4] x.kind then [] else x.to::((if aN [2,8] x.kind then [x.fS] else [])++(x.aH.map (·.to)++(if iw x then [x.cP] else [])))
def qI(x:End):Nat:=if aN [2,8] x.kind then 2 else 1
theorem aak{x:End}(h:aN [3,4] x.kind=false):(cX x)[0]? =some x.to/\(aN [2,8] x.kind=true->(cX x)[1]? =some x.fS)/\(∀ (j:Nat) w,x.aH[j]? =some w->(cX x)[qI x+j]? =some w.to)/\
 (iw x=true->(cX x)[qI x+x.aH.length]? =some x.cP)/\(cX x).length=qI x+x.aH.length+(if iw x then 1 else 0):=by
 unfold cX qI;generalize iw x=c;rw[if_neg (by simp[h])];cases h2:aN [2,8] x.kind with
 |true=>
  refine⟨rfl,fun _=>rfl,fun j w hj=>?_,fun hc=>?_,?_⟩
  .have:j<x.aH.length:=(bL.1 hj).1;simp only[if_true,List.singleton_append];rw[show 2+j=j+1+1 by omega,List.getElem?_cons_succ,List.getElem?_cons_succ,List.getElem?_append_left (by simpa using this)];simp[hj]
  .simp only[if_true,List.singleton_append];rw[show 2+x.aH.length=x.aH.length+1+1 by omega,List.getElem?_cons_succ,List.getElem?_cons_succ,List.getElem?_append_right oS];rw[if_pos hc];simp
  .cases c<;>simp<;>omega
 |false=>
  refine⟨rfl,fun h=>oH,fun j w hj=>?_,fun hc=>?_,?_⟩
  .have:j<x.aH.length:=(bL.1 hj).1;simp only[Bool.false_eq_true,if_false,List.nil_append];rw[show 1+j=j+1 by omega,List.getElem?_cons_succ,List.getElem?_append_left (by simpa using this)];simp[hj]
  .simp only[Bool.false_eq_true,if_false,List.nil_append];rw[show 1+x.aH.length=x.aH.length+1 by omega,List.getElem?_cons_succ,List.getElem?_append_right oS];rw[if_pos hc];simp
  .cases c<;>simp<;>omega
def Be(x:End)(b:Int):Bool:=aR x.to b&&aR ((cX x).count b:Nat) 1
theorem JT(x:End):(cX x).length<=x.aH.length+3:=by
 unfold cX;split
 .simp
 .simp only[List.length_cons,List.length_append,List.length_map];split<;>split<;>simp<;>omega
end Go.Argus
namespace Go.Abs
theorem gv{P:Program}{Y:YSpec}{rf:Bool}{Q:Exit->St->Prop}{st:St}[eD Y]{ops:Array Oper}{i:Nat}(h:AOps P Y ops false [] (gH (Q .normal)) ops.toList st []):AW P Y rf (.region i ops false) Q st:=tN (rf:=rf) (id:=i) (AOps.mF h fun _ h=>h)
section
variable{P:Program}{env:Env}{m:Mem}{nx:Nat}{x y:Operand}{t p:TypeId}{k:IntKind}{n n':Int}
theorem RX(hx:(opd env x).core=.s (.int .i64 n))(hy:(opd env y).core=.s (.int .i64 n')){r:Int}(hd:n - n'=r/\ -9223372036854775808<=r/\r<=9223372036854775807):Ef P (.binOp .sub t x y p) env m nx ⟨IntKind.i64=IntKind.i64,.s (.int .i64 r),[],[],0⟩:=by
 obtain⟨rfl,h⟩:=hd;exact KF hx hy h
theorem kV{j i l:Nat}{e:TypeId}{r:Row}(hx:(opd env x).core=.rs j 0 l)(hy:(opd env y).core=.s (.int k (i:Int)))(hm:m j=some r)(he:elemP P t=e)(C:P.cellsOf e=1):
 Ef P (.indexAddr t x y) env m nx ⟨slT P t=true/\i<l,.rp j i,[],[j],0⟩:=by
 have h:=Gw (P:=P) (env:=env) (m:=m) (nx:=nx) (t:=t) hx hy hm he C;have h1:0+((i:Int)).toNat*1=i:=by simp
 have h2:(slT P t=true/\(0:Int)<=(i:Int)/\(i:Int)<l)=(slT P t=true/\i<l):=by
  apply propext;constructor
  .rintro⟨a,_,b⟩;exact⟨a,oG⟩
  .rintro⟨a,b⟩;exact⟨a,oG,oG⟩
 rw[h1,h2] at h;exact h
theorem la{α:Type}(f:Nat->α)(i:Nat)(a b:α):up (up f i a) i b=up f i b:=by
 funext j;simp only[up];split<;>rfl
variable{Y:YSpec}{rf:Bool}{Q:Exit->St->Prop}{st:St}{id iF i1 i3:Nat}{rc ri:Array Oper}{body:Code}{α:Type}{cf:List (Nat×Nat)}{u:Nat}
theorem acH[eD Y](hi:drawInfo rc=some cf)(S:α->St)(J:α->Prop)(μ:α->Nat)(C:α)(hg:Ghost P st (S C))(U:J C)
 (h:∀ x,J x->AOps P Y rc true cf (gH fun s=>∃ g,opd s.env (.tmp u)=.s (.bool g)/\(g=true->AW P Y rf body (oa iF id (fun s=>AOps P Y ri false [] (gH (ur P S J μ x)) ri.toList s []) Q) s)/\(g=false->Q .normal s)) rc.toList (S x) []):
 ∃ st',Ghost P st st'/\AW P Y rf (.block id (.loop (.seq (.seq (.region i1 rc true) (.cond (.tmp u) .skip (.exit id))) (.seq (.block iF body) (.region i3 ri false))))) Q st':=by
 refine Gf (Q:=blockQ id Q) S J μ C hg U (fun x hx=>?_) (a:=.skip) fun _ h=>h;refine aC (DJ (rf:=rf) (id:=i1) hi (AOps.mF (h x hx) fun s X=>?_));obtain⟨g,h1,h2,h3⟩:=X;refine⟨s,.refl s,cH h1 (fun z3=>?_) fun z4=>?_⟩
 .exact b7 (JP (h2 z3))
 .refine sk ?_;simp only[seqQ,blockQ,if_true];exact h3 z4
theorem jd{l:List (Nat×D)}{m':Mem}(h:jk l env)(hm:m=m'):Ghost P ⟨env,m,nx⟩ ⟨az l,m',nx⟩:=hm▸aq h
end
end Go.Abs
namespace Go.Proofs.Tryz.K
set_option maxRecDepth 10000
theorem v8{x:Argus.End}:PCall prog 156 [.agg (bd x)] (.fn (.func 202) [] [.pt (bd x)]):=by
 have C:∀ a∈[D.agg (bd x)],Tr a:=.cons (.agg (jF x)) .nil;refine bc Td C (.fn oS (.cons (.pt (jF x)) .nil)) ?_;rw[adL];refine aw ?_;refine SS ?_;refine aF (na (v:=.s .nilFunc) rfl) ak trivial ?_;refine ab (aI (bw [(0,bd x,69)] eH (l:=[(1,.pt (bd x))]) eH) (ao ?_));refine af ?_;exact ab (ax rfl rfl)
def MQ(l:Nat)(x:Argus.End)(C:Nat->Mem->Nat->Prop)(n:Nat)(s:St):Prop:=∃ m nx,Ghost prog s ⟨az [(0,.fn (.yield l) [] []),(1,.pt (bd x))],m,nx⟩/\C n m nx
theorem US{x:Argus.End}(hlen:x.aH.length<=100000):SeqA prog 202 [] [.pt (bd x)] ((cX x).map fun n=>[I n]):=by
 refine Ke mixed Te kr fun l X Stop m nx hI GH h0=>?_;rw[adM];by_cases C:aN [3,4] x.kind=true
 .have kp:((cX x).map fun n=>[I n]).length=0:=by simp[cX,C]
  rw[kp];by_cases h3:x.kind=3
  .have cM:(x.kind==3)=true:=by simpa using h3
   refine aC (ao ?_);refine aJ ?_;(iterate 3 refine z fun _ _=>?_);refine af ?_;(iterate 5 refine z fun _ _=>?_);refine SS ?_;refine ab (cH rfl (fun h=>RP (aT (aL (vB (.inl h0))))) fun h=>oH)
  .have h4:x.kind=4:=by simpa[aN,h3] using C
   have cM:(x.kind==3)=false:=by simpa using h3
   have xC:(x.kind==4)=true:=by simpa using h4
   refine aC (ao ?_);refine aE ?_;(iterate 5 refine z fun _ _=>?_);refine SS ?_;refine ab (cH rfl (fun h=>RP (aT (aL (vB (.inl h0))))) fun h=>oH)
 have C:aN [3,4] x.kind=false:=by simpa using C
 obtain⟨x0,x1,xw,xo,xl⟩:=aak C;have J:∀ {k:Nat} {n:Int},(cX x)[k]? =some n->((cX x).map fun n=>[I n])[k]? =some [I n]:=fun h=>by simp[h]
 have sO:((cX x).map fun n=>[I n]).length=qI x+x.aH.length+(if iw x then 1 else 0):=by simpa using xl
 have r6:x.kind≠3/\x.kind≠4:=by simpa[aN] using C
 refine ew (MQ l x X 1) ?_ fun s U=>?_
 .have cM:(x.kind==3)=false:=by simpa using r6.1
  have xC:(x.kind==4)=false:=by simpa using r6.2
  refine ws ?_;refine aE ?_;refine au ?_;refine GO rfl rfl rfl rfl dd ⟨rfl,0,J x0,h0,fun d m' nx' hp=>?_⟩;rcases hp with⟨rfl,hp⟩|⟨rfl,hp⟩
  .refine af ?_;exact ab (av rfl (fun h=>oH) fun h=>bj ⟨m',nx',aq eH,hp⟩)
  .refine af ?_;exact ab (av rfl (fun h=>aT (aL (vB (.inr hp)))) fun h=>oH)
 obtain⟨m1,Wa,hg,h1⟩:=U;refine⟨_,hg,?_⟩;clear hg h0;refine ew (MQ l x X (qI x)) ?_ fun s U=>?_
 .have yes:aN [2,8] x.kind=true->(cX x)[1]? =some x.fS/\qI x=2:=fun h=>⟨x1 h,by simp[qI,h]⟩
  by_cases h2:x.kind=2
  .obtain⟨y1,y2⟩:=yes (by rw[h2];rfl);have cM:(x.kind==2)=true:=by simpa using h2
   refine ws ?_;refine aJ ?_;(iterate 3 refine z fun _ _=>?_);refine aV ?_;refine GO rfl rfl rfl rfl dd ⟨rfl,1,J y1,h1,fun d m' nx' hp=>?_⟩;rcases hp with⟨rfl,hp⟩|⟨rfl,hp⟩
   .refine af ?_;exact ab (av rfl (fun h=>oH) fun h=>bj ⟨m',nx',aq eH,y2▸hp⟩)
   .refine af ?_;exact ab (av rfl (fun h=>aT (aL (vB (.inr hp)))) fun h=>oH)
  .have cM:(x.kind==2)=false:=by simpa using h2
   by_cases h8:x.kind=8
   .obtain⟨y1,y2⟩:=yes (by rw[h8];rfl);have xC:(x.kind==8)=true:=by simpa using h8
    refine ws ?_;refine aE ?_;refine au ?_;refine GO rfl rfl rfl rfl dd ⟨rfl,1,J y1,h1,fun d m' nx' hp=>?_⟩;rcases hp with⟨rfl,hp⟩|⟨rfl,hp⟩
    .refine af ?_;exact ab (av rfl (fun h=>oH) fun h=>bj ⟨m',nx',aq eH,y2▸hp⟩)
    .refine af ?_;exact ab (av rfl (fun h=>aT (aL (vB (.inr hp)))) fun h=>oH)
   .have xC:(x.kind==8)=false:=by simpa using h8
    have hb:qI x=1:=by simp[qI,aN,h2,h8]
    refine ws ?_;refine aE ?_;(iterate 5 refine z fun _ _=>?_);refine SS ?_;exact ab (av rfl (fun h=>oH) fun h=>bj ⟨m1,Wa,aq eH,hb▸h1⟩)
 obtain⟨m2,gX,hg,h2⟩:=U;refine⟨_,hg,?_⟩;clear hg;refine ew (MQ l x X (qI x+x.aH.length)) (aw ?_) fun s U=>?_
 .refine aJ ?_
  refine ab (dM (α:=Nat×Mem×Nat) (fun k=>⟨az [(0,.fn (.yield l) [] []),(1,.pt (bd x)),(36,pQ x.aH),(37,I x.aH.length),(38,I k.1)],k.2.1,k.2.2⟩)
   (fun k=>k.1<=x.aH.length/\X (qI x+k.1) k.2.1 k.2.2) (fun k=>x.aH.length - k.1) (0,m2,gX) (aq eH) ⟨oG,h2⟩ ?_)
  rintro⟨k,m3,Wn⟩ ⟨hk,qy⟩;refine SS ?_;refine ab ⟨_,rfl,fun h=>?_,fun h=>?_⟩
  .have ap:k<x.aH.length:=by simpa using h
   have hx:x.aH[k]? =some x.aH[k]:=by simp[ap]
   generalize x.aH[k]=w at hx;refine ws ?_;refine aJ ?_;refine er ?_;refine au ?_;refine Lp rfl rfl dd ⟨rfl,qI x+k,J (xw k w hx),hI _ _ _ _ _ qy oG (fun i hi=>ag oG (ag oG rfl)),fun d m' nx' hp=>?_⟩;rcases hp with⟨rfl,hp⟩|⟨rfl,hp⟩
   .refine SS ?_;refine ab (av rfl (fun h=>oH) fun h=>ct ?_);refine af ?_;exact ab (aK (k+1,m',nx') (aq eH) ⟨by simp only;omega,hp⟩ (by simp only;omega))
   .refine SS ?_;exact ab (av rfl (fun h=>aT (bR (aL (vB (.inr hp))))) fun h=>oH)
  .have bh:¬ k<x.aH.length:=by simpa using h
   have:k=x.aH.length:=by simp only at hk;omega
   subst this;exact⟨m3,Wn,.forget _ _ _ _ fun t=>nX (l:=[(0,.fn (.yield l) [] []),(1,.pt (bd x))]) ⟨rfl,rfl,trivial⟩ t,qy⟩
 obtain⟨m3,Wn,hg,h3⟩:=U;refine⟨_,hg,ao ?_⟩;refine aE ?_;refine aE ?_;refine ab (av rfl (fun h=>?_) fun h=>?_)
 .have hc:iw x=true:=by
   revert h;unfold iw aN;simp[ib,or_assoc]
  refine gv ?_;refine au ?_;refine Lp rfl rfl dd ⟨rfl,_,J (xo hc),h3,fun d m' nx' hp=>?_⟩;refine ab (ue ?_);rcases hp with⟨rfl,hp⟩|⟨rfl,hp⟩
  .left;rw[sO,if_pos hc];exact hp
  .exact .inr hp
 .have hc:iw x=false:=by
   revert h;unfold iw aN;simp[ib,and_assoc]
  refine ct (ue (.inl ?_));rw[sO,hc];exact h3
theorem Lz{x:Argus.End}{b:Int}(hlen:x.aH.length<=1000):PCall prog 246 [.agg (bd x),I b] (B (Be x b)):=by
 have J:∀ a∈[D.agg (bd x),I b],Tr a:=.cons (.agg (jF x)) (.cons (.s _) .nil);have v8:=v8 (x:=x);have hl:=JT x;refine bc Tf J (Tr.s _) ?_;rw[adN];refine aw ?_;refine au ?_;refine ab (aI (bw [(0,bd x,69),(1,[I b],3)] eH (l:=[(2,.pt (bd x)),(3,.pt [I b])]) eH) (ao ?_));refine SS ?_;refine UT ?_;refine ab ?_;refine ew (fun s=>∃ n',Ghost prog s ⟨az [(2,.pt (bd x)),(3,.pt [I b]),(5,.rp 2 0)],bm [(2,.cells [I ((cX x).count b:Nat)] 3)],n'⟩) (ao ?_) fun s X=>?_
 .refine SS ?_;refine cl v8 ?_;refine ab (nY ?_);refine⟨rfl,trivial,202,[],[.pt (bd x)],(cX x).map (fun n=>[I n]),fun k m nx=>m 2=some (.cells [I (((cX x).take k).count b:Nat)] 3)/\3<=nx,rfl,US oG,?_,⟨rfl,oS⟩,?_,?_⟩
  .intro y hy;obtain⟨n,_,rfl⟩:=List.mem_map.1 hy;exact⟨rfl,.cons (.s _) .nil⟩
  .rintro k m nx y hy ⟨ay,U⟩;simp only[List.getElem?_map,dw] at hy;obtain⟨n,hn,rfl⟩:=hy;have hk:k<(cX x).length:=(bL.1 hn).1
   have hc:((cX x).take (k+1)).count b=((cX x).take k).count b+(if n=b then 1 else 0):=by
    rw[List.take_add_one,hn,List.count_append];by_cases e:n=b
    .subst e;simp
    .simp[e]
   have C:((cX x).take k).count b<=k:=Nat.le_trans List.count_le_length oP;generalize ((cX x).take k).count b=c at ay hc C;refine gv ?_;refine SS ?_;refine ab (show AW _ _ _ _ _ _ from nY (ao ?_));refine au ?_;refine ab (av rfl (fun h=>?_) fun h=>?_)
   .have h:n=b:=by simpa using h
    refine gv ?_;refine af ?_;refine cJ (iA (d:=.s (.int _ _)) (cs':=[_]) rfl rfl ay rfl rfl) ak (dQ V.h V.h (by first|(simp;done)|exact⟨rfl,bA rfl⟩|(simp;omega)) rfl) ?_;refine ab ?_;refine⟨?_,oM⟩;dsimp only;refine(up_same _ _ _).trans ?_;rw[hc,if_pos h];simp
   .have h:¬ n=b:=by simpa using h
    exact ct ⟨by rw[hc,if_neg h];exact ay,U⟩
  .rintro m nx ⟨h1,h2⟩;refine⟨nx,aP eH ⟨?_,trivial⟩⟩;rw[h1,List.length_map,List.take_length]
 obtain⟨n',hg⟩:=X;refine⟨_,hg,ao ?_⟩;refine aE ?_;refine ab (ax (d:=.s (.bool _)) rfl ?_);simp[Be,aR,ib]
theorem LA{f:FuncId}{cs:List D}{xs:List Int}(J:SeqA prog f [] cs (xs.map fun n=>[I n]))(ht:Tr (.fn (.func f) [] cs))(hlen:xs.length<=100000):OCall prog 258 [.z,.fn (.func f) [] cs] (xs.map I) xs.length 3:=by
 have aZ:∀ a∈[D.z,.fn (.func f) [] cs],Tr a:=.cons .z (.cons ht .nil);refine Af Tg aZ (.map fun _=>.s _) ?_;rw[adO];refine ws ?_;refine fP (Bb (d:=.z) rfl rfl) ak rfl ?_;refine SS ?_;refine ab ?_;refine ew (fun s=>(xs=[]/\∃ n',Ghost prog s ⟨az [(2,.rp 0 0)],bm [(0,.cells [.z] 27)],n'⟩)\/∃ r n',0<r/\Ghost prog s ⟨az [(2,.rp 0 0)],bm [(0,.cells [.rs r 0 xs.length] 27),(r,.cells (xs.map I) 3)],n'⟩) (ao ?_) fun s J=>?_
 .refine SS ?_;refine ab (nY ?_);refine⟨rfl,trivial,f,[],cs,xs.map (fun n=>[I n]),fun k m nx=>1<=nx/\((k=0/\m 0=some (.cells [.z] 27))\/(0<k/\∃ r,0<r/\r<nx/\m 0=some (.cells [.rs r 0 k] 27)/\m r=some (.cells ((xs.take k).map I) 3))),rfl,J,?_,⟨oS,.inl ⟨rfl,rfl⟩⟩,?_,?_⟩
  .intro y hy;obtain⟨n,_,rfl⟩:=List.mem_map.1 hy;exact⟨rfl,.cons (.s _) .nil⟩
  .rintro k m nx y hy ⟨gh,C⟩;simp only[List.getElem?_map,dw] at hy;obtain⟨n,hn,rfl⟩:=hy;have hk:k<xs.length:=(bL.1 hn).1
   have U:(xs.take (k+1)).map I=(xs.take k).map I++[I n]:=by
    rw[List.take_add_one,hn];simp
   refine gv ?_;refine SS ?_;refine ab (show AW _ _ _ _ _ _ from nY (gv ?_));rcases C with⟨rfl,ay⟩|⟨BY,r,X,z',ay,cQ⟩
   .refine aJ ?_;refine UU ?_;refine ab ?_;refine⟨oM,.inr ⟨oG,nx+1,oG,oM,?_,?_⟩⟩
    .dsimp only;exact(up_same _ _ _).trans rfl
    .dsimp only;exact(ag oG (up_same _ _ _)).trans (by rw[U];rfl)
   .have oQ:((xs.take k).map I).length=k:=by simp;omega
    refine aJ ?_;refine UW ?_;refine ab ?_;refine⟨oM,.inr ⟨oG,nx+1,oG,oM,?_,?_⟩⟩
    .dsimp only;exact(up_same _ _ _).trans rfl
    .dsimp only;exact(ag oG (up_same _ _ _)).trans (by rw[U];rfl)
  .rintro m nx ⟨gh,C⟩;rw[List.length_map] at C;rcases C with⟨h0,ay⟩|⟨BY,r,X,z',ay,cQ⟩
   .exact .inl ⟨List.length_eq_zero_iff.1 h0,nx,aP eH ⟨ay,trivial⟩⟩
   .refine .inr ⟨r,nx,X,aP eH ⟨ay,?_,trivial⟩⟩;rw[cQ,List.take_length]
 rcases J with⟨rfl,n',hg⟩|⟨r,n',hr,hg⟩
 .refine⟨_,hg,aw ?_⟩;refine af ?_;refine ab ⟨_,.nilrow _ _ _ 4 3 rfl,ax rfl ⟨n',?_,up_same _ _ _⟩⟩;rfl
 .refine⟨_,hg,ao ?_⟩;refine af ?_;refine ab (ax rfl ⟨r,rfl,?_⟩);simp[bm];omega
theorem LB{f:FuncId}{cs:List D}{xs:List Int}(J:SeqA prog f [] cs (xs.map fun n=>[I n]))(ht:Tr (.fn (.func f) [] cs))(hlen:xs.length<=100000):OCall prog 247 [.fn (.func f) [] cs] (xs.map I) xs.length 3:=by
 have C:∀ a∈[.fn (.func f) [] cs],Tr a:=.cons ht .nil;refine Af Th C (.map fun _=>.s _) ?_;rw[adP];have LA:=LA J ht hlen;refine ws ?_;refine SS ?_;refine er ?_;refine SS ?_;refine Bm LA rfl dd ?_;refine SS ?_;exact ab (ax rfl ⟨0,rfl,rfl⟩)
end Go.Proofs.Tryz.K
namespace Go.Argus
def swapAt(l:List Int)(j:Nat):List Int:=(l.set (j+1) (l.getD j 0)).set j (l.getD (j+1) 0)
def pB(l:List Int):Nat->List Int
 |0=>l
 |j+1=>if l.getD (j+1) 0<l.getD j 0 then pB (swapAt l j) j else l
def nv(l:List Int):Nat->List Int
 |0=>l
 |k+1=>pB (nv l k) (k+1)
def fN(l:List Int):List Int:=nv l (l.length - 1)
@[simp] theorem ala (l : List Int) (j : Nat) : (swapAt l j).length = l.length := by simp [swapAt]
@[simp] theorem aal : ∀ (j : Nat) (l : List Int), (pB l j).length = l.length
 |0,l=>rfl
 |j+1,l=>by simp only[pB];split<;>simp[aal j]
@[simp] theorem Ow (l : List Int) : ∀ k, (nv l k).length = l.length
 |0=>rfl
 |k+1=>by simp[nv,Ow l k]
@[simp] theorem IN (l : List Int) : (fN l).length = l.length := Ow l _
def fD(d:List Int):Nat->List Int
 |0=>[]
 |t+1=>fD d t++(if t≠0/\d.getD t 0=d.getD (t - 1) 0 then [] else [d.getD t 0])
def kS(d:List Int):List Int:=fD d d.length
theorem Qy{d:List Int}{x:Int}:∀ {t:Nat},t<=d.length->(x∈fD d t↔x∈d.take t)
 |0,_=>by simp[fD]
 |t+1,ht=>by
  have ih:=Qy (d:=d) (x:=x) (t:=t) oG;have hg:d.getD t 0=d[t]:=by simp[bF,aG (show t<d.length by omega)]
  rw[fD,List.mem_append,ih,List.take_succ_eq_append_getElem oG,List.mem_append];split
  .rename_i h;have h1:d[t - 1]? =some d[t - 1]:=aG oG
   have C:d[t]∈d.take t:=by
    rw[<- hg,h.2];have:d.getD (t - 1) 0=d[t - 1]:=by simp[bF,h1]
    rw[this];exact cx (i:=t - 1) (by rw[List.getElem?_take,if_pos oG,h1])
   constructor
   .rintro(h|h)
    .exact .inl h
    .simp at h
   .rintro(h|h)
    .exact .inl h
    .simp at h;subst h;exact .inl C
  .rw[hg]
theorem JU{d:List Int}:∀ t,(fD d t).length<=t
 |0=>by simp[fD]
 |t+1=>by
  have:=JU (d:=d) t;rw[fD,List.length_append];split<;>simp<;>omega
theorem RZ{d:List Int}{t:Nat}(ht:t<d.length)(h0:t≠0)(h:d.getD t 0=d.getD (t - 1) 0):fD d (t+1)=fD d t:=by
 rw[fD,if_pos ⟨h0,h⟩,List.append_nil]
theorem R0{d:List Int}{t:Nat}(h:d.getD t 0≠d.getD (t - 1) 0):fD d (t+1)=fD d t++[d.getD t 0]:=by
 rw[fD,if_neg fun C=>h C.2]
end Go.Argus
end
