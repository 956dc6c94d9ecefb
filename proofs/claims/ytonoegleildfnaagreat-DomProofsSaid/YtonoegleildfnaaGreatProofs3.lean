/- Part 3. -/
import Derived.Test.YtonoegleildfnaaGreatProofs2
import Derived.Below
import Derived.Carry
import Derived.ChangeOld
import Derived.OpenShut
set_option linter.all false
set_option maxHeartbeats 4000000
set_option maxRecDepth 10000
open List(range)
open List(replicate)
namespace Go.Abs
open Go.Argus
class V{α:Type}(x:α)(y:outParam α):Prop where h:x=y
section
variable{P:Program}{Y:YSpec}{ops:Array Oper}{dr:Bool}{cf:List (Nat×Nat)}{Q:Exit->St->Prop}{r:List Oper}{v:Env}{m:Mem}{n:Nat}{q:Tra}{x:Oper}{s:St}{e:List Nat×List Nat}
variable{t:Option Nat}{u:Nat}{ty:TypeId}{pos:String}{after:Array Edge}{j:Nat}{b c:Bool}{op:Op}
def SO(P:Program)(Y:YSpec)(ops:Array Oper)(dr:Bool)(o:Oper)(v:Env)(m:Mem)(n:Nat)(s:St)(e:List Nat×List Nat):Prop:=
 ∀ cf Q r q,AOps P Y ops dr cf Q r s (q++[e])->AOps P Y ops dr cf Q (o::r) ⟨v,m,n⟩ q
theorem ak{l:List Operand}(h:iY v l:=by repeat' (first|exact trivial|exact hc|exact rfl|refine And.intro ?_ ?_)):iY v l:=h
theorem z(K:∀ (x:D) rd,AOps P Y ops dr cf Q r (St.put ⟨v,m,n⟩ t (.opt false x)) (q++[(rd,[])]))(hj:(ops[j]?).bind (·.dst)=some u:=by exact rfl)(hg:guardC (v u) b=some false:=by exact rfl):
 AOps P Y ops dr cf Q (⟨t,op,ty,pos,after,some (j,b)⟩::r) ⟨v,m,n⟩ q:=Uo hj hg K
theorem cl{f:FuncId}{gs:List D}{d:D}{t:Nat}(h:PCall P f gs d)(K:AOps P Y ops dr cf Q r ⟨up v t d,m,n⟩ (q++[([],[])]))(hc:callD (rho v op) op=some (f,gs):=by exact rfl)(ha:iY v op.operands.toList:=by exact ak):
 AOps P Y ops dr cf Q (⟨some t,op,ty,pos,after,none⟩::r) ⟨v,m,n⟩ q:=afL h hc ha K
theorem gc{f:FuncId}{gs:List D}{d:D}{t:Nat}(h:PCall P f gs d)(K:AOps P Y ops dr cf Q r ⟨up v t (.opt c d),m,n⟩ (q++[([],[])]))(hj:(ops[j]?).bind (·.dst)=some u:=by exact rfl)(hg:guardC (v u) b=some c:=by exact rfl)(hl:callD (rho v op) op=some (f,gs):=by exact rfl)(ha:c=true->iY v op.operands.toList:=by exact fun hc=>ak):
 AOps P Y ops dr cf Q (⟨some t,op,ty,pos,after,some (j,b)⟩::r) ⟨v,m,n⟩ q:=BX hj hg hl (fun hc=>⟨ha hc,h⟩) K
theorem XV(K:AOps P Y ops dr cf Q r s (q++[e]))(h:SO P Y ops dr x v m n s e:=by intro _ _ _ _ k;exact aI (tc (v:=.s (.pointer none)) rfl rfl) ak (by first|decide|simp) k):AOps P Y ops dr cf Q (x::r) ⟨v,m,n⟩ q:=h _ _ _ _ K
theorem XW(K:AOps P Y ops dr cf Q r s (q++[e]))(h:SO P Y ops dr x v m n s e:=by intro _ _ _ _ k;exact aI (tc (v:=.pt _) rfl rfl) ak (by first|decide|simp) k):AOps P Y ops dr cf Q (x::r) ⟨v,m,n⟩ q:=h _ _ _ _ K
theorem akX(K:AOps P Y ops dr cf Q r s (q++[e]))(h:SO P Y ops dr x v m n s e:=by intro _ _ _ _ k;exact bt rfl rfl (LJ rfl rfl) (fun hc=>⟨ak,rfl⟩) k):AOps P Y ops dr cf Q (x::r) ⟨v,m,n⟩ q:=h _ _ _ _ K
theorem V5(K:AOps P Y ops dr cf Q r s (q++[e]))(h:SO P Y ops dr x v m n s e:=by intro _ _ _ _ k;exact aI (Tp rfl rfl w7) ak rfl k):AOps P Y ops dr cf Q (x::r) ⟨v,m,n⟩ q:=h _ _ _ _ K
theorem Wa(K:AOps P Y ops dr cf Q r s (q++[e]))(h:SO P Y ops dr x v m n s e:=by intro _ _ _ _ k;exact aI (oE (v:=.pt _) rfl) ak trivial k):AOps P Y ops dr cf Q (x::r) ⟨v,m,n⟩ q:=h _ _ _ _ K
theorem V2(K:AOps P Y ops dr cf Q r s (q++[e]))(h:SO P Y ops dr x v m n s e:=by intro _ _ _ _ k;exact aI (afe rfl rfl V0) ak ⟨rfl,by omega⟩ k):AOps P Y ops dr cf Q (x::r) ⟨v,m,n⟩ q:=h _ _ _ _ K
theorem Wu(K:AOps P Y ops dr cf Q r s (q++[e]))(h:SO P Y ops dr x v m n s e:=by intro _ _ _ _ k;exact bt rfl rfl (uJ rfl ax V.h) (fun hc=>⟨ak,(sv V.h)⟩) k):AOps P Y ops dr cf Q (x::r) ⟨v,m,n⟩ q:=h _ _ _ _ K
theorem aoL(K:AOps P Y ops dr cf Q r s (q++[e]))(h:SO P Y ops dr x v m n s e:=by intro _ _ _ _ k;exact aI (ep rfl ax V.h V.h (nS (by first|rfl|exact bD rfl|(simp;done)|(simp;omega)|omega))) ak (ez V.h V.h (by first|rfl|exact bD rfl|(simp;done)|(simp;omega)|omega)) k):AOps P Y ops dr cf Q (x::r) ⟨v,m,n⟩ q:=h _ _ _ _ K
theorem WT(K:AOps P Y ops dr cf Q r s (q++[e]))(h:SO P Y ops dr x v m n s e:=by intro _ _ _ _ k;exact bt rfl rfl (yF rfl rfl V.h V.h (GC) (by assumption)) (fun hc=>⟨ak,(yG V.h (GC) (by assumption))⟩) k):AOps P Y ops dr cf Q (x::r) ⟨v,m,n⟩ q:=h _ _ _ _ K
theorem aoM(K:AOps P Y ops dr cf Q r s (q++[e]))(h:SO P Y ops dr x v m n s e:=by intro _ _ _ _ k;exact bt rfl rfl (mK rfl rfl di V.h V.h) (fun hc=>⟨ak,⟨V.h,by omega⟩⟩) k):AOps P Y ops dr cf Q (x::r) ⟨v,m,n⟩ q:=h _ _ _ _ K
theorem aoN(K:AOps P Y ops dr cf Q r s (q++[e]))(h:SO P Y ops dr x v m n s e:=by intro _ _ _ _ k;exact bt rfl rfl (gO rfl di kd V.h) (fun hc=>⟨ak,(gP V.h V.h kd)⟩) k):AOps P Y ops dr cf Q (x::r) ⟨v,m,n⟩ q:=h _ _ _ _ K
theorem aoO(K:AOps P Y ops dr cf Q r s (q++[e]))(h:SO P Y ops dr x v m n s e:=by intro _ _ _ _ k;exact bt rfl rfl (mK rfl rfl gT V.h V.h) (fun hc=>⟨ak,⟨V.h,by omega⟩⟩) k):AOps P Y ops dr cf Q (x::r) ⟨v,m,n⟩ q:=h _ _ _ _ K
theorem aoP(K:AOps P Y ops dr cf Q r s (q++[e]))(h:SO P Y ops dr x v m n s e:=by intro _ _ _ _ k;exact bt rfl rfl (gO rfl gT j0 V.h) (fun hc=>⟨ak,(gP V.h V.h j0)⟩) k):AOps P Y ops dr cf Q (x::r) ⟨v,m,n⟩ q:=h _ _ _ _ K
theorem V3(K:AOps P Y ops dr cf Q r s (q++[e]))(h:SO P Y ops dr x v m n s e:=by intro _ _ _ _ k;exact aI (aff rfl rfl V1) ak ⟨rfl,by omega⟩ k):AOps P Y ops dr cf Q (x::r) ⟨v,m,n⟩ q:=h _ _ _ _ K
theorem WH(K:AOps P Y ops dr cf Q r s (q++[e]))(h:SO P Y ops dr x v m n s e:=by intro _ _ _ _ k;exact aI (aez rfl rfl) ak V.h k):AOps P Y ops dr cf Q (x::r) ⟨v,m,n⟩ q:=h _ _ _ _ K
theorem Wi(K:AOps P Y ops dr cf Q r s (q++[e]))(h:SO P Y ops dr x v m n s e:=by intro _ _ _ _ k;exact iz (Dy V.h V.h V.h rfl rfl) ak ⟨rfl,by decide,V.h,by decide⟩ k):AOps P Y ops dr cf Q (x::r) ⟨v,m,n⟩ q:=h _ _ _ _ K
theorem WR(K:AOps P Y ops dr cf Q r s (q++[e]))(h:SO P Y ops dr x v m n s e:=by intro _ _ _ _ k;exact aI (aeX rfl rfl V.h V.h (by assumption) (by assumption)) ak (aeY V.h (by assumption) (by assumption) oG) k):AOps P Y ops dr cf Q (x::r) ⟨v,m,n⟩ q:=h _ _ _ _ K
theorem WS(K:AOps P Y ops dr cf Q r s (q++[e]))(h:SO P Y ops dr x v m n s e:=by intro _ _ _ _ k;exact aI (mH rfl V.h V.h (acu (by assumption))) ak (mI V.h V.h (by simp;omega)) k):AOps P Y ops dr cf Q (x::r) ⟨v,m,n⟩ q:=h _ _ _ _ K
theorem aoQ(K:AOps P Y ops dr cf Q r s (q++[e]))(h:SO P Y ops dr x v m n s e:=by intro _ _ _ _ k;exact cA (jh rfl rfl rfl (aeq (by first|rfl|exact bD rfl|(simp;done)|(simp;omega)|omega) (by first|rfl|exact bD rfl|(simp;done)|(simp;omega)|omega))) ak (adg (by first|rfl|exact bD rfl|(simp;done)|(simp;omega)|omega) (by first|rfl|exact bD rfl|(simp;done)|(simp;omega)|omega) (by first|rfl|exact l6 _|(simp[l6];done)|exact Kh)) k):AOps P Y ops dr cf Q (x::r) ⟨v,m,n⟩ q:=h _ _ _ _ K
theorem aoR(K:AOps P Y ops dr cf Q r s (q++[e]))(h:SO P Y ops dr x v m n s e:=by intro _ _ _ _ k;exact cA (jh rfl rfl ax (aeq (by first|rfl|exact bD rfl|(simp;done)|(simp;omega)|omega) (by first|rfl|exact bD rfl|(simp;done)|(simp;omega)|omega))) ak (adg (by first|rfl|exact bD rfl|(simp;done)|(simp;omega)|omega) (by first|rfl|exact bD rfl|(simp;done)|(simp;omega)|omega) (by first|rfl|exact l6 _|(simp[l6];done)|exact Kh)) k):AOps P Y ops dr cf Q (x::r) ⟨v,m,n⟩ q:=h _ _ _ _ K
theorem Wh(K:AOps P Y ops dr cf Q r s (q++[e]))(h:SO P Y ops dr x v m n s e:=by intro _ _ _ _ k;exact bt rfl rfl (kK (v:=.z) rfl) (fun hc=>⟨ak,trivial⟩) k):AOps P Y ops dr cf Q (x::r) ⟨v,m,n⟩ q:=h _ _ _ _ K
theorem aoS(K:AOps P Y ops dr cf Q r s (q++[e]))(h:SO P Y ops dr x v m n s e:=by intro _ _ _ _ k;exact aI (yF rfl rfl V.h V.h (abG) (by assumption)) ak (yG V.h (abG) (by assumption)) k):AOps P Y ops dr cf Q (x::r) ⟨v,m,n⟩ q:=h _ _ _ _ K
theorem WI(K:AOps P Y ops dr cf Q r s (q++[e]))(h:SO P Y ops dr x v m n s e:=by intro _ _ _ _ k;exact aI (LH rfl rfl) ak rfl k):AOps P Y ops dr cf Q (x::r) ⟨v,m,n⟩ q:=h _ _ _ _ K
theorem WX(K:AOps P Y ops dr cf Q r s (q++[e]))(h:SO P Y ops dr x v m n s e:=by intro _ _ _ _ k;exact aI (GW (cs:=bq _ _ _) V.h V.h V.h rfl rfl) ak ⟨V.h,V.h⟩ k):AOps P Y ops dr cf Q (x::r) ⟨v,m,n⟩ q:=h _ _ _ _ K
theorem Wl(K:AOps P Y ops dr cf Q r s (q++[e]))(h:SO P Y ops dr x v m n s e:=by intro _ _ _ _ k;exact cA (fG (d:=.s (.int _ _)) (cs':=[_]) rfl rfl rfl rfl rfl) ak (dt V.h V.h (by first|(simp;done)|exact⟨rfl,bD rfl⟩|(simp;omega)) rfl) k):AOps P Y ops dr cf Q (x::r) ⟨v,m,n⟩ q:=h _ _ _ _ K
theorem Xl(K:AOps P Y ops dr cf Q r s (q++[e]))(h:SO P Y ops dr x v m n s e:=by intro _ _ _ _ k;exact cA (jh (cs':=bh _) rfl rfl rfl rfl) ak (dt V.h V.h (by first|(simp;done)|exact⟨rfl,bD rfl⟩|(simp;omega)) (by rfl)) k):AOps P Y ops dr cf Q (x::r) ⟨v,m,n⟩ q:=h _ _ _ _ K
theorem V4(K:AOps P Y ops dr cf Q r s (q++[e]))(h:SO P Y ops dr x v m n s e:=by intro _ _ _ _ k;exact aI (afy rfl rfl) ak rfl k):AOps P Y ops dr cf Q (x::r) ⟨v,m,n⟩ q:=h _ _ _ _ K
theorem ajK(K:AOps P Y ops dr cf Q r s (q++[e]))(h:SO P Y ops dr x v m n s e:=by intro _ _ _ _ k;exact aI (afz rfl rfl) ak oG k):AOps P Y ops dr cf Q (x::r) ⟨v,m,n⟩ q:=h _ _ _ _ K
theorem ajL(K:AOps P Y ops dr cf Q r s (q++[e]))(h:SO P Y ops dr x v m n s e:=by intro _ _ _ _ k;exact aI (ai0 rfl rfl) ak rfl k):AOps P Y ops dr cf Q (x::r) ⟨v,m,n⟩ q:=h _ _ _ _ K
theorem V7(K:AOps P Y ops dr cf Q r s (q++[e]))(h:SO P Y ops dr x v m n s e:=by intro _ _ _ _ k;exact aI (gO rfl (up_same _ _ _) rfl V.h) ak (gP V.h V.h rfl) k):AOps P Y ops dr cf Q (x::r) ⟨v,m,n⟩ q:=h _ _ _ _ K
theorem Wm(K:AOps P Y ops dr cf Q r s (q++[e]))(h:SO P Y ops dr x v m n s e:=by intro _ _ _ _ k;exact cA (fG (d:=.rs _ _ _) (cs':=[_]) rfl rfl (aC oG (aC oG (aC oG ax))) rfl rfl) ak (dt V.h V.h (by first|(simp;done)|exact⟨rfl,bD rfl⟩|(simp;omega)) rfl) k):AOps P Y ops dr cf Q (x::r) ⟨v,m,n⟩ q:=h _ _ _ _ K
theorem W3(K:AOps P Y ops dr cf Q r s (q++[e]))(h:SO P Y ops dr x v m n s e:=by intro _ _ _ _ k;exact cA (fG (d:=.rs _ _ _) (cs':=[_]) rfl rfl rfl rfl rfl) ak (dt V.h V.h (by first|(simp;done)|exact⟨rfl,bD rfl⟩|(simp;omega)) rfl) k):AOps P Y ops dr cf Q (x::r) ⟨v,m,n⟩ q:=h _ _ _ _ K
theorem akc(K:AOps P Y ops dr cf Q r s (q++[e]))(h:SO P Y ops dr x v m n s e:=by intro _ _ _ _ k;exact cA (fG (d:=.s (.pointer none)) (cs':=[_]) rfl rfl rfl rfl rfl) ak (dt V.h V.h (by first|(simp;done)|exact⟨rfl,bD rfl⟩|(simp;omega)) rfl) k):AOps P Y ops dr cf Q (x::r) ⟨v,m,n⟩ q:=h _ _ _ _ K
theorem akf(K:AOps P Y ops dr cf Q r s (q++[e]))(h:SO P Y ops dr x v m n s e:=by intro _ _ _ _ k;exact cA (fG (d:=.pt _) (cs':=[_]) rfl rfl rfl rfl rfl) ak (dt V.h V.h (by first|(simp;done)|exact⟨rfl,bD rfl⟩|(simp;omega)) rfl) k):AOps P Y ops dr cf Q (x::r) ⟨v,m,n⟩ q:=h _ _ _ _ K
theorem aoT(K:AOps P Y ops dr cf Q r s (q++[e]))(h:SO P Y ops dr x v m n s e:=by intro _ _ _ _ k;exact aI (uJ rfl (aC oG (aC oG (aC oG ax))) V.h) ak (sv V.h) k):AOps P Y ops dr cf Q (x::r) ⟨v,m,n⟩ q:=h _ _ _ _ K
theorem ak7(K:AOps P Y ops dr cf Q r s (q++[e]))(h:SO P Y ops dr x v m n s e:=by intro _ _ _ _ k;exact bt rfl rfl (S5 rfl rfl) (fun hc=>⟨ak,V.h⟩) k):AOps P Y ops dr cf Q (x::r) ⟨v,m,n⟩ q:=h _ _ _ _ K
variable{rf:Bool}{W:Exit->St->Prop}{o:Array Oper}{B:Code}{i:Nat}{k:St}
theorem ws[eC Y](h:AOps P Y o false [] (gK fun k=>AW P Y rf B W k) o.toList k []):AW P Y rf (.seq (.region i o false) B) W k:=aj h
theorem er[eC Y](h:AOps P Y o false [] (gK fun k=>AW P Y rf B W k) o.toList k []):AOps P Y ops dr [] (gK fun k=>AW P Y rf (.seq (.region i o false) B) W k) [] k q:=af (aj h)
end
end Go.Abs
theorem eH{p:Prop}(h:p:=by repeat' (first|exact trivial|exact rfl|refine And.intro ?_ ?_)):p:=h
namespace Go.Proofs.Tryz.K
open Go.Abs
theorem kR{α:Sort _}{a b:α}(h:a=b:=by kernel_rfl):a=b:=h
instance:V (prog.cellsOf 1) 1:=⟨kR⟩
instance:V (aggP prog 1) false:=⟨a1⟩
instance:V (tyOk prog 1) true:=⟨kR⟩
instance:V (prog.bytesOf 1) 8:=⟨b1⟩
instance:V (prog.cellsOf 2) 1:=⟨kR⟩
instance:V (prog.bytesOf 2) 8:=⟨b2⟩
instance:V (aggP prog 2) false:=⟨a2⟩
instance:V (tyOk prog 2) true:=⟨kR⟩
instance:V (prog.cellsOf 3) 1:=⟨c3⟩
instance:V (prog.bytesOf 3) 8:=⟨b3⟩
instance:V (aggP prog 3) false:=⟨a3⟩
instance:V (tyOk prog 3) true:=⟨kR⟩
instance:V (zeroP prog 3) [.s (.int .i64 0)]:=⟨kR⟩
instance:V (prog.cellsOf 4) 1:=⟨c4⟩
instance:V (prog.bytesOf 4) 1:=⟨b4⟩
instance:V (aggP prog 4) false:=⟨a4⟩
instance:V (tyOk prog 4) true:=⟨kR⟩
instance:V (zeroP prog 4) [.s (.bool false)]:=⟨kR⟩
instance:V (boT prog 4) true:=⟨kR⟩
instance:V (prog.cellsOf 5) 1:=⟨c5⟩
instance:V (prog.bytesOf 5) 1:=⟨b5⟩
instance:V (aggP prog 5) false:=⟨a5⟩
instance:V (tyOk prog 5) true:=⟨kR⟩
instance:V (zeroP prog 5) [.s (.int .u8 0)]:=⟨kR⟩
instance:V (prog.bytesOf 6) 1:=⟨b6⟩
instance:V (aggP prog 6) false:=⟨a6⟩
instance:V (prog.cellsOf 9) 1:=⟨kR⟩
instance:V (aggP prog 9) false:=⟨kR⟩
instance:V (tyOk prog 9) true:=⟨kR⟩
instance:V (stT prog 9) true:=⟨kR⟩
instance:V (elemP prog 15) 275:=⟨F9⟩
instance:V (elemP prog 16) 278:=⟨Ga⟩
instance:V (elemP prog 17) 287:=⟨F8⟩
instance:V (prog.cellsOf 22) 1:=⟨kR⟩
instance:V (aggP prog 22) false:=⟨kR⟩
instance:V (tyOk prog 22) true:=⟨kR⟩
instance:V (elemP prog 22) 5:=⟨Ye⟩
instance:V (slT prog 22) true:=⟨WV⟩
instance:V (prog.cellsOf 23) 1:=⟨kR⟩
instance:V (aggP prog 23) false:=⟨kR⟩
instance:V (tyOk prog 23) true:=⟨kR⟩
instance:V (elemP prog 23) 9:=⟨kR⟩
instance:V (slT prog 23) true:=⟨kR⟩
instance:V (prog.cellsOf 24) 1:=⟨kR⟩
instance:V (aggP prog 24) false:=⟨kR⟩
instance:V (tyOk prog 24) true:=⟨kR⟩
instance:V (elemP prog 24) 72:=⟨kR⟩
instance:V (slT prog 24) true:=⟨kR⟩
instance:V (prog.cellsOf 26) 8:=⟨kR⟩
instance:V (aggP prog 26) true:=⟨kR⟩
instance:V (tyOk prog 26) true:=⟨kR⟩
instance:V (zeroP prog 26) [.s (.string "".toUTF8),.s (.bool false),.s (.int .i64 0),.s (.int .u8 0),.z,.z,.z,.z]:=⟨kR⟩
instance:V (fieldP prog 26 0) (some (0,9)):=⟨kR⟩
instance:V (fieldP prog 26 1) (some (1,4)):=⟨kR⟩
instance:V (fieldP prog 26 2) (some (2,3)):=⟨kR⟩
instance:V (fieldP prog 26 3) (some (3,5)):=⟨kR⟩
instance:V (fieldP prog 26 4) (some (4,22)):=⟨kR⟩
instance:V (fieldP prog 26 5) (some (5,22)):=⟨kR⟩
instance:V (fieldP prog 26 6) (some (6,23)):=⟨kR⟩
instance:V (fieldP prog 26 7) (some (7,24)):=⟨kR⟩
instance:V (prog.cellsOf 27) 1:=⟨Bd⟩
instance:V (prog.bytesOf 27) 24:=⟨XU⟩
instance:V (aggP prog 27) false:=⟨kR⟩
instance:V (tyOk prog 27) true:=⟨kR⟩
instance:V (zeroP prog 27) [.z]:=⟨kR⟩
instance:V (elemP prog 27) 3:=⟨vS⟩
instance:V (slT prog 27) true:=⟨vn⟩
instance:V (prog.cellsOf 28) 1:=⟨kR⟩
instance:V (aggP prog 28) false:=⟨kR⟩
instance:V (tyOk prog 28) true:=⟨kR⟩
instance:V (elemP prog 28) 27:=⟨kR⟩
instance:V (slT prog 28) true:=⟨kR⟩
instance:V (prog.cellsOf 30) 3:=⟨Od⟩
instance:V (aggP prog 30) true:=⟨Oc⟩
instance:V (tyOk prog 30) true:=⟨t30⟩
instance:V (zeroP prog 30) [.z,.z,.z]:=⟨kR⟩
instance:V (fieldP prog 30 0) (some (0,27)):=⟨kR⟩
instance:V (fieldP prog 30 1) (some (1,28)):=⟨kR⟩
instance:V (fieldP prog 30 2) (some (2,28)):=⟨kR⟩
instance:V (prog.cellsOf 52) 1:=⟨YH⟩
instance:V (prog.bytesOf 52) 24:=⟨YG⟩
instance:V (aggP prog 52) false:=⟨kR⟩
instance:V (tyOk prog 52) true:=⟨kR⟩
instance:V (zeroP prog 52) [.z]:=⟨kR⟩
instance:V (elemP prog 52) 4:=⟨kR⟩
instance:V (slT prog 52) true:=⟨kR⟩
instance:V (prog.cellsOf 66) 6:=⟨kR⟩
instance:V (aggP prog 66) true:=⟨kR⟩
instance:V (tyOk prog 66) true:=⟨kR⟩
instance:V (zeroP prog 66) [.s (.int .u8 0),.s (.int .i64 0),.s (.int .i64 0),.s (.int .i64 0),.s (.int .i64 0),.z]:=⟨kR⟩
instance:V (fieldP prog 66 0) (some (0,5)):=⟨kR⟩
instance:V (fieldP prog 66 1) (some (1,3)):=⟨kR⟩
instance:V (fieldP prog 66 2) (some (2,3)):=⟨kR⟩
instance:V (fieldP prog 66 3) (some (3,3)):=⟨kR⟩
instance:V (fieldP prog 66 4) (some (4,3)):=⟨kR⟩
instance:V (fieldP prog 66 5) (some (5,27)):=⟨kR⟩
instance:V (prog.cellsOf 67) 1:=⟨kR⟩
instance:V (aggP prog 67) false:=⟨kR⟩
instance:V (tyOk prog 67) true:=⟨kR⟩
instance:V (elemP prog 67) 199:=⟨kR⟩
instance:V (slT prog 67) true:=⟨kR⟩
instance:V (prog.cellsOf 69) 15:=⟨kR⟩
instance:V (aggP prog 69) true:=⟨kR⟩
instance:V (tyOk prog 69) true:=⟨kR⟩
instance:V (zeroP prog 69) [.s (.int .u8 0),.s (.int .i64 0),.s (.int .i64 0),.s (.int .i64 0),.s (.int .i64 0),.s (.string "".toUTF8),.s (.int .u8 0),.s (.int .i64 0),.s (.int .i64 0),.s (.int .i64 0),.s (.int .i64 0),.z,.z,.z,.s (.int .i64 0)]:=⟨kR⟩
instance:V (fieldP prog 69 0) (some (0,5)):=⟨kR⟩
instance:V (fieldP prog 69 1) (some (1,3)):=⟨kR⟩
instance:V (fieldP prog 69 2) (some (2,3)):=⟨kR⟩
instance:V (fieldP prog 69 3) (some (3,3)):=⟨kR⟩
instance:V (fieldP prog 69 4) (some (4,3)):=⟨kR⟩
instance:V (fieldP prog 69 5) (some (5,9)):=⟨kR⟩
instance:V (fieldP prog 69 6) (some (6,66)):=⟨kR⟩
instance:V (fieldP prog 69 7) (some (12,27)):=⟨kR⟩
instance:V (fieldP prog 69 8) (some (13,67)):=⟨kR⟩
instance:V (fieldP prog 69 9) (some (14,3)):=⟨kR⟩
instance:V (prog.cellsOf 70) 1:=⟨kR⟩
instance:V (aggP prog 70) false:=⟨kR⟩
instance:V (tyOk prog 70) true:=⟨kR⟩
instance:V (elemP prog 70) 66:=⟨kR⟩
instance:V (slT prog 70) true:=⟨kR⟩
instance:V (prog.cellsOf 72) 16:=⟨kR⟩
instance:V (aggP prog 72) true:=⟨kR⟩
instance:V (tyOk prog 72) true:=⟨kR⟩
instance:V (zeroP prog 72) [.z,.s (.int .u8 0),.s (.int .i64 0),.s (.int .i64 0),.s (.int .i64 0),.s (.int .i64 0),.s (.string "".toUTF8),.s (.int .u8 0),.s (.int .i64 0),.s (.int .i64 0),.s (.int .i64 0),.s (.int .i64 0),.z,.z,.z,.s (.int .i64 0)]:=⟨kR⟩
instance:V (fieldP prog 72 0) (some (0,70)):=⟨kR⟩
instance:V (fieldP prog 72 1) (some (1,69)):=⟨kR⟩
instance:V (prog.cellsOf 79) 1:=⟨kR⟩
instance:V (aggP prog 79) false:=⟨kR⟩
instance:V (tyOk prog 79) true:=⟨kR⟩
instance:V (zeroP prog 79) [.s (.pointer none)]:=⟨kR⟩
instance:V (tyOk prog 89) true:=⟨kR⟩
instance:V (zeroP prog 89) [.s (.string "".toUTF8),.s (.bool false),.s (.int .i64 0),.s (.int .u8 0),.z,.z,.z,.z,.z,.z,.z]:=⟨kR⟩
instance:V (fieldP prog 89 0) (some (0,26)):=⟨kR⟩
instance:V (fieldP prog 89 1) (some (8,28)):=⟨kR⟩
instance:V (fieldP prog 89 2) (some (9,28)):=⟨kR⟩
instance:V (fieldP prog 89 3) (some (10,52)):=⟨kR⟩
instance:V (prog.cellsOf 98) 1:=⟨kR⟩
instance:V (aggP prog 98) false:=⟨kR⟩
instance:V (tyOk prog 98) true:=⟨kR⟩
instance:V (elemP prog 102) 52:=⟨kR⟩
instance:V (slT prog 102) true:=⟨kR⟩
instance:V (prog.cellsOf 128) 1:=⟨kR⟩
instance:V (aggP prog 128) false:=⟨kR⟩
instance:V (tyOk prog 128) true:=⟨kR⟩
instance:V (zeroP prog 128) [.s .nilFunc]:=⟨kR⟩
instance:V (prog.cellsOf 131) 1:=⟨kR⟩
instance:V (aggP prog 131) false:=⟨kR⟩
instance:V (tyOk prog 131) true:=⟨kR⟩
instance:V (prog.cellsOf 133) 10:=⟨Xk⟩
instance:V (aggP prog 133) true:=⟨Xj⟩
instance:V (tyOk prog 133) true:=⟨t133⟩
instance:V (zeroP prog 133) [.s (.string "".toUTF8),.s (.bool false),.s (.int .i64 0),.s (.int .u8 0),.z,.z,.z,.z,.s (.map none),.s (.map none)]:=⟨kR⟩
instance:V (fieldP prog 133 0) (some (0,26)):=⟨kR⟩
instance:V (fieldP prog 133 1) (some (8,131)):=⟨kR⟩
instance:V (fieldP prog 133 2) (some (9,131)):=⟨kR⟩
instance:V (elemP prog 155) 158:=⟨kR⟩
instance:V (slT prog 155) true:=⟨kR⟩
instance:V (prog.cellsOf 158) 2:=⟨nh⟩
instance:V (prog.bytesOf 158) 32:=⟨Xm⟩
instance:V (aggP prog 158) true:=⟨ud⟩
instance:V (tyOk prog 158) true:=⟨t158⟩
instance:V (zeroP prog 158) [.s (.bool false),.z]:=⟨kR⟩
instance:V (fieldP prog 158 0) (some (0,4)):=⟨kR⟩
instance:V (fieldP prog 158 1) (some (1,52)):=⟨kR⟩
instance:V (prog.cellsOf 165) 1:=⟨kR⟩
instance:V (aggP prog 165) false:=⟨kR⟩
instance:V (tyOk prog 165) true:=⟨kR⟩
instance:V (zeroP prog 165) [.s (.map none)]:=⟨kR⟩
instance:V (prog.cellsOf 166) 1:=⟨kR⟩
instance:V (aggP prog 166) false:=⟨kR⟩
instance:V (tyOk prog 166) true:=⟨kR⟩
instance:V (zeroP prog 166) [.s (.map none)]:=⟨kR⟩
instance:V (prog.cellsOf 168) 2:=⟨y8⟩
instance:V (prog.bytesOf 168) 16:=⟨Wj⟩
instance:V (aggP prog 168) true:=⟨Wt⟩
instance:V (tyOk prog 168) true:=⟨t168⟩
instance:V (zeroP prog 168) [.s (.int .i64 0),.s (.bool false)]:=⟨kR⟩
instance:V (fieldP prog 168 0) (some (0,3)):=⟨kR⟩
instance:V (fieldP prog 168 1) (some (1,4)):=⟨kR⟩
instance:V (prog.cellsOf 169) 1:=⟨kR⟩
instance:V (aggP prog 169) false:=⟨kR⟩
instance:V (tyOk prog 169) true:=⟨kR⟩
instance:V (zeroP prog 169) [.z]:=⟨kR⟩
instance:V (elemP prog 169) 168:=⟨Ic⟩
instance:V (slT prog 169) true:=⟨HR⟩
instance:V (tyOk prog 172) true:=⟨kR⟩
instance:V (zeroP prog 172) [.s (.int .i64 0),.s (.bool false),.s (.int .i64 0),.s (.bool false)]:=⟨kR⟩
instance:V (tyOk prog 174) true:=⟨kR⟩
instance:V (zeroP prog 174) [.z,.z]:=⟨kR⟩
instance:V (elemP prog 174) 27:=⟨kR⟩
instance:V (arT prog 174) true:=⟨kR⟩
instance:V (lenP prog 174) 2:=⟨kR⟩
instance:V (prog.cellsOf 199) 2:=⟨kR⟩
instance:V (aggP prog 199) true:=⟨kR⟩
instance:V (tyOk prog 199) true:=⟨kR⟩
instance:V (zeroP prog 199) [.s (.string "".toUTF8),.s (.int .i64 0)]:=⟨kR⟩
instance:V (fieldP prog 199 0) (some (0,9)):=⟨kR⟩
instance:V (fieldP prog 199 1) (some (1,3)):=⟨kR⟩
instance:V (prog.cellsOf 205) 6:=⟨kR⟩
instance:V (aggP prog 205) true:=⟨M9⟩
instance:V (tyOk prog 205) true:=⟨kR⟩
instance:V (zeroP prog 205) [.s (.int .i64 0),.s (.int .i64 0),.s (.int .i64 0),.s (.int .i64 0),.s (.int .i64 0),.s (.int .i64 0)]:=⟨M'⟩
instance:V (fieldP prog 205 0) (some (0,3)):=⟨kR⟩
instance:V (fieldP prog 205 1) (some (1,3)):=⟨kR⟩
instance:V (fieldP prog 205 2) (some (2,3)):=⟨kR⟩
instance:V (fieldP prog 205 3) (some (3,3)):=⟨kR⟩
instance:V (fieldP prog 205 4) (some (4,3)):=⟨kR⟩
instance:V (fieldP prog 205 5) (some (5,3)):=⟨kR⟩
instance:V (prog.cellsOf 208) 9:=⟨kR⟩
instance:V (aggP prog 208) true:=⟨kR⟩
instance:V (tyOk prog 208) true:=⟨kR⟩
instance:V (zeroP prog 208) [.s (.string "".toUTF8),.s (.bool false),.s (.int .i64 0),.s (.int .u8 0),.z,.z,.z,.z,.z]:=⟨kR⟩
instance:V (fieldP prog 208 0) (some (0,26)):=⟨kR⟩
instance:V (fieldP prog 208 1) (some (8,28)):=⟨kR⟩
instance:V (elemP prog 227) 231:=⟨kR⟩
instance:V (slT prog 227) true:=⟨kR⟩
instance:V (prog.cellsOf 231) 20:=⟨tW⟩
instance:V (prog.bytesOf 231) 160:=⟨WL⟩
instance:V (aggP prog 231) true:=⟨w9⟩
instance:V (tyOk prog 231) true:=⟨t231⟩
instance:V (zeroP prog 231) [.s (.int .u64 0),.s (.int .u64 0),.s (.int .u64 0),.s (.int .u64 0),.s (.int .u64 0),.s (.int .u64 0),.s (.int .u64 0),.s (.int .u64 0),.s (.int .u64 0),.s (.int .u64 0),.s (.int .u64 0),.s (.int .u64 0),.s (.int .u64 0),.s (.int .u64 0),.s (.int .u64 0),.s (.int .u64 0),.s (.int .u64 0),.s (.int .u64 0),.s (.int .u64 0),.s (.int .u64 0)]:=⟨WK⟩
instance:V (elemP prog 231) 98:=⟨kR⟩
instance:V (arT prog 231) true:=⟨kR⟩
instance:V (lenP prog 231) 20:=⟨kR⟩
instance:V (prog.underlying 8) (some (.struct (gQ prog 8))):=⟨u8⟩
instance:V (prog.underlying 22) (some (.slice 5)):=⟨kR⟩
instance:V (prog.underlying 30) (some (.struct (gQ prog 30))):=⟨kR⟩
instance:V (((gQ prog 30).toList.map fun f=>(f.offset,prog.cellsOf f.type))) [(0,1),(1,1),(2,1)]:=⟨kR⟩
instance:V (((gQ prog 30).toList.all fun f=>(prog.info? f.type).isSome)) true:=⟨kR⟩
instance:V (prog.underlying 66) (some (.struct (gQ prog 66))):=⟨kR⟩
instance:V (((gQ prog 66).toList.map fun f=>(f.offset,prog.cellsOf f.type))) [(0,1),(1,1),(2,1),(3,1),(4,1),(5,1)]:=⟨kR⟩
instance:V (((gQ prog 66).toList.all fun f=>(prog.info? f.type).isSome)) true:=⟨kR⟩
instance:V (prog.underlying 89) (some (.struct (gQ prog 89))):=⟨kR⟩
instance:V (((gQ prog 89).toList.map fun f=>(f.offset,prog.cellsOf f.type))) [(0,8),(8,1),(9,1),(10,1)]:=⟨kR⟩
instance:V (((gQ prog 89).toList.all fun f=>(prog.info? f.type).isSome)) true:=⟨kR⟩
instance:V (mkeyP prog 127) 3:=⟨Ma⟩
instance:V (mapT prog 127) true:=⟨Mb⟩
instance:V (mkeyP prog 131) 5:=⟨kR⟩
instance:V (mapT prog 131) true:=⟨kR⟩
instance:V (melP prog 131) 205:=⟨Mk⟩
instance:V (prog.underlying 133) (some (.struct (gQ prog 133))):=⟨kR⟩
instance:V (((gQ prog 133).toList.map fun f=>(f.offset,prog.cellsOf f.type))) [(0,8),(8,1),(9,1)]:=⟨kR⟩
instance:V (((gQ prog 133).toList.all fun f=>(prog.info? f.type).isSome)) true:=⟨kR⟩
instance:V (prog.underlying 158) (some (.struct (gQ prog 158))):=⟨kR⟩
instance:V (((gQ prog 158).toList.map fun f=>(f.offset,prog.cellsOf f.type))) [(0,1),(1,1)]:=⟨kR⟩
instance:V (((gQ prog 158).toList.all fun f=>(prog.info? f.type).isSome)) true:=⟨kR⟩
instance:V (mkeyP prog 165) 172:=⟨wN⟩
instance:V (mapT prog 165) true:=⟨wO⟩
instance:V (mkeyP prog 166) 168:=⟨Ce⟩
instance:V (mapT prog 166) true:=⟨Cf⟩
instance:V (prog.underlying 168) (some (.struct (gQ prog 168))):=⟨kR⟩
instance:V (((gQ prog 168).toList.map fun f=>(f.offset,prog.cellsOf f.type))) [(0,1),(1,1)]:=⟨kR⟩
instance:V (((gQ prog 168).toList.all fun f=>(prog.info? f.type).isSome)) true:=⟨kR⟩
instance:V (prog.underlying 172) (some (.struct (gQ prog 172))):=⟨kR⟩
instance:V (((gQ prog 172).toList.map fun f=>(f.offset,prog.cellsOf f.type))) [(0,2),(2,2)]:=⟨kR⟩
instance:V (((gQ prog 172).toList.all fun f=>(prog.info? f.type).isSome)) true:=⟨kR⟩
instance:V (prog.underlying 205) (some (.struct (gQ prog 205))):=⟨kR⟩
instance:V (((gQ prog 205).toList.map fun f=>(f.offset,prog.cellsOf f.type))) [(0,1),(1,1),(2,1),(3,1),(4,1),(5,1)]:=⟨kR⟩
instance:V (((gQ prog 205).toList.all fun f=>(prog.info? f.type).isSome)) true:=⟨kR⟩
instance:V (prog.underlying 208) (some (.struct (gQ prog 208))):=⟨kR⟩
instance:V (((gQ prog 208).toList.map fun f=>(f.offset,prog.cellsOf f.type))) [(0,8),(8,1)]:=⟨kR⟩
instance:V (((gQ prog 208).toList.all fun f=>(prog.info? f.type).isSome)) true:=⟨kR⟩
instance:V (prog.underlying 2) (some (.int .i64)):=⟨u2⟩
instance:V (prog.underlying 3) (some (.int .i64)):=⟨u3⟩
instance:V (prog.underlying 5) (some (.int .u8)):=⟨u5⟩
instance:V (prog.underlying 189) (some (.int .u64)):=⟨kR⟩
end Go.Proofs.Tryz.K
namespace Go.Abs
open Go.Argus
section
variable{P:Program}{Y:YSpec}{ops:Array Oper}{dr:Bool}{cf:List (Nat×Nat)}{Q:Exit->St->Prop}{r:List Oper}{v:Env}{m:Mem}{n:Nat}{q:Tra}{x:Oper}{s:St}{e:List Nat×List Nat}
theorem mw{p:Prop}(h:p:=by first|rfl|exact bD rfl|(simp;done)|(simp;omega)|omega):p:=h
theorem FC{p:Prop}(h:p:=by first|omega|exact bD rfl|(simp;done)|(simp;omega)):p:=h
theorem pv{p:Prop}(h:p:=by first|(simp;done)|exact⟨rfl,bD rfl⟩|(simp;omega)):p:=h
theorem NK{p:Prop}(h:p:=by first|rfl|exact l6 _|(simp[l6];done)|exact Kh):p:=h
theorem xL{p:Prop}(h:p:=by first|(simp;done)|omega|exact bD rfl):p:=h
theorem FD{p:Prop}(h:p:=by unfold maxLen;first|omega|(simp;omega)):p:=h
theorem IT{p:Prop}(h:p:=by first|rfl|(simp;done)|(simp;omega)):p:=h
theorem IU{p:Prop}(h:p:=by first|(simp;done)|(simp;omega)):p:=h
theorem rG{p:Prop}(h:p:=by first|(simp;done)|fail):p:=h
theorem FE{p:Prop}(h:p:=by first|decide|simp):p:=h
def oT(x:Oper):Nat:=2*(match x.op with
 | .move ..=>1
 | .assign ..=>2
 | .pick ..=>3
 | .alloc ..=>4
 | .box ..=>5
 | .build ..=>6
 | .buildSlice ..=>7
 | .insert ..=>8
 | .load ..=>9
 | .store ..=>10
 | .nilCheck ..=>11
 | .unOp ..=>12
 | .convert ..=>13
 | .makeFunc ..=>14
 | .makeMap ..=>15
 | .makeSlice ..=>16
 | .slice ..=>17
 | .fieldAddr ..=>18
 | .field ..=>19
 | .indexAddr ..=>20
 | .index ..=>21
 | .lookup ..=>22
 | .mapUpdate ..=>23
 | .extract ..=>24
 | .call ..=>25
 | .binOp .add ..=>26
 | .binOp .sub ..=>27
 | .binOp .mul ..=>28
 | .binOp .quo ..=>29
 | .binOp .rem ..=>30
 | .binOp .and ..=>31
 | .binOp .or ..=>32
 | .binOp .xor ..=>33
 | .binOp .shl ..=>34
 | .binOp .shr ..=>35
 | .binOp .andNot ..=>36
 | .binOp .eql ..=>37
 | .binOp .neq ..=>38
 | .binOp .lss ..=>39
 | .binOp .leq ..=>40
 | .binOp .gtr ..=>41
 | .binOp .geq ..=>42
 |_=>0)+(match x.guard with
 |none=>0
 |_=>1)
theorem SS2(ht:oT x=2:=by exact rfl)(h:SO P Y ops dr x v m n s e:=by intro _ _ _ _ k;first|exact aI (kK (v:=.s (.int _ _)) rfl) ak trivial k|exact aI (kK (v:=.s (.bool _)) rfl) ak trivial k|exact aI (kK (v:=.sl _ _) rfl) ak trivial k|exact aI (kK (v:=.rs _ _ _) rfl) ak trivial k|exact aI (kK (v:=.pt _) rfl) ak trivial k|exact aI (kK (v:=.fn _ _ _) rfl) ak trivial k|exact aI (kK (v:=.s (.string _)) rfl) ak trivial k|exact aI (kK (v:=.mp _) rfl) ak trivial k|exact aI (kK (v:=.rp _ _) rfl) ak trivial k|exact aI (kK (v:=_) rfl) ak trivial k|fail):SO P Y ops dr x v m n s e:=h
theorem SS4(ht:oT x=4:=by exact rfl)(h:SO P Y ops dr x v m n s e:=by intro _ _ _ _ k;first|exact aI (oE (v:=.s (.bool _)) rfl) ak trivial k|exact aI (oE (v:=.s (.int _ _)) rfl) ak trivial k|exact aI (oE (v:=.sl _ _) rfl) ak trivial k|exact aI (oE (v:=.rs _ _ _) rfl) ak trivial k|exact aI (oE (v:=.z) rfl) ak trivial k|exact aI (oE (v:=.s (.pointer none)) rfl) ak trivial k|exact aI (oE (v:=.mp _) rfl) ak trivial k|exact aI (oE (v:=.fn _ _ _) rfl) ak trivial k|fail):SO P Y ops dr x v m n s e:=h
theorem ai6(ht:oT x=18:=by exact rfl)(h:SO P Y ops dr x v m n s e:=by intro _ _ _ _ k;first|exact aI (mH (vs:=aH _) rfl V.h V.h rfl) ak (mI V.h V.h rG) k|exact aI (mH (vs:=bu _) rfl V.h V.h rfl) ak (mI V.h V.h rG) k|exact aI (mH (vs:=bh _) rfl V.h V.h rfl) ak (mI V.h V.h rG) k|exact aI (mH (vs:=bq _ _ _) rfl V.h V.h rfl) ak (mI V.h V.h rG) k|exact aI (mH (vs:=fH _) rfl V.h V.h rfl) ak (mI V.h V.h rG) k|exact aI (ep rfl rfl V.h V.h (nS mw)) ak (ez V.h V.h mw) k|exact aI (mH rfl V.h V.h rfl) ak (mI V.h V.h rG) k|exact aI (mH (vs:=bW _ _) rfl V.h V.h rfl) ak (mI V.h V.h rG) k|exact aI (ep (vs:=aH _) rfl rfl V.h V.h rfl) ak (ez V.h V.h xL) k|exact aI (ep (vs:=bh _) rfl rfl V.h V.h rfl) ak (ez V.h V.h xL) k|exact aI (ep (vs:=bu _) rfl (up_same _ _ _) V.h V.h rfl) ak (ez V.h V.h xL) k|exact aI (mH (vs:=mJ _) rfl V.h V.h rfl) ak (mI V.h V.h rG) k|exact aI (ep rfl rfl V.h V.h rfl) ak (ez V.h V.h xL) k|exact aI (ep rfl ax V.h V.h rfl) ak (ez V.h V.h xL) k|exact aI (ep rfl di V.h V.h rfl) ak (ez V.h V.h xL) k|exact aI (ep rfl gT V.h V.h rfl) ak (ez V.h V.h xL) k|exact aI (ep rfl (up_same _ _ _) V.h V.h rfl) ak (ez V.h V.h xL) k|exact aI (ep rfl (aC oG rfl) V.h V.h (nS mw)) ak (ez V.h V.h mw) k|exact aI (S6 rfl V.h) ak (Td V.h V.h) k|exact aI (gO rfl rfl kd V.h) ak (gP V.h V.h kd) k|exact aI (gO rfl ax kd V.h) ak (gP V.h V.h kd) k|exact aI (gO rfl di kd V.h) ak (gP V.h V.h kd) k|exact aI (gO rfl (up_same _ _ _) kd V.h) ak (gP V.h V.h kd) k|exact aI (gO rfl rfl rfl V.h) ak (gP V.h V.h rfl) k|exact aI (gO rfl ax rfl V.h) ak (gP V.h V.h rfl) k|exact aI (gO rfl di rfl V.h) ak (gP V.h V.h rfl) k|exact aI (gO rfl gT rfl V.h) ak (gP V.h V.h rfl) k|fail):SO P Y ops dr x v m n s e:=h
theorem ai7(ht:oT x=19:=by exact rfl)(h:SO P Y ops dr x v m n s e:=by intro _ _ _ _ k;first|exact bt rfl rfl (S6 rfl V.h) (fun hc=>⟨ak,(Td V.h V.h)⟩) k|exact bt rfl rfl (mH (vs:=bW _ _) rfl V.h V.h rfl) (fun hc=>⟨ak,(mI V.h V.h rG)⟩) k|exact bt rfl rfl (mH (vs:=bq _ _ _) rfl V.h V.h rfl) (fun hc=>⟨ak,(mI V.h V.h rG)⟩) k|exact bt rfl rfl (mH (vs:=aH _) rfl V.h V.h rfl) (fun hc=>⟨ak,(mI V.h V.h rG)⟩) k|exact bt rfl rfl (mH (vs:=bh _) rfl V.h V.h rfl) (fun hc=>⟨ak,(mI V.h V.h rG)⟩) k|exact bt rfl rfl (mH (vs:=bu _) rfl V.h V.h rfl) (fun hc=>⟨ak,(mI V.h V.h rG)⟩) k|exact bt rfl rfl (gO rfl rfl rfl V.h) (fun hc=>⟨ak,(gP V.h V.h rfl)⟩) k|exact bt rfl rfl (gO rfl ax rfl V.h) (fun hc=>⟨ak,(gP V.h V.h rfl)⟩) k|exact bt rfl rfl (gO rfl (up_same _ _ _) rfl V.h) (fun hc=>⟨ak,(gP V.h V.h rfl)⟩) k|exact bt rfl rfl (ep rfl rfl V.h V.h rfl) (fun hc=>⟨ak,(ez V.h V.h xL)⟩) k|exact bt rfl rfl (ep rfl (aC oG rfl) V.h V.h (nS mw)) (fun hc=>⟨ak,(ez V.h V.h mw)⟩) k|fail):SO P Y ops dr x v m n s e:=h
theorem SS6(ht:oT x=6:=by exact rfl)(h:SO P Y ops dr x v m n s e:=by intro _ _ _ _ k;first|exact abZ rfl rfl (by first|exact trivial|exact rfl) k|exact ab0 rfl rfl (by first|exact trivial|exact rfl) k|exact ady rfl rfl rfl (fun h=>by first|exact trivial|exact rfl|exact h|(show Eq _ _;rw[h];rfl)|(show Eq _ _;simp[h];done)|(show Eq _ _;simp_all;done)|fail) (fun h=>by first|exact trivial|exact rfl|exact h|(show Eq _ _;rw[h];rfl)|(show Eq _ _;simp[h];done)|(show Eq _ _;simp_all;done)|fail) k|fail):SO P Y ops dr x v m n s e:=h
theorem ai8(ht:oT x=36:=by exact rfl)(h:SO P Y ops dr x v m n s e:=by intro _ _ _ _ k;first|exact aI (RE rfl V.h) ak (sv V.h) k|exact aI (uJ rfl rfl V.h) ak (sv V.h) k|exact aI (uJ rfl ax V.h) ak (sv V.h) k|exact aI (uJ rfl di V.h) ak (sv V.h) k|exact aI (uJ rfl (up_same _ _ _) V.h) ak (sv V.h) k|fail):SO P Y ops dr x v m n s e:=h
theorem SS3(ht:oT x=3:=by exact rfl)(h:SO P Y ops dr x v m n s e:=by intro _ _ _ _ k;first|exact bt rfl rfl (kK (v:=.s (.int _ _)) rfl) (fun hc=>⟨ak,trivial⟩) k|exact bt rfl rfl (kK (v:=.sl _ _) rfl) (fun hc=>⟨ak,trivial⟩) k|exact bt rfl rfl (kK (v:=.s (.bool _)) rfl) (fun hc=>⟨ak,trivial⟩) k|exact bt rfl rfl (kK (v:=.pt _) rfl) (fun hc=>⟨ak,trivial⟩) k|exact bt rfl rfl (kK (v:=.fn _ _ _) rfl) (fun hc=>⟨ak,trivial⟩) k|exact bt rfl rfl (kK (v:=.rs _ _ _) rfl) (fun hc=>⟨ak,trivial⟩) k|exact bt rfl rfl (kK (v:=.s (.string _)) rfl) (fun hc=>⟨ak,trivial⟩) k|fail):SO P Y ops dr x v m n s e:=h
theorem ai9(ht:oT x=37:=by exact rfl)(h:SO P Y ops dr x v m n s e:=by intro _ _ _ _ k;first|exact bt rfl rfl (RE rfl V.h) (fun hc=>⟨ak,(sv V.h)⟩) k|exact bt rfl rfl (uJ rfl rfl V.h) (fun hc=>⟨ak,(sv V.h)⟩) k|exact bt rfl rfl (uJ rfl (up_same _ _ _) V.h) (fun hc=>⟨ak,(sv V.h)⟩) k|fail):SO P Y ops dr x v m n s e:=h
theorem ai'(ht:oT x=74:=by exact rfl)(h:SO P Y ops dr x v m n s e:=by intro _ _ _ _ k;first|exact aI (Lh rfl rfl dY) ak rfl k|exact aI (LK rfl rfl) ak rfl k|fail):SO P Y ops dr x v m n s e:=h
theorem aja(ht:oT x=40:=by exact rfl)(h:SO P Y ops dr x v m n s e:=by intro _ _ _ _ k;first|exact aI (Tb rfl rfl V.h V.h (by assumption)) ak (Tc V.h (by assumption)) k|exact aI (yF rfl rfl V.h V.h (GC) (by assumption)) ak (yG V.h (GC) (by assumption)) k|exact aI (yF rfl rfl V.h V.h (GD) (by assumption)) ak (yG V.h (GD) (by assumption)) k|exact aI (adA rfl rfl rfl V.h V.h V.h) ak ⟨V.h,by omega⟩ k|exact aI (yF rfl rfl V.h V.h (Dw) (by assumption)) ak (yG V.h (Dw) (by assumption)) k|exact aI (yF rfl rfl V.h V.h (PF) (by assumption)) ak (yG V.h (PF) (by assumption)) k|exact aI (mK rfl rfl rfl V.h V.h) ak ⟨V.h,by omega⟩ k|exact aI (mK rfl rfl ax V.h V.h) ak ⟨V.h,by omega⟩ k|exact aI (S9 rfl rfl ax V.h V.h V.h) ak ⟨V.h,by omega,by omega⟩ k|exact aI (mK rfl rfl (aC oG (aC oG ax)) V.h V.h) ak ⟨V.h,by omega⟩ k|exact aI (mK rfl rfl (aC oG (aC oG (aC oG ax))) V.h V.h) ak ⟨V.h,by omega⟩ k|exact aI (mK rfl rfl di V.h V.h) ak ⟨V.h,by omega⟩ k|exact aI (mK rfl rfl (up_same _ _ _) V.h V.h) ak ⟨V.h,by omega⟩ k|exact aI (DQ rfl rfl rfl V.h V.h) ak ⟨V.h,by omega⟩ k|exact aI (adB rfl rfl (up_same _ _ _) V.h V.h) ak ⟨V.h,by omega⟩ k|fail):SO P Y ops dr x v m n s e:=h
theorem ajb(ht:oT x=50:=by exact rfl)(h:SO P Y ops dr x v m n s e:=by intro _ _ _ _ k;first|exact aI (Ue rfl) ak V.h k|exact aI (Ld rfl) ak V.h k|exact vm (uV rfl rfl rfl V.h V.h (QJ tV) rfl) ak ⟨V.h,rfl,FC,(by decide),IT,FD,(by rw[b3];first|omega|(simp;omega)),IU⟩ k|exact aI (BV rfl rfl) ak V.h k|exact aI (BV rfl ax) ak V.h k|exact vm (uV rfl rfl rfl V.h V.h (wj rfl rfl) rfl) ak ⟨V.h,rfl,FC,(by decide),IT,FD,(by rw[b3];first|omega|(simp;omega)),IU⟩ k|exact vm (uV rfl (aC oG ax) rfl V.h V.h (wj (up_same _ _ _) rfl) rfl) ak ⟨V.h,rfl,FC,(by decide),IT,FD,(by rw[b3];first|omega|(simp;omega)),IU⟩ k|exact vm (uV rfl (aC oG di) rfl V.h V.h (wj (up_same _ _ _) rfl) rfl) ak ⟨V.h,rfl,FC,(by decide),IT,FD,(by rw[b3];first|omega|(simp;omega)),IU⟩ k|exact iz (aeB rfl rfl V.h V.h (wj (up_same _ _ _) rfl)) ak ⟨V.h,FC,(by decide),FD,(by rw[b3];first|omega|(simp;omega))⟩ k|fail):SO P Y ops dr x v m n s e:=h
theorem ajc(ht:oT x=52:=by exact rfl)(h:SO P Y ops dr x v m n s e:=by intro _ _ _ _ k;first|exact aI (Ub rfl rfl oG) ak rfl k|fail):SO P Y ops dr x v m n s e:=h
theorem ajd(ht:oT x=20:=by exact rfl)(h:SO P Y ops dr x v m n s e:=by intro _ _ _ _ k;first|exact cA (jh (cs':=bu _) rfl rfl (up_same _ _ _) rfl) ak (dt V.h V.h pv (by rfl)) k|exact cA (fG (d:=.s (.bool _)) (cs':=_) rfl rfl rfl rfl rfl) ak (dt V.h V.h pv rfl) k|exact cA (fG (d:=.s (.string _)) (cs':=_) rfl rfl rfl rfl rfl) ak (dt V.h V.h pv rfl) k|exact cA (jh rfl rfl rfl (KN mw mw)) ak (DH mw mw NK) k|exact cA (jh (cs':=fH _) rfl rfl (up_same _ _ _) rfl) ak (dt V.h V.h pv (by rfl)) k|exact cA (fG (d:=.s (.bool _)) (cs':=_) rfl rfl di rfl rfl) ak (dt V.h V.h pv rfl) k|exact cA (jh rfl rfl (up_same _ _ _) (KN mw mw)) ak (DH mw mw NK) k|exact cA (jh (cs':=mJ _) rfl rfl (up_same _ _ _) rfl) ak (dt V.h V.h pv (by rfl)) k|exact cA (fG (d:=.s (.int _ _)) (cs':=_) rfl rfl rfl rfl rfl) ak (dt V.h V.h pv rfl) k|exact cA (fG (d:=.s (.int _ _)) (cs':=_) rfl rfl (up_same _ _ _) rfl rfl) ak (dt V.h V.h pv rfl) k|exact cA (jh rfl rfl rfl rfl) ak (dt V.h V.h pv (by rfl)) k|exact cA (jh rfl rfl (up_same _ _ _) rfl) ak (dt V.h V.h pv (by rfl)) k|exact cA (jh rfl rfl (aC oG rfl) (KN mw mw)) ak (DH mw mw NK) k|exact cA (jh rfl rfl rfl (Up (by decide) (by assumption) (by assumption) (by first|assumption|(simp;omega)|(simp;done)|fail))) ak (DH (by first|(simp;omega)|(simp;done)|fail) (Ar (by assumption) (by assumption)) (l6 _)) k|exact cA (fG (d:=.rs _ _ _) (cs':=[_]) rfl rfl (aC oG (aC oG ax)) rfl rfl) ak (dt V.h V.h pv rfl) k|exact cA (fG (d:=.rs _ _ _) (cs':=_) rfl rfl rfl rfl rfl) ak (dt V.h V.h pv rfl) k|exact cA (fG (d:=.rs _ _ _) (cs':=_) rfl rfl (aC oG (aC oG ax)) rfl rfl) ak (dt V.h V.h pv rfl) k|exact cA (fG (d:=.rs _ _ _) (cs':=_) rfl rfl (aC oG (aC oG (aC oG ax))) rfl rfl) ak (dt V.h V.h pv rfl) k|exact cA (fG (d:=.z) (cs':=_) rfl rfl rfl rfl rfl) ak (dt V.h V.h pv rfl) k|fail):SO P Y ops dr x v m n s e:=h
theorem aje(ht:oT x=78:=by exact rfl)(h:SO P Y ops dr x v m n s e:=by intro _ _ _ _ k;first|exact aI (Tk rfl rfl jT) ak rfl k|exact aI (LD rfl rfl) ak rfl k|fail):SO P Y ops dr x v m n s e:=h
theorem ajf(ht:oT x=75:=by exact rfl)(h:SO P Y ops dr x v m n s e:=by intro _ _ _ _ k;first|exact bt rfl rfl (Lh rfl rfl dY) (fun hc=>⟨ak,rfl⟩) k|exact bt rfl rfl (Lh rfl rfl As) (fun hc=>⟨ak,rfl⟩) k|exact bt rfl rfl (LK rfl rfl) (fun hc=>⟨ak,rfl⟩) k|exact bt rfl rfl (Lc rfl rfl) (fun hc=>⟨ak,trivial⟩) k|fail):SO P Y ops dr x v m n s e:=h
theorem ajg(ht:oT x=41:=by exact rfl)(h:SO P Y ops dr x v m n s e:=by intro _ _ _ _ k;first|exact bt rfl rfl (Tb rfl rfl V.h V.h (by assumption)) (fun hc=>⟨ak,(Tc V.h (by assumption))⟩) k|exact bt rfl rfl (yF rfl rfl V.h V.h (GD) (by assumption)) (fun hc=>⟨ak,(yG V.h (GD) (by assumption))⟩) k|fail):SO P Y ops dr x v m n s e:=h
theorem ajh(ht:oT x=10:=by exact rfl)(h:SO P Y ops dr x v m n s e:=by intro _ _ _ _ k;first|exact iz (uU (cs:=aH _) rfl) ak (by first|rfl|exact wl fN gM|exact l6 _|exact wL dP) k|exact iz (uU rfl) ak (by first|rfl|exact wl fN gM|exact l6 _|exact wL dP) k|exact iz (uU (cs:=bh _) rfl) ak (by first|rfl|exact wl fN gM|exact l6 _|exact wL dP) k|exact iz (uU (cs:=bu _) rfl) ak (by first|rfl|exact wl fN gM|exact l6 _|exact wL dP) k|exact iz (uU (cs:=bq _ _ _) rfl) ak (by first|rfl|exact wl fN gM|exact l6 _|exact wL dP) k|exact iz (uU (cs:=bW _ _) rfl) ak (by first|rfl|exact wl fN gM|exact l6 _|exact wL dP) k|exact iz (Hv (d:=.s (.int _ _)) rfl rfl) ak rfl k|fail):SO P Y ops dr x v m n s e:=h
theorem aji(ht:oT x=51:=by exact rfl)(h:SO P Y ops dr x v m n s e:=by intro _ _ _ _ k;first|exact bt rfl rfl (Ue rfl) (fun hc=>⟨ak,V.h⟩) k|exact bt rfl rfl (aeA rfl) (fun hc=>⟨ak,V.h⟩) k|fail):SO P Y ops dr x v m n s e:=h
theorem SS8(ht:oT x=8:=by exact rfl)(h:SO P Y ops dr x v m n s e:=by intro _ _ _ _ k;first|exact iz (adn V.h) ak V.h k|fail):SO P Y ops dr x v m n s e:=h
theorem ajj(ht:oT x=76:=by exact rfl)(h:SO P Y ops dr x v m n s e:=by intro _ _ _ _ k;first|exact aI (Tl rfl rfl du) ak rfl k|exact aI (LL rfl rfl) ak rfl k|fail):SO P Y ops dr x v m n s e:=h
theorem ajk(ht:oT x=25:=by exact rfl)(h:SO P Y ops dr x v m n s e:=by intro _ _ _ _ k;first|exact bt rfl rfl (Uc rfl) (fun hc=>⟨ak,trivial⟩) k|fail):SO P Y ops dr x v m n s e:=h
theorem ajl(ht:oT x=24:=by exact rfl)(h:SO P Y ops dr x v m n s e:=by intro _ _ _ _ k;first|exact aI (Uc rfl) ak trivial k|fail):SO P Y ops dr x v m n s e:=h
theorem ajm(ht:oT x=83:=by exact rfl)(h:SO P Y ops dr x v m n s e:=by intro _ _ _ _ k;first|exact bt rfl rfl (Tm rfl rfl eM) (fun hc=>⟨ak,rfl⟩) k|exact bt rfl rfl (LI rfl rfl) (fun hc=>⟨ak,rfl⟩) k|fail):SO P Y ops dr x v m n s e:=h
theorem ajn(ht:oT x=48:=by exact rfl)(h:SO P Y ops dr x v m n s e:=by intro _ _ _ _ k;first|exact aI (tc (v:=.s (.int _ _)) rfl rfl) ak FE k|exact aI (tc (v:=.s (.bool _)) rfl rfl) ak FE k|exact aI (tc (v:=.sl _ _) rfl rfl) ak FE k|exact aI (tc (v:=.z) rfl rfl) ak FE k|exact aI (tc (v:=.agg _) rfl rfl) ak FE k|fail):SO P Y ops dr x v m n s e:=h
theorem ajo(ht:oT x=12:=by exact rfl)(h:SO P Y ops dr x v m n s e:=by intro _ _ _ _ k;first|exact aI (GW V.h V.h V.h rfl rfl) ak ⟨V.h,V.h⟩ k|fail):SO P Y ops dr x v m n s e:=h
theorem ajp(ht:oT x=14:=by exact rfl)(h:SO P Y ops dr x v m n s e:=by intro _ _ _ _ k;first|exact iz (Dy (cs:=[_]) V.h V.h V.h rfl rfl) ak ⟨rfl,by decide,V.h,by decide⟩ k|exact iz (Dy (cs:=[_,_]) V.h V.h V.h rfl rfl) ak ⟨rfl,by decide,V.h,by decide⟩ k|exact iz (Dy (cs:=[]) V.h V.h V.h rfl rfl) ak ⟨rfl,by decide,V.h,by decide⟩ k|fail):SO P Y ops dr x v m n s e:=h
theorem SS7(ht:oT x=7:=by exact rfl)(h:SO P Y ops dr x v m n s e:=by intro _ _ _ _ k;first|exact aav rfl rfl rfl rfl (by first|exact fun _=>trivial|exact fun _=>rfl|exact fun hc=>hc) (by first|exact fun _=>trivial|exact fun _=>rfl|exact fun hc=>hc) k|exact aaw rfl rfl rfl rfl (by first|exact fun _=>trivial|exact fun _=>rfl|exact fun hc=>hc) (by first|exact fun _=>trivial|exact fun _=>rfl|exact fun hc=>hc) k|exact ab1 rfl rfl rfl rfl rfl (by first|exact fun _=>trivial|exact fun _=>rfl|exact fun hc=>hc) (fun hc h=>by first|exact trivial|exact rfl|exact hc|(show Eq _ _;rw[hc,h];rfl)|(show Eq _ _;rw[h,hc];rfl)|(show Eq _ _;simp[hc,h];done)|(show Eq _ _;simp_all;done)|fail) (fun hc h=>by first|exact trivial|exact rfl|exact hc|(show Eq _ _;rw[hc,h];rfl)|(show Eq _ _;rw[h,hc];rfl)|(show Eq _ _;simp[hc,h];done)|(show Eq _ _;simp_all;done)|fail) k|fail):SO P Y ops dr x v m n s e:=h
theorem ajq(ht:oT x=82:=by exact rfl)(h:SO P Y ops dr x v m n s e:=by intro _ _ _ _ k;first|exact aI (Tm rfl rfl eM) ak rfl k|exact aI (LI rfl rfl) ak rfl k|fail):SO P Y ops dr x v m n s e:=h
theorem ajr(ht:oT x=77:=by exact rfl)(h:SO P Y ops dr x v m n s e:=by intro _ _ _ _ k;first|exact bt rfl rfl (Tl rfl rfl du) (fun hc=>⟨ak,rfl⟩) k|exact bt rfl rfl (LL rfl rfl) (fun hc=>⟨ak,rfl⟩) k|fail):SO P Y ops dr x v m n s e:=h
theorem ajs(ht:oT x=22:=by exact rfl)(h:SO P Y ops dr x v m n s e:=by intro _ _ _ _ k;first|exact aI (S7 rfl) ak trivial k|exact aI (S8 rfl ax) ak trivial k|exact aI (S8 rfl di) ak trivial k|fail):SO P Y ops dr x v m n s e:=h
theorem ajt(ht:oT x=16:=by exact rfl)(h:SO P Y ops dr x v m n s e:=by intro _ _ _ _ k;first|exact cA (ab3 rfl rfl rfl rfl V.h) ak ⟨V.h,by kernel_rfl,by kernel_rfl⟩ k|fail):SO P Y ops dr x v m n s e:=h
theorem aju(ht:oT x=54:=by exact rfl)(h:SO P Y ops dr x v m n s e:=by intro _ _ _ _ k;first|exact aI (Tn rfl rfl m9) ak rfl k|exact aI (LM rfl rfl oG) ak rfl k|fail):SO P Y ops dr x v m n s e:=h
theorem ajv(ht:oT x=79:=by exact rfl)(h:SO P Y ops dr x v m n s e:=by intro _ _ _ _ k;first|exact bt rfl rfl (Tk rfl rfl jT) (fun hc=>⟨ak,rfl⟩) k|exact bt rfl rfl (LD rfl rfl) (fun hc=>⟨ak,rfl⟩) k|fail):SO P Y ops dr x v m n s e:=h
theorem ajw(ht:oT x=32:=by exact rfl)(h:SO P Y ops dr x v m n s e:=by intro _ _ _ _ k;first|exact iz (Bz rfl rfl V.h V.h) ak ⟨by omega,rfl,by omega,by rw[b4];omega,V.h⟩ k|exact iz (Bz rfl rfl V.h V.h) ak ⟨by omega,rfl,by omega,by rw[XU];omega,V.h⟩ k|fail):SO P Y ops dr x v m n s e:=h
theorem ajx(ht:oT x=84:=by exact rfl)(h:SO P Y ops dr x v m n s e:=by intro _ _ _ _ k;first|exact aI (LJ rfl rfl) ak rfl k|fail):SO P Y ops dr x v m n s e:=h
theorem ajy(ht:oT x=81:=by exact rfl)(h:SO P Y ops dr x v m n s e:=by intro _ _ _ _ k;first|exact bt rfl rfl (To rfl rfl EX) (fun hc=>⟨ak,rfl⟩) k|exact bt rfl rfl (LH rfl rfl) (fun hc=>⟨ak,rfl⟩) k|fail):SO P Y ops dr x v m n s e:=h
theorem ajz(ht:oT x=55:=by exact rfl)(h:SO P Y ops dr x v m n s e:=by intro _ _ _ _ k;first|exact bt rfl rfl (Tn rfl rfl m9) (fun hc=>⟨ak,rfl⟩) k|exact bt rfl rfl (LM rfl rfl oG) (fun hc=>⟨ak,rfl⟩) k|fail):SO P Y ops dr x v m n s e:=h
theorem ajA(ht:oT x=28:=by exact rfl)(h:SO P Y ops dr x v m n s e:=by intro _ _ _ _ k;first|exact aI (Ta rfl rfl) ak trivial k|fail):SO P Y ops dr x v m n s e:=h
theorem ajB(ht:oT x=23:=by exact rfl)(h:SO P Y ops dr x v m n s e:=by intro _ _ _ _ k;first|exact bt rfl rfl (S7 rfl) (fun hc=>⟨ak,trivial⟩) k|fail):SO P Y ops dr x v m n s e:=h
theorem ajC(ht:oT x=85:=by exact rfl)(h:SO P Y ops dr x v m n s e:=by intro _ _ _ _ k;first|exact bt rfl rfl (Tp rfl rfl w7) (fun hc=>⟨ak,rfl⟩) k|fail):SO P Y ops dr x v m n s e:=h
theorem ajD(ht:oT x=30:=by exact rfl)(h:SO P Y ops dr x v m n s e:=by intro _ _ _ _ k;first|exact iz afB ak trivial k|fail):SO P Y ops dr x v m n s e:=h
theorem ajE(ht:oT x=13:=by exact rfl)(h:SO P Y ops dr x v m n s e:=by intro _ _ _ _ k;first|exact bt rfl rfl (GW V.h V.h V.h rfl rfl) (fun hc=>⟨ak,⟨V.h,V.h⟩⟩) k|fail):SO P Y ops dr x v m n s e:=h
theorem ajF(ht:oT x=42:=by exact rfl)(h:SO P Y ops dr x v m n s e:=by intro _ _ _ _ k;first|exact aI (S' rfl rfl) ak ⟨V.h,by omega,by omega⟩ k|fail):SO P Y ops dr x v m n s e:=h
theorem ajG(ht:oT x=43:=by exact rfl)(h:SO P Y ops dr x v m n s e:=by intro _ _ _ _ k;first|exact bt rfl rfl (S' rfl rfl) (fun hc=>⟨ak,⟨V.h,by omega,by omega⟩⟩) k|fail):SO P Y ops dr x v m n s e:=h
theorem ajH(ht:oT x=80:=by exact rfl)(h:SO P Y ops dr x v m n s e:=by intro _ _ _ _ k;first|exact aI (To rfl rfl EX) ak rfl k|fail):SO P Y ops dr x v m n s e:=h
theorem ajI(ht:oT x=15:=by exact rfl)(h:SO P Y ops dr x v m n s e:=by intro _ _ _ _ k;first|exact aeJ rfl rfl (Dy (cs:=[_]) V.h V.h V.h rfl rfl) ak ⟨rfl,by decide,V.h,by decide⟩ k|fail):SO P Y ops dr x v m n s e:=h
theorem ajJ(ht:oT x=53:=by exact rfl)(h:SO P Y ops dr x v m n s e:=by intro _ _ _ _ k;first|exact bt rfl rfl (Ub rfl rfl oG) (fun hc=>⟨ak,rfl⟩) k|fail):SO P Y ops dr x v m n s e:=h
theorem SS(K:AOps P Y ops dr cf Q r s (q++[e]))(h:SO P Y ops dr x v m n s e:=by first|exact SS2|exact SS4|exact ai6|exact ai7|exact SS6|exact ai8|exact SS3|exact ai9|exact ai'|exact aja|exact ajb|exact ajc|exact ajd|exact aje|exact ajf|exact ajg|exact ajh|exact aji|exact SS8|exact ajj|exact ajk|exact ajl|exact ajm|exact ajn|exact ajo|exact ajp|exact SS7|exact ajq|exact ajr|exact ajs|exact ajt|exact aju|exact ajv|exact ajw|exact ajx|exact ajy|exact ajz|exact ajA|exact ajB|exact ajC|exact ajD|exact ajE|exact ajF|exact ajG|exact ajH|exact ajI|exact ajJ):AOps P Y ops dr cf Q (x::r) ⟨v,m,n⟩ q:=h _ _ _ _ K
variable{x2 x3 x4 x5 x6 x7 x8 x9:Oper}{e2 e3 e4 e5 e6 e7 e8 e9:List Nat×List Nat}
theorem ag(K:AOps P Y ops dr cf Q r s (q++[e]++[e2]))(h:∀ cf Q r q,AOps P Y ops dr cf Q r s (q++[e]++[e2])->AOps P Y ops dr cf Q (x::x2::r) ⟨v,m,n⟩ q:=by intro _ _ _ _ k;(iterate 2 refine SS ?_);exact k):AOps P Y ops dr cf Q (x::x2::r) ⟨v,m,n⟩ q:=h _ _ _ _ K
theorem aq(K:AOps P Y ops dr cf Q r s (q++[e]++[e2]++[e3]))(h:∀ cf Q r q,AOps P Y ops dr cf Q r s (q++[e]++[e2]++[e3])->AOps P Y ops dr cf Q (x::x2::x3::r) ⟨v,m,n⟩ q:=by intro _ _ _ _ k;(iterate 3 refine SS ?_);exact k):AOps P Y ops dr cf Q (x::x2::x3::r) ⟨v,m,n⟩ q:=h _ _ _ _ K
theorem aP(K:AOps P Y ops dr cf Q r s (q++[e]++[e2]++[e3]++[e4]))(h:∀ cf Q r q,AOps P Y ops dr cf Q r s (q++[e]++[e2]++[e3]++[e4])->AOps P Y ops dr cf Q (x::x2::x3::x4::r) ⟨v,m,n⟩ q:=by intro _ _ _ _ k;(iterate 4 refine SS ?_);exact k):AOps P Y ops dr cf Q (x::x2::x3::x4::r) ⟨v,m,n⟩ q:=h _ _ _ _ K
theorem aN(K:AOps P Y ops dr cf Q r s (q++[e]++[e2]++[e3]++[e4]++[e5]))(h:∀ cf Q r q,AOps P Y ops dr cf Q r s (q++[e]++[e2]++[e3]++[e4]++[e5])->AOps P Y ops dr cf Q (x::x2::x3::x4::x5::r) ⟨v,m,n⟩ q:=by intro _ _ _ _ k;(iterate 5 refine SS ?_);exact k):AOps P Y ops dr cf Q (x::x2::x3::x4::x5::r) ⟨v,m,n⟩ q:=h _ _ _ _ K
theorem bB(K:AOps P Y ops dr cf Q r s (q++[e]++[e2]++[e3]++[e4]++[e5]++[e6]))(h:∀ cf Q r q,AOps P Y ops dr cf Q r s (q++[e]++[e2]++[e3]++[e4]++[e5]++[e6])->AOps P Y ops dr cf Q (x::x2::x3::x4::x5::x6::r) ⟨v,m,n⟩ q:=by intro _ _ _ _ k;(iterate 6 refine SS ?_);exact k):AOps P Y ops dr cf Q (x::x2::x3::x4::x5::x6::r) ⟨v,m,n⟩ q:=h _ _ _ _ K
theorem dz(K:AOps P Y ops dr cf Q r s (q++[e]++[e2]++[e3]++[e4]++[e5]++[e6]++[e7]))(h:∀ cf Q r q,AOps P Y ops dr cf Q r s (q++[e]++[e2]++[e3]++[e4]++[e5]++[e6]++[e7])->AOps P Y ops dr cf Q (x::x2::x3::x4::x5::x6::x7::r) ⟨v,m,n⟩ q:=by intro _ _ _ _ k;(iterate 7 refine SS ?_);exact k):AOps P Y ops dr cf Q (x::x2::x3::x4::x5::x6::x7::r) ⟨v,m,n⟩ q:=h _ _ _ _ K
theorem bK(K:AOps P Y ops dr cf Q r s (q++[e]++[e2]++[e3]++[e4]++[e5]++[e6]++[e7]++[e8]))(h:∀ cf Q r q,AOps P Y ops dr cf Q r s (q++[e]++[e2]++[e3]++[e4]++[e5]++[e6]++[e7]++[e8])->AOps P Y ops dr cf Q (x::x2::x3::x4::x5::x6::x7::x8::r) ⟨v,m,n⟩ q:=by intro _ _ _ _ k;(iterate 8 refine SS ?_);exact k):AOps P Y ops dr cf Q (x::x2::x3::x4::x5::x6::x7::x8::r) ⟨v,m,n⟩ q:=h _ _ _ _ K
theorem aJ(K:AOps P Y ops dr cf Q r s (q++[e]++[e2]++[e3]++[e4]++[e5]++[e6]++[e7]++[e8]++[e9]))(h:∀ cf Q r q,AOps P Y ops dr cf Q r s (q++[e]++[e2]++[e3]++[e4]++[e5]++[e6]++[e7]++[e8]++[e9])->AOps P Y ops dr cf Q (x::x2::x3::x4::x5::x6::x7::x8::x9::r) ⟨v,m,n⟩ q:=by intro _ _ _ _ k;(iterate 9 refine SS ?_);exact k):AOps P Y ops dr cf Q (x::x2::x3::x4::x5::x6::x7::x8::x9::r) ⟨v,m,n⟩ q:=h _ _ _ _ K
end
end Go.Abs
namespace Go.Abs
open Go.ChangeShapes Go.WideShapes
inductive B3:List Sh->List D->Prop
 |nil:B3 [] []
 |cons {s:Sh} {l:List Sh} {ds:List D} (x:s.val) (hx:s.ok x) (h:B3 l ds):B3 (s::l) (s.arg x::ds)
def zj(P:Program)(n:Nat):List TypeId->Option (List Sh)
 |[]=>some []
 |t::ts=>match shT P n t,zj P n ts with
  |some s,some l=>some (s::l)
  |_,_=>none
theorem abI{P:Program}{n:Nat}{t:TypeId}{ts:List TypeId}{l:List Sh}(h:zj P n (t::ts)=some l):∃ s l',shT P n t=some s/\zj P n ts=some l'/\l=s::l':=by
 simp only[zj] at h;split at h
 .rename_i s l' h1 h2;simp only[aV] at h;exact⟨s,l',h1,h2,h.symm⟩
 .cases h
section
variable{P:Program}{H:Type}{ec:TypeId×Value->H}{w w':World}{base b0:Nat}{r:Reach}
theorem T9{n:Nat}:∀ {ts:List TypeId} {C:List Sh} {vs:List Value} {ds:List (DataW H)} {ps:List MemPlace},zj P n ts=some C->
 (∀ (j:Nat) t v,ts[j]? =some t->vs[j]? =some v->Value.okWide P w r b0 t v)->DataW.TrodAll ec P w base (fun _=>true) true ts vs ds ps->
 ∃ aS,B3 C aS/\aS.length=vs.length/\∀ (k:Nat) (d:D) (v:Value),aS[k]? =some d->vs[k]? =some v->R (fun _=>False) noRows w d v
 |[],C,[],[],_,hs,_,_=>by
  simp only[zj,aV] at hs;subst hs;exact⟨[],.nil,rfl,oS⟩
 |t::ts,C,v::vs,d::ds,ps,hs,bZ,h=>by
  obtain⟨p,q,h1,h2,_⟩:=h;obtain⟨s,l',J,M,rfl⟩:=abI hs;obtain⟨x,X,hx⟩:=arg_R J (bZ 0 t v rfl rfl) h1;obtain⟨aS,a1,a2,a3⟩:=T9 M (fun j t v hj hv=>bZ (j+1) t v (by simpa using hj) (by simpa using hv)) h2;refine⟨s.arg x::aS,.cons x X a1,by simp[a2],fun k d v hd hv=>?_⟩;cases k with
  |zero=>
   simp only[List.getElem?_cons_zero,aV] at hd hv;subst hd hv;exact hx
  |succ k=>exact a3 k d v (by simpa using hd) (by simpa using hv)
 |[],_,_::_,_,_,_,_,h=>by simp[DataW.TrodAll] at h
 |[],_,[],_::_,_,_,_,h=>by simp[DataW.TrodAll] at h
 |_::_,_,[],_,_,_,_,h=>by simp[DataW.TrodAll] at h
 |_::_,_,_::_,[],_,_,_,h=>by simp[DataW.TrodAll] at h
theorem Kept.same(h:Kept w w'){p:MemPlace}(hp:p.block<w.heap.size):w.sameAt w' p:=by
 cases p with
 |cell b o=>exact Go.World.cell?_of_block (w:=w) (h.2.1 b hp)
 |map b=>exact h.2.1 b hp
theorem Kept.frame(h:Kept w w')(C:MemPlace->Prop):w.keptBut w' C:=by
 refine⟨h.2.2.1,h.2.2.2,fun i hi=>?_⟩;rw[h.2.1 i hi];split<;>simp_all
theorem O'(hl:laidOutB P=true)(h:Kept w w'):∀ {ts:List TypeId} {vs:List Value} {ds:List (DataW H)} {ps:List MemPlace},(ts.all fun t=>P.readableRec t&&decide (t<P.types.size))=true->
 DataW.TrodAll ec P w 0 (fun _=>true) true ts vs ds ps->DataW.TrodAll ec P w' 0 (fun b=>decide (b<w.heap.size)) true ts vs ds ps
 |[],[],[],_,_,h0=>h0
 |t::ts,v::vs,d::ds,ps,ht,h0=>by
  obtain⟨p,q,h1,h2,rfl⟩:=h0;simp only[List.all_cons,aO,decide_eq_true_eq] at ht;have ao:∀ x∈p,x.block<w.heap.size:=by obtain⟨m,hm⟩:=h1;exact DataW.trod_lt m _ _ _ hm
  exact⟨p,q,WideElems.Trod_stays hl ht.1.1 ht.1.2 h1 (fun x hx=>h.same (ao x hx)) (fun x hx=>by simpa using ao x hx),O' hl h (by simpa using ht.2) h2,rfl⟩
 |[],_::_,_,_,_,h0=>by simp[DataW.TrodAll] at h0
 |[],[],_::_,_,_,h0=>by simp[DataW.TrodAll] at h0
 |_::_,[],_,_,_,h0=>by simp[DataW.TrodAll] at h0
 |_::_,_::_,[],_,_,h0=>by simp[DataW.TrodAll] at h0
theorem Ps:∀ {ts:List TypeId} {vs:List Value} {ds:List (DataW H)} {ps:List MemPlace},DataW.TrodAll ec P w 0 (fun _=>true) true ts vs ds ps->ds.length=ts.length
 |[],[],[],_,_=>rfl
 |t::ts,v::vs,d::ds,ps,h0=>by
  obtain⟨p,q,h1,h2,rfl⟩:=h0;simp[Ps h2]
 |[],_::_,_,_,h0=>by simp[DataW.TrodAll] at h0
 |[],[],_::_,_,h0=>by simp[DataW.TrodAll] at h0
 |_::_,[],_,_,h0=>by simp[DataW.TrodAll] at h0
 |_::_,_::_,[],_,h0=>by simp[DataW.TrodAll] at h0
end
theorem Zh{C:Checked}{f:FuncId}{fn:Func}{s:ChangeSpec}{H:Type}{ec:TypeId×Value->H}{n:Nat}{Bp:List Sh}{tb:TypeId}
 (VO:s.vars=[]) (hs:∀ ds:List (DataW H),ds.length=fn.params.size->s.fn H ds={ results:=[.lit (.bool true)],args:=ds })
 (J:laidOutB C.prog=true) (M:(fn.params.toList.all fun t=>C.prog.readableRec t&&decide (t<C.prog.types.size))=true) (fC:fn.resultTypes= #[tb]) (hb:C.prog.underlying tb=some .bool)
 (hsh:zj C.prog n fn.params.toList=some Bp) (h:∀ aS,B3 Bp aS->PCall C.prog f aS (.s (.bool true)))
 (W:World) (base:Nat) (args:Array Value) (ds gs:List (DataW H)) (before:List MemPlace)
 (Fi:∀ (j:Nat) t v,fn.params[j]? =some t->args[j]? =some v->Value.okWide C.prog W .any base t v)
 (hW:DataW.Whole ec C.prog fn.params.toList s.vars false W args.toList ds gs before):
 Calls C.prog f args W fun e W'=>∃ v,e=.returned v/\s.post ec C.prog fn false true false false W args v W':=by
 have hW':=hW;obtain⟨p,q,X,hV,rfl,hfz,cR⟩:=hW;rw[VO] at hV
 have hg:gs=[]/\q=[]:=by
  cases gs with
  |nil=>exact⟨rfl,hV⟩
  |cons g gs=>exact hV.elim
 obtain⟨rfl,rfl⟩:=hg;obtain⟨aS,a1,a2,a3⟩:=T9 hsh (fun j t v hj hv=>Fi j t v (by simpa using hj) (by simpa using hv)) X;refine((h aS a1).2.2 (fun _=>False) W args (fun _ hf=>hf.elim) ⟨by simpa using a2.symm,fun k d v hd hv=>a3 k d v hd (by simpa using hv)⟩).mono ?_;rintro e W' ⟨v,rfl,hv,hk⟩;obtain⟨rfl,_⟩:=hv.s_inv;have hlen:ds.length=fn.params.size:=by simpa using Ps X
 refine⟨_,rfl,ds,[],_,[],p,[],hW',?_,?_,?_,hk.frame _,fun h=>by cases h⟩
 .rw[List.append_nil,hs ds hlen,fC];exact⟨[],[],⟨1,by simp[DataW.trod,Value.cells,hb]⟩,rfl,rfl⟩
 .rw[List.append_nil,hs ds hlen];exact O' J hk M X
 .rw[List.append_nil,hs ds hlen,VO];rfl
end Go.Abs
section
open Go Go.Abs Go.Proofs Go.Argus
namespace Go.Proofs.Tryz.K
theorem MC{l:List Int}{g:FuncId}{fs cs:List D}{p:Int->Bool}(ht:Tr (.fn (.func g) fs cs))(hg:∀ x∈l,PCall prog g (fs++[U8 x]++cs) (B (p x))):PCall prog 252 [la l,.fn (.func g) fs cs] (I (nX p l)):=by
 refine mG LX.he (.cons (rZ _) (.cons ht .nil)) fun C=>?_;have hlen:=(C (la l) oS).sl.1;unfold maxLen at hlen;refine bg LX (.cons (rZ _) (.cons ht .nil)) (Tr.s _) ?_;rw[afO];refine ws (SS ?_);refine af (aB (az (aq ?_)))
 refine af (bR (fun s=>Ghost prog s ⟨aD [],fun _=>none,0⟩/\∀ (j:Nat) y,l[j]? =some y->p y=false) (dV (α:=Nat) (fun k=>⟨aD [(0,la l),(1,.fn (.func g) fs cs),(7,I l.length),(8,I k)],fun _=>none,0⟩)
  (fun k=>k<=l.length/\∀ j y,j<k->l[j]? =some y->p y=false) (fun k=>l.length - k) 0 (ap eH) ⟨oG,fun j y hj=>by omega⟩ ?_) ?_)
 .rintro k ⟨hk,hinv⟩;refine SS ?_;refine af ⟨_,rfl,fun h=>?_,fun h=>?_⟩
  .have ao:k<l.length:=by simpa using h
   have hx:l[k]? =some l[k]:=by simp[ao]
   generalize l[k]=x at hx;have M:=hg x (bU hx);refine ws (ag ?_);refine er (aN ?_);refine cl M (af (aw rfl (fun hp=>?_) fun hp=>?_))
   .refine ws (ag ?_);refine af (aY (br (aR (av rfl ?_))));rw[Dz hx hp hinv];rfl
   .refine bS (ag ?_);refine af (aK (k+1) (ap eH) ⟨oG,fun j y hj hy=>?_⟩ oG);by_cases e:j=k
    .subst e;rw[hx] at hy;cases hy;exact hp
    .exact hinv j y oG hy
  .have X:¬ k<l.length:=by simpa using h
   exact⟨.forget _ _ _ _ fun _=>.inr rfl,fun j y hy=>hinv j y (by have:=(bw.1 hy).1;omega) hy⟩
 .rintro s ⟨hg,J⟩;refine⟨_,hg,aj ?_⟩;refine SS ?_;refine af (av rfl ?_);rw[DA J];rfl
theorem w8{l:List Int}{g:FuncId}{fs cs:List D}{p:Int->Bool}(ht:Tr (.fn (.func g) fs cs))(hg:∀ x∈l,PCall prog g (fs++[U8 x]++cs) (B (p x))):PCall prog 228 [la l,.fn (.func g) fs cs] (B (l.any p)):=by
 have MC:=MC ht hg;refine bg Uq (.cons (rZ _) (.cons ht .nil)) (Tr.s _) ?_;rw[afP];refine ws (SS ?_);refine er (ag ?_);refine cl MC (ag ?_);refine af (av rfl ?_);rw[<- DI];rfl
theorem MD{l:List ByteArray}{g:FuncId}{fs cs:List D}{p:ByteArray->Bool}(ht:Tr (.fn (.func g) fs cs))(hg:∀ x∈l,PCall prog g (fs++[S x]++cs) (B (p x))):PCall prog 231 [r7 l,.fn (.func g) fs cs] (I (nX p l)):=by
 refine mG LY.he (.cons (Ac _) (.cons ht .nil)) fun C=>?_;have hlen:=(C (r7 l) oS).sl.1;unfold maxLen at hlen;refine bg LY (.cons (Ac _) (.cons ht .nil)) (Tr.s _) ?_;rw[afQ];refine ws (SS ?_);refine af (aB (az (aq ?_)))
 refine af (bR (fun s=>Ghost prog s ⟨aD [],fun _=>none,0⟩/\∀ (j:Nat) y,l[j]? =some y->p y=false) (dV (α:=Nat) (fun k=>⟨aD [(0,r7 l),(1,.fn (.func g) fs cs),(7,I l.length),(8,I k)],fun _=>none,0⟩)
  (fun k=>k<=l.length/\∀ j y,j<k->l[j]? =some y->p y=false) (fun k=>l.length - k) 0 (ap eH) ⟨oG,fun j y hj=>by omega⟩ ?_) ?_)
 .rintro k ⟨hk,hinv⟩;refine SS ?_;refine af ⟨_,rfl,fun h=>?_,fun h=>?_⟩
  .have ao:k<l.length:=by simpa using h
   have hx:l[k]? =some l[k]:=by simp[ao]
   generalize l[k]=x at hx;have M:=hg x (bU hx);refine ws (ag ?_);refine er (aN ?_);refine cl M (af (aw rfl (fun hp=>?_) fun hp=>?_))
   .refine ws (ag ?_);refine af (aY (br (aR (av rfl ?_))));rw[Dz hx hp hinv];rfl
   .refine bS (ag ?_);refine af (aK (k+1) (ap eH) ⟨oG,fun j y hj hy=>?_⟩ oG);by_cases e:j=k
    .subst e;rw[hx] at hy;cases hy;exact hp
    .exact hinv j y oG hy
  .have X:¬ k<l.length:=by simpa using h
   exact⟨.forget _ _ _ _ fun _=>.inr rfl,fun j y hy=>hinv j y (by have:=(bw.1 hy).1;omega) hy⟩
 .rintro s ⟨hg,J⟩;refine⟨_,hg,aj ?_⟩;refine SS ?_;refine af (av rfl ?_);rw[DA J];rfl
theorem H9{l:List ByteArray}{g:FuncId}{fs cs:List D}{p:ByteArray->Bool}(ht:Tr (.fn (.func g) fs cs))(hg:∀ x∈l,PCall prog g (fs++[S x]++cs) (B (p x))):PCall prog 192 [r7 l,.fn (.func g) fs cs] (B (l.any p)):=by
 have MD:=MD ht hg;refine bg Ur (.cons (Ac _) (.cons ht .nil)) (Tr.s _) ?_;rw[afR];refine ws (SS ?_);refine er (ag ?_);refine cl MD (ag ?_);refine af (av rfl ?_);rw[<- DI];rfl
theorem ME{l:List kQ}{g:FuncId}{fs cs:List D}{p:kQ->Bool}(ht:Tr (.fn (.func g) fs cs))(hg:∀ x∈l,PCall prog g (fs++[.agg (mJ x)]++cs) (B (p x))):PCall prog 260 [qH l,.fn (.func g) fs cs] (I (nX p l)):=by
 refine mG LZ.he (.cons (kH _) (.cons ht .nil)) fun C=>?_;have hlen:=(C (qH l) oS).sl.1;unfold maxLen at hlen;refine bg LZ (.cons (kH _) (.cons ht .nil)) (Tr.s _) ?_;rw[afS];refine ws (SS ?_);refine af (aB (az (aq ?_)))
 refine af (bR (fun s=>Ghost prog s ⟨aD [],fun _=>none,0⟩/\∀ (j:Nat) y,l[j]? =some y->p y=false) (dV (α:=Nat) (fun k=>⟨aD [(0,qH l),(1,.fn (.func g) fs cs),(7,I l.length),(8,I k)],fun _=>none,0⟩)
  (fun k=>k<=l.length/\∀ j y,j<k->l[j]? =some y->p y=false) (fun k=>l.length - k) 0 (ap eH) ⟨oG,fun j y hj=>by omega⟩ ?_) ?_)
 .rintro k ⟨hk,hinv⟩;refine SS ?_;refine af ⟨_,rfl,fun h=>?_,fun h=>?_⟩
  .have ao:k<l.length:=by simpa using h
   have hx:l[k]? =some l[k]:=by simp[ao]
   generalize l[k]=x at hx;have M:=hg x (bU hx);refine ws (ag ?_);refine er (aN ?_);refine cl M (af (aw rfl (fun hp=>?_) fun hp=>?_))
   .refine ws (ag ?_);refine af (aY (br (aR (av rfl ?_))));rw[Dz hx hp hinv];rfl
   .refine bS (ag ?_);refine af (aK (k+1) (ap eH) ⟨oG,fun j y hj hy=>?_⟩ oG);by_cases e:j=k
    .subst e;rw[hx] at hy;cases hy;exact hp
    .exact hinv j y oG hy
  .have X:¬ k<l.length:=by simpa using h
   exact⟨.forget _ _ _ _ fun _=>.inr rfl,fun j y hy=>hinv j y (by have:=(bw.1 hy).1;omega) hy⟩
 .rintro s ⟨hg,J⟩;refine⟨_,hg,aj ?_⟩;refine SS ?_;refine af (av rfl ?_);rw[DA J];rfl
theorem EY{l:List kQ}{g:FuncId}{fs cs:List D}{p:kQ->Bool}(ht:Tr (.fn (.func g) fs cs))(hg:∀ x∈l,PCall prog g (fs++[.agg (mJ x)]++cs) (B (p x))):PCall prog 254 [qH l,.fn (.func g) fs cs] (B (l.any p)):=by
 have ME:=ME ht hg;refine bg Us (.cons (kH _) (.cons ht .nil)) (Tr.s _) ?_;rw[afT];refine ws (SS ?_);refine er (ag ?_);refine cl ME (ag ?_);refine af (av rfl ?_);rw[<- DI];rfl
theorem AD{l:List Int}{g:FuncId}{fs cs:List D}{p:Int->Bool}(ht:Tr (.fn (.func g) fs cs))(hg:∀ x∈l,PCall prog g (fs++[I x]++cs) (B (p x))):PCall prog 130 [au l,.fn (.func g) fs cs] (I (nX p l)):=by
 refine mG L1.he (.cons (cL _) (.cons ht .nil)) fun C=>?_;have hlen:=(C (au l) oS).sl.1;unfold maxLen at hlen;refine bg L1 (.cons (cL _) (.cons ht .nil)) (Tr.s _) ?_;rw[afU];refine ws (SS ?_);refine af (aB (az (aq ?_)))
 refine af (bR (fun s=>Ghost prog s ⟨aD [],fun _=>none,0⟩/\∀ (j:Nat) y,l[j]? =some y->p y=false) (dV (α:=Nat) (fun k=>⟨aD [(0,au l),(1,.fn (.func g) fs cs),(7,I l.length),(8,I k)],fun _=>none,0⟩)
  (fun k=>k<=l.length/\∀ j y,j<k->l[j]? =some y->p y=false) (fun k=>l.length - k) 0 (ap eH) ⟨oG,fun j y hj=>by omega⟩ ?_) ?_)
 .rintro k ⟨hk,hinv⟩;refine SS ?_;refine af ⟨_,rfl,fun h=>?_,fun h=>?_⟩
  .have ao:k<l.length:=by simpa using h
   have hx:l[k]? =some l[k]:=by simp[ao]
   generalize l[k]=x at hx;have M:=hg x (bU hx);refine ws (ag ?_);refine er (aN ?_);refine cl M (af (aw rfl (fun hp=>?_) fun hp=>?_))
   .refine ws (ag ?_);refine af (aY (br (aR (av rfl ?_))));rw[Dz hx hp hinv];rfl
   .refine bS (ag ?_);refine af (aK (k+1) (ap eH) ⟨oG,fun j y hj hy=>?_⟩ oG);by_cases e:j=k
    .subst e;rw[hx] at hy;cases hy;exact hp
    .exact hinv j y oG hy
  .have X:¬ k<l.length:=by simpa using h
   exact⟨.forget _ _ _ _ fun _=>.inr rfl,fun j y hy=>hinv j y (by have:=(bw.1 hy).1;omega) hy⟩
 .rintro s ⟨hg,J⟩;refine⟨_,hg,aj ?_⟩;refine SS ?_;refine af (av rfl ?_);rw[DA J];rfl
theorem sD{l:List Int}{g:FuncId}{fs cs:List D}{p:Int->Bool}(ht:Tr (.fn (.func g) fs cs))(hg:∀ x∈l,PCall prog g (fs++[I x]++cs) (B (p x))):PCall prog 119 [au l,.fn (.func g) fs cs] (B (l.any p)):=by
 have AD:=AD ht hg;refine bg Ut (.cons (cL _) (.cons ht .nil)) (Tr.s _) ?_;rw[afV];refine ws (SS ?_);refine er (ag ?_);refine cl AD (ag ?_);refine af (av rfl ?_);rw[<- DI];rfl
theorem nu{n a b:Int}:PCall prog 96 [I n,I a,I b] (B (dg n a b)):=by
 refine bg WO (by simp[Tr.s]) (Tr.s _) ?_;rw[akt];refine ws (SS ?_);refine er (aJ ?_);refine af (av (d:=.s (.bool _)) rfl ?_);simp[dg]
theorem aku{b:Int}:PCall prog 229 [U8 b] (B (uK b)):=by
 refine bg UX (by simp[Tr.s]) (Tr.s _) ?_;rw[agw];refine ws (SS ?_);refine er (dz ?_);refine af (av (d:=.s (.bool _)) rfl ?_);simp[uK]
theorem akv{b:Int}:PCall prog 232 [U8 b] (B (uL b)):=by
 refine bg UY (by simp[Tr.s]) (Tr.s _) ?_;rw[agx];refine ws (SS ?_);refine er (aJ ?_);refine bB ?_;refine af (av (d:=.s (.bool _)) rfl ?_);simp[uL]
theorem tY{s:ByteArray}:PCall prog 190 [S s] (B (lX s)):=by
 refine bg UZ (by simp[Tr.s]) (Tr.s _) ?_;have w8:=w8 (l:=c7 s) (g:=229) (fs:=[]) (cs:=[]) (p:=uK) (.fn oS oS) (fun x _=>aku);rw[agy];refine ws (SS ?_);refine er (ag ?_);refine cl nu (ag ?_);refine bt rfl rfl (QK rfl V.h V.h) (fun hc=>⟨ak,⟨V.h,by have:=lh.1 (by simpa using hc);unfold maxLen;omega⟩⟩) ?_;refine gc w8 (aq ?_);refine af (av (d:=.s (.bool _)) rfl ?_);simp[lX]
theorem E3{s:ByteArray}:PCall prog 194 [S s] (B (isName s)):=by
 refine bg U0 (by simp[Tr.s]) (Tr.s _) ?_;have w8:=w8 (l:=c7 s) (g:=232) (fs:=[]) (cs:=[]) (p:=uL) (.fn oS oS) (fun x _=>akv);rw[agz];refine ws (SS ?_);refine er (ag ?_);refine cl nu (ag ?_);refine bt rfl rfl (QK rfl V.h V.h) (fun hc=>⟨ak,⟨V.h,by have:=lh.1 (by simpa using hc);unfold maxLen;omega⟩⟩) ?_;refine gc w8 (aq ?_);refine af (av (d:=.s (.bool _)) rfl ?_);simp[isName]
theorem akw{s:ByteArray}:PCall prog 193 [S s] (B !(isName s)):=by
 refine bg U1 (by simp[Tr.s]) (Tr.s _) ?_;rw[agA];refine ws (SS ?_);refine er (SS ?_);refine cl E3 (ag ?_);refine af (av rfl rfl)
theorem akx{b m:Int}:PCall prog 230 [U8 b,.pt [U8 m]] (B (nB m b)):=by
 refine bg U2 (.cons (.s _) (.cons (.pt (by simp[Tr.s])) .nil)) (Tr.s _) ?_;rw[agB];refine ws (SS ?_);refine er (bK ?_);refine af (av (d:=.s (.bool _)) rfl ?_);simp[nB]
theorem MU{l:List Int}{m:Int}:PCall prog 191 [la l,U8 m] (B (fx l m)):=by
 refine bg U3 (.cons (rZ _) (.cons (.s _) .nil)) (Tr.s _) ?_;have w8:=w8 (l:=l) (g:=230) (fs:=[]) (cs:=[.pt [U8 m]]) (p:=nB m) (.fn oS (.cons (.pt (by simp[Tr.s])) .nil)) (fun x _=>akx);rw[agC];refine az (ag ?_);refine af (aW (bG [(0,[U8 m],5)] eH (l:=[(0,la l),(3,.pt [U8 m])]) eH) (aj (ag ?_)));refine cl w8 (ag ?_);refine af (av rfl rfl)
theorem JX{p q:D}{f:aG}(h:Real (.agg (bq p q f))):f.al.length<=maxLen/\f.aZ.length<=maxLen/\f.signals.length<=maxLen/\f.blocks.length<=maxLen:=
 ⟨(h.agg (la f.al) (by simp[bq])).sl.1,(h.agg (la f.aZ) (by simp[bq])).sl.1,(h.agg (r7 f.signals) (by simp[bq])).sl.1,(h.agg (gv f.blocks) (by simp[bq])).sl.1⟩
section
variable{p q:D}{f:aG}(hp:Tr p)(hq:Tr q)(fN:p.one=true)(gM:q.one=true)
include hp hq fN gM
theorem kp{n:Int}:PCall prog 233 [.agg (bq p q f),I n] (B (dg n 0 (f.blocks.length - 1))):=by
 have C:∀ a∈[D.agg (bq p q f),I n],Tr a:=.cons (nG hp hq f) (.cons (.s _) .nil);refine mG Mf.he C fun J=>?_;obtain⟨M,X,l3,l4⟩:=JX (J _ (List.mem_cons_self ..));unfold maxLen at*
 refine bg Mf C (Tr.s _) ?_;rw[agL];refine ws (ag ?_);refine er (bB ?_);refine cl nu (SS ?_);refine af (av rfl rfl)
theorem fV{r:Int}:PCall prog 234 [.agg (bq p q f),I r] (U8 (cG f.al r)):=by
 have C:∀ a∈[D.agg (bq p q f),I r],Tr a:=.cons (nG hp hq f) (.cons (.s _) .nil);refine mG Mg.he C fun M=>?_;obtain⟨X,l2,l3,l4⟩:=JX (M _ (List.mem_cons_self ..));unfold maxLen at*
 refine bg Mg C (Tr.s _) ?_;rw[agM];refine ws (ag ?_);refine af (aB (aj (bB ?_)));refine cl nu (SS ?_);refine af (cx rfl (fun h=>?_) fun h=>?_)
 .refine aB (aj (SS ?_));refine af (bX (av rfl ?_));rw[JU (fun J=>by simp[dg] at h;omega)];rfl
 .have J:0<=r/\r<f.al.length:=by simp[dg] at h;omega
  obtain⟨i,rfl⟩:=cU J.1;have ao:i<f.al.length:=by omega
  have hx:f.al[i]? =some f.al[i]:=by simp[ao]
  generalize f.al[i]=x at hx;refine bP (aj (dz ?_));refine af (av rfl ?_);rw[uN hx];rfl
theorem akH{r:Int}:PCall prog 256 [I r,.pt (bq p q f)] (B !(eX f.al r)):=by
 have C:∀ a∈[I r,D.pt (bq p q f)],Tr a:=.cons (.s _) (.cons (.pt (DK hp hq f)) .nil);have fV:=fV (f:=f) (r:=r) hp hq fN gM;refine bg Vb C (Tr.s _) ?_;rw[agN];refine ws (SS ?_);refine er (ag ?_);refine cl fV (aP ?_);refine gc fV (aq ?_);refine af (av (d:=.s (.bool _)) rfl ?_);unfold eX;generalize cG f.al r=k;show D.s (.bool _)=D.s (.bool _);simp only[bne];cases (k==1)<;>cases (k==2)<;>rfl
theorem iZ{l:List Int}:PCall prog 237 [.agg (bq p q f),au l] (B (gX f.al l)):=by
 have C:∀ a∈[D.agg (bq p q f),au l],Tr a:=.cons (nG hp hq f) (.cons (cL _) .nil);have sD:=sD (l:=l) (g:=256) (fs:=[]) (cs:=[.pt (bq p q f)]) (p:=fun r=> !(eX f.al r)) (.fn oS (.cons (.pt (DK hp hq f)) .nil)) (fun x _=>akH hp hq fN gM);refine bg Vc C (Tr.s _) ?_;rw[agO];refine az (ag ?_);refine af (aW (bG [(0,bq p q f,133)] eH (l:=[(1,au l),(2,.pt (bq p q f))]) eH) (aj (ag ?_)));refine cl sD (ag ?_);refine af (av (d:=.s (.bool _)) rfl ?_);simp[gX,List.all_eq_not_any_not]
theorem Im{r n:Int}:PCall prog 239 [.agg (bq p q f),I r,I n] (B (mT f.al f.aZ r n)):=by
 have J:∀ a∈[D.agg (bq p q f),I r,I n],Tr a:=.cons (nG hp hq f) (.cons (.s _) (.cons (.s _) .nil));refine mG Mh.he J fun M=>?_;obtain⟨l1,l2,l3,l4⟩:=JX (M _ (List.mem_cons_self ..));unfold maxLen at*
 have fV:=fV (f:=f) (r:=r) hp hq fN gM;refine bg Mh J (Tr.s _) ?_;rw[agP];have nu:=nu (n:=n) (a:=0) (b:=f.aZ.length - 1);by_cases X:0<=n/\n<f.aZ.length
 .obtain⟨i,rfl⟩:=cU X.1;have ao:i<f.aZ.length:=by omega
  have hx:f.aZ[i]? =some f.aZ[i]:=by simp[ao]
  generalize f.aZ[i]=x at hx;have C:dg (i:Int) 0 (f.aZ.length - 1)=true:=lh.2 oG;rw[C] at nu;refine ws (ag ?_);refine af (dE Qi (bB ?_));refine cl nu (SS ?_);refine bt rfl rfl (ep (vs:=bq _ _ _) rfl rfl V.h V.h rfl) (fun hc=>⟨ak,(ez V.h V.h (by first|(simp;done)|omega|exact bD rfl))⟩) ?_;refine SS ?_;refine gc fV (aJ ?_);refine a8 bc (av (d:=.s (.bool _)) rfl ?_);simp[mT,C,uN hx]
 .have C:dg n 0 (f.aZ.length - 1)=false:=aa4.2 oG;rw[C] at nu;refine ws (ag ?_);refine af (dE Qi (bB ?_));refine cl nu (SS ?_);(iterate 10 refine z fun _ _=>?_);refine ag ?_;refine a8 bc (av (d:=.s (.bool _)) rfl ?_);simp[mT,C]
end
section
variable{p q:D}{f:aG}(hp:Tr p)(hq:Tr q)(fN:p.one=true)(gM:q.one=true)
include hp hq fN gM
theorem E9{r want kd:Int}:PCall prog 253 [.agg (bq p q f),I r,I want,U8 kd] (B (mP f.al r want kd)):=by
 have C:∀ a∈[D.agg (bq p q f),I r,I want,U8 kd],Tr a:=.cons (nG hp hq f) (.cons (.s _) (.cons (.s _) (.cons (.s _) .nil)));have fV:=fV (f:=f) (r:=r) hp hq fN gM;refine bg Vf C (Tr.s _) ?_;rw[agS];refine ws (ag ?_);refine er (aI (ep (vs:=bq _ _ _) rfl rfl V.h V.h rfl) ak (ez V.h V.h (by first|(simp;done)|omega|exact bD rfl)) ?_);refine SS ?_;refine cl fV (SS ?_);refine af (aB (aj (SS ?_)));refine af (oD (aj (ag ?_)));refine af (aw rfl (fun h0=>?_) fun h0=>?_)
 .have h0:want=0:=by simpa using h0
  refine ws (aq ?_);refine af (aY (bO (aR (av (d:=.s (.bool _)) rfl ?_))));simp[mP,h0]
 have h0:¬ want=0:=by simpa using h0
 refine ws (ag ?_);refine af (aw rfl (fun h1=>?_) fun h1=>?_)
 .have h1:want=1:=by simpa using h1
  refine ws (aq ?_);refine af (aY (bO (aR (av (d:=.s (.bool _)) rfl ?_))));simp[mP,h1]
 have h1:¬ want=1:=by simpa using h1
 refine ws (ag ?_);refine af (aw rfl (fun h2=>?_) fun h2=>?_)
 .have h2:want=2:=by simpa using h2
  refine ws (aq ?_);refine af (aY (bO (aR (av (d:=.s (.bool _)) rfl ?_))));simp[mP,h2]
 have h2:¬ want=2:=by simpa using h2
 refine ws (ag ?_);refine af (aw rfl (fun h3=>?_) fun h3=>?_)
 .have h3:want=3:=by simpa using h3
  refine ws (dz ?_);refine af (aY (bO (aR (av (d:=.s (.bool _)) rfl ?_))));simp[mP,h3,eX,ib]
 have h3:¬ want=3:=by simpa using h3
 refine nI (aj (bK ?_));refine af (av (d:=.s (.bool _)) rfl ?_);simp[mP,h0,h1,h2,h3,ib,bne]
theorem CC{x:bE}{s:Shape}:PCall prog 235 [.agg (bq p q f),.agg (bu x),.agg (j6 s)] (B (qJ f.al x s)):=by
 have J:∀ a∈[D.agg (bq p q f),.agg (bu x),.agg (j6 s)],Tr a:=.cons (nG hp hq f) (.cons (.agg (r8 x)) (.cons (.agg (Ql s)) .nil));have fV:=fun r=>fV (f:=f) (r:=r) hp hq fN gM;have E9:= @E9 p q f hp hq fN gM;have iZ:=iZ (f:=f) hp hq fN gM (l:=x.args);have M:=nu (n:=x.n) (a:=s.low) (b:=s.high);refine bg Vg J (Tr.s _) ?_;rw[agT];refine az (ag ?_);refine iz (uU (cs:=j6 _) rfl) ak (by first|rfl|exact wl fN gM|exact l6 _|exact wL dP) ?_;refine SS ?_;refine af (aW (bG [(0,bq p q f,133),(1,bu x,66),(2,j6 s,205)] eH (l:=[(3,.pt (bq p q f)),(4,.pt (bu x)),(5,.pt (j6 s))]) eH) (aj ?_));have C:=fV;have fV:=fV x.to;refine aq ?_;refine cl fV (SS ?_);refine af (eI (fun s'=>Ghost prog s' ⟨aD [(3,.pt (bq p q f)),(4,.pt (bu x)),(5,.pt (j6 s)),(7,U8 (r6 f.al x s))],fun _=>none,3⟩) (aj ?_) fun s' hg=>⟨_,hg,?_⟩)
 .refine bK ?_;refine af (aw rfl (fun h=>lm ?_) fun h=>bd ?_)
  .have h:s.to=0\/s.to=1:=by simpa[ib] using h
   have fV:=C x.a;refine aq ?_;refine cl fV (SS ?_);refine af ?_;show Ghost _ _ _;refine ap (l:=[(3,_),(4,_),(5,_),(7,_)]) ⟨rfl,rfl,rfl,?_,trivial⟩;simp only[r6,if_pos h];rfl
  .have h:¬ (s.to=0\/s.to=1):=by simpa[ib] using h
   show Ghost _ _ _;refine ap (l:=[(3,_),(4,_),(5,_),(7,_)]) ⟨rfl,rfl,rfl,?_,trivial⟩;simp only[r6,if_neg h];rfl
 refine ws (aN ?_);refine af (eI (fun s'=>Ghost prog s' ⟨aD [(3,.pt (bq p q f)),(4,.pt (bu x)),(5,.pt (j6 s)),(7,U8 (r6 f.al x s)),(8,B (rX f.al x s))],fun _=>none,3⟩) (aj ?_) fun s' hg=>⟨_,hg,?_⟩)
 .refine ag ?_;refine af (oI (aj (ag ?_)));refine af (aw rfl (fun h=>nE ?_) fun h=>aj ?_)
  .have h:s.args=5:=by simpa using h
   have nu:=nu (n:=x.args.length) (a:=1) (b:=6);refine aq ?_;refine cl nu (aP ?_);refine gc iZ (ag ?_);refine af (ap ⟨rfl,rfl,rfl,rfl,?_,trivial⟩);show D.s (.bool _)=_;simp[rX,h]
  .have h5:¬ s.args=5:=by simpa using h
   refine ag ?_;refine af (aw rfl (fun h=>nE ?_) fun h=>Ke ?_)
   .have h:s.args=6:=by simpa using h
    refine bK ?_;refine gc iZ (ag ?_);refine af (ap ⟨rfl,rfl,rfl,rfl,?_,trivial⟩);show D.s (.bool _)=_;simp[rX,h,ib]
   .have X:¬ s.args=6:=by simpa using h
    refine ap ⟨rfl,rfl,rfl,rfl,?_,trivial⟩;show D.s (.bool _)=_;simp[rX,h5,X,ib]
 refine ws (aN ?_);refine cl E9 (dz ?_);refine gc E9 (bK ?_);refine gc E9 (aJ ?_);refine ag ?_;refine gc nu (ag ?_);refine af (av (d:=.s (.bool _)) rfl ?_);simp[qJ,Bool.and_assoc]
end
theorem M7{x:bE}:PCall prog 257 [.agg (bu x)] (B (Ex x)):=by
 have C:∀ a∈[D.agg (bu x)],Tr a:=.cons (.agg (r8 x)) .nil;refine bg Vl C (Tr.s _) ?_;rw[agX];refine ws (ag ?_);refine er (aJ ?_);refine aJ ?_;refine aJ ?_;refine aq ?_;refine af (av (d:=.s (.bool _)) rfl ?_);simp only[Ex,ib];cases decide (x.op=0)<;>cases decide (x.to=0)<;>cases decide (x.a=0)<;>cases decide (x.b=0)<;>cases decide (x.n=0)<;>rfl
theorem M8{x:Argus.End}:PCall prog 238 [.agg (bh x)] (B (Aw x)):=by
 have C:∀ a∈[D.agg (bh x)],Tr a:=.cons (.agg (lR x)) .nil;have M7:=M7 (x:=x.ins);refine bg Vm C (Tr.s _) ?_;rw[agY];refine ws (ag ?_);refine er (aJ ?_);refine aJ ?_;refine aJ ?_;refine aJ ?_;refine aJ ?_;refine ag ?_;refine bt rfl rfl (ep (vs:=bu _) rfl rfl V.h V.h rfl) (fun hc=>⟨ak,(ez V.h V.h (by first|(simp;done)|omega|exact bD rfl))⟩) ?_;refine gc M7 (ag ?_);refine af (av (d:=.s (.bool _)) rfl ?_);have:decide (x.name.toList=[])=x.name.toList.isEmpty:=by cases x.name.toList<;>rfl
 simp[Aw,ib,Bool.and_assoc,this]
theorem akT{w v:kQ}:PCall prog 255 [.agg (mJ v),.pt (mJ w)] (B (v.name.toList==w.name.toList)):=by
 have C:∀ a∈[D.agg (mJ v),.pt (mJ w)],Tr a:=.cons (.agg (G9 v)) (.cons (.pt (G9 w)) .nil);refine bg Vn C (Tr.s _) ?_;rw[agZ];refine ws (iz (uU (cs:=mJ _) rfl) ak (by first|rfl|exact wl fN gM|exact l6 _|exact wL dP) ?_);refine SS ?_;refine er (aP ?_);refine aI (Lc rfl rfl) ak trivial (SS ?_);exact af (av rfl rfl)
section
variable{p q:D}{f:aG}(hp:Tr p)(hq:Tr q)(fN:p.one=true)(gM:q.one=true)
include hp hq fN gM
theorem vw{x:Argus.End}:PCall prog 236 [.agg (bq p q f),.agg (bh x)] (B (nD f x)):=by
 have J:∀ a∈[D.agg (bq p q f),.agg (bh x)],Tr a:=.cons (nG hp hq f) (.cons (.agg (lR x)) .nil);refine mG Mi.he J fun X=>?_;have hlen:x.aL.length<=maxLen:=((X _ (List.mem_cons_of_mem _ (List.mem_cons_self ..))).agg (qH x.aL) (by simp[bh])).sl.1;unfold maxLen at hlen;have kp:= @kp p q f hp hq fN gM;refine bg Mi J (Tr.s _) ?_;rw[ag0];refine az (aq ?_);refine af (aW (bG [(0,bq p q f,133),(1,bh x,69)] eH (l:=[(2,.pt (bq p q f)),(3,.pt (bh x))]) eH) (aB (az (aP ?_))))
 refine af (bR (fun s=>∃ n,Ghost prog s ⟨aD [(2,.pt (bq p q f)),(3,.pt (bh x))],fun _=>none,n⟩/\∀ (j:Nat) y,x.aL[j]? =some y->qa f x.aL j y=true) (dV (α:=Nat) (fun k=>⟨aD [(2,.pt (bq p q f)),(3,.pt (bh x)),(8,qH x.aL),(9,I x.aL.length),(10,I k)],fun _=>none,2+k⟩)
  (fun k=>k<=x.aL.length/\∀ j y,j<k->x.aL[j]? =some y->qa f x.aL j y=true) (fun k=>x.aL.length - k) 0 (ap eH) ⟨oG,fun j y hj=>by omega⟩ ?_) ?_)
 .rintro k ⟨hk,hinv⟩;refine SS ?_;refine af ⟨_,rfl,fun h=>?_,fun h=>?_⟩
  .have ao:k<x.aL.length:=by simpa using h
   have hx:x.aL[k]? =some x.aL[k]:=by simp[ao]
   generalize x.aL[k]=w at hx;refine az (bB ?_);refine af (aW (bG [(2+k,mJ w,199)] ⟨up_same _ _ _,trivial⟩ (l:=[(2,.pt (bq p q f)),(3,.pt (bh x)),(5,I k),(6,.pt (mJ w)),(8,qH x.aL),(9,I x.aL.length),(10,I k)]) ⟨rfl,rfl,rfl,oX (sz:=prog.cellsOf 199),rfl,rfl,rfl,trivial⟩) (aj ?_));have E3:=E3 (s:=w.name);have EY:=EY (l:=x.aL.take k) (g:=255) (fs:=[]) (cs:=[.pt (mJ w)]) (p:=fun v=>v.name.toList==w.name.toList) (.fn oS (.cons (.pt (G9 w)) .nil)) (fun v _=>akT);unfold qH at EY;rw[<- adX Dw hk] at EY;refine ag ?_;refine cl E3 (aN ?_);refine gc kp (bB ?_);refine bt rfl rfl (wq rfl V.h V.h rfl rfl rfl) (fun hc=>⟨ak,⟨V.h,oG,oG,oG⟩⟩) (bt rfl rfl (Ta rfl rfl) (fun hc=>⟨ak,trivial⟩) (gc EY (SS ?_)));have hb:((isName w.name&&(cu f w.to&& !(x.aL.take k).any fun v=>v.name.toList==w.name.toList)))=qa f x.aL k w:=rfl;refine af (aw rfl (fun hp=>?_) fun hp=>?_)
   .refine ws (SS ?_);refine af (aY (br (aR (av (d:=.s (.bool _)) rfl ?_))))
    have C:qa f x.aL k w=false:=by
     rw[<- hb];simp only[cu];revert hp;generalize isName w.name=a;generalize dg w.to 0 (f.blocks.length - 1)=b;generalize (List.any _ _)=c;cases a<;>cases b<;>cases c<;>simp
    simp[nD,Js hx C]
   .refine bS ?_
    have C:qa f x.aL k w=true:=by
     rw[<- hb];simp only[cu];revert hp;generalize isName w.name=a;generalize dg w.to 0 (f.blocks.length - 1)=b;generalize (List.any _ _)=c;cases a<;>cases b<;>cases c<;>simp
    refine ag ?_;refine af (aK (k+1) (ap eH) ⟨oG,fun j y hj hy=>?_⟩ oG);by_cases e:j=k
    .subst e;rw[hx] at hy;cases hy;exact C
    .exact hinv j y oG hy
  .have a9:¬ k<x.aL.length:=by simpa using h
   exact⟨2+k,.forget _ _ _ _ fun t=>pL (l:=[(2,.pt (bq p q f)),(3,.pt (bh x))]) ⟨rfl,rfl,trivial⟩ t,fun j y hy=>hinv j y (by have:=(bw.1 hy).1;omega) hy⟩
 .rintro s ⟨n,hg,M⟩;refine⟨_,hg,aj ?_⟩;refine aq ?_;refine WI ?_;refine bK ?_;refine gc kp (aq ?_);refine af (av (d:=.s (.bool _)) rfl ?_);have om:=Pp M;simp[nD,cu,om,ib]
end
abbrev P0:D:=.im (sL pU)
abbrev Q0:D:=.im (sL j9)
theorem akW:PCall prog 166 [] (.tup [P0,Q0]):=by
 refine bg Vo Tr.nil (.tup (.cons (Cl _) (.cons (Cl _) .nil))) ?_;rw[ag1];refine ws (aI (oE (v:=.s (.map none)) rfl) ak trivial (aI (oE (v:=.s (.map none)) rfl) ak trivial (er (aJ ?_))));refine aJ ?_;refine aJ ?_;refine bB ?_;refine er (aJ ?_);refine aJ ?_;refine aq ?_;refine af (az (aP ?_));exact af (aW (acE [(0,sL pU),(1,sL j9)] eH (l:=[(0,P0),(1,Q0)]) eH) (fj rfl rfl rfl))
abbrev tQ(f:aG):D:=.agg (bq P0 Q0 f)
theorem MX{f:aG}:PCall prog 189 [.agg (aH f)] (tQ f):=by
 have C:∀ a∈[D.agg (aH f)],Tr a:=.cons (.agg (iq f)) .nil;refine bg Vp C (nG (Cl _) (Cl _) f) ?_;rw[ag2];refine ws (ag ?_);refine er (cl akW (SS ?_));refine aI (tc (v:=.im _) rfl rfl) ak (by first|decide|simp) ?_;refine aI (tc (v:=.im _) rfl rfl) ak (by first|decide|simp) ?_;refine aI (oE (v:=.im _) rfl) ak trivial (aI (oE (v:=.im _) rfl) ak trivial (er (SS ?_)));refine aI (kK (v:=.im _) rfl) ak trivial (aI (kK (v:=.im _) rfl) ak trivial (WX ?_));refine cA (jh (cs':=bq _ _ _) rfl rfl rfl rfl) ak (dt V.h V.h (by first|(simp;done)|exact⟨rfl,bD rfl⟩|(simp;omega)) (by rfl)) ?_;refine af (nH (mF rfl rfl Xj Xk rfl t133 oS) ?_);rfl
theorem mU:Tr P0:=Cl _
theorem mV:Tr Q0:=Cl _
section
variable{p q:D}{f:aG}(hp:Tr p)(hq:Tr q)(fN:p.one=true)(gM:q.one=true)
include hp hq fN gM
theorem akY{r kd:Int}:PCall prog 240 [I r,.pt (bq p q f),.pt [U8 kd]] (B !(aX (cG f.al r) kd)):=by
 have C:∀ a∈[I r,.pt (bq p q f),.pt [U8 kd]],Tr a:=.cons (.s _) (.cons (.pt (DK hp hq f)) (.cons (.pt (.cons (.s _) .nil)) .nil));have fV:=fV (f:=f) (r:=r) hp hq fN gM;refine bg Vr C (Tr.s _) ?_;rw[ahi];refine ws (SS ?_);refine af (dE abe (ag ?_));refine cl fV (aq ?_);refine a8 bc (av (d:=.s (.bool _)) rfl ?_);rfl
end
theorem Ik{f:aG}{b ahead:Int}{x:bE}{phis:Bool}:PCall prog 196 [tQ f,I b,.agg (bu x),B phis,I ahead] (B (jN f b x phis ahead)):=by
 have M:∀ a∈[tQ f,I b,.agg (bu x),B phis,I ahead],Tr a:=.cons (nG mU mV f) (.cons (.s _) (.cons (.agg (r8 x)) (.cons (.s _) (.cons (.s _) .nil))));have fV:= @fV P0 Q0 f mU mV rfl rfl;have Im:= @Im P0 Q0 f mU mV rfl rfl;have iZ:= @iZ P0 Q0 f mU mV rfl rfl;have CC:= @CC P0 Q0 f mU mV rfl rfl;refine bg Vs M (Tr.s _) ?_;rw[ahj];refine az (aq ?_);refine af (aW (bG [(0,bq P0 Q0 f,133),(1,bu x,66)] eH (l:=[(1,I b),(3,B phis),(4,I ahead),(5,.pt (bq P0 Q0 f)),(7,.pt (bu x))]) eH) (aB (aj (ag ?_))));refine af (oD (aj (ag ?_)));refine af (aw rfl (fun h0=>?_) fun h0=>?_)
 .have h0:x.op=16:=by simpa using h0
  refine ws (dz ?_);refine gc fV (aJ ?_);refine bK ?_;refine ag ?_;refine af (aY (bO (aR (av (d:=.s (.bool _)) rfl ?_))));simp[jN,h0,aX,ke,ib,Bool.and_assoc]
 have h0:¬ x.op=16:=by simpa using h0
 refine ws (ag ?_);refine af (aw rfl (fun h1=>?_) fun h1=>?_)
 .have h1:x.op=17:=by simpa using h1
  refine ws (aJ ?_);refine aJ ?_;refine ag ?_;refine gc Im (ag ?_);refine af (aY (bO (aR (av (d:=.s (.bool _)) rfl ?_))));simp[jN,h1,aX,ke,ib,Bool.and_assoc]
 have h1:¬ x.op=17:=by simpa using h1
 refine ws (ag ?_);refine af (aw rfl (fun h2=>?_) fun h2=>?_)
 .have h2:x.op=18:=by simpa using h2
  refine ws (aJ ?_);refine aJ ?_;refine ag ?_;refine gc Im (ag ?_);refine af (aY (bO (aR (av (d:=.s (.bool _)) rfl ?_))));simp[jN,h2,aX,ke,ib,Bool.and_assoc]
 have h2:¬ x.op=18:=by simpa using h2
 refine ws (ag ?_);refine af (aw rfl (fun h3=>?_) fun h3=>?_)
 .have h3:x.op=19:=by simpa using h3
  refine az (aq ?_);refine cl fV (SS ?_);refine Wl ?_;refine af (aW (bG [(2,[U8 (cG f.al x.to)],5)] eH (l:=[(1,I b),(3,B phis),(4,I ahead),(5,.pt (bq P0 Q0 f)),(7,.pt (bu x)),(11,.pt [U8 (cG f.al x.to)])]) eH) (aj ?_));have sD:=sD (l:=x.args) (g:=240) (fs:=[]) (cs:=[.pt (bq P0 Q0 f),.pt [U8 (cG f.al x.to)]]) (p:=fun r=> !(aX (cG f.al r) (cG f.al x.to))) (.fn oS (.cons (.pt (DK mU mV f)) (.cons (.pt (.cons (.s _) .nil)) .nil))) (fun r _=>akY mU mV rfl rfl);refine aq ?_;refine cl sD (SS ?_);refine er ?_;by_cases hb:phis=true/\0<b
  .obtain⟨rfl,hb⟩:=hb;have eM:decide (0<b)=true:=by simpa using hb
   have iZ:=iZ (l:=[x.to]);have C:∀ {m:Mem},m 3=some (.cells [I x.to] 3)->Sns prog [3] m [tQ f,.rs 3 0 1] [tQ f,au [x.to]]:=fun hm=>⟨c8 (nG mU mV f),LW hm oS (by rw[c3];rfl) (.cons (.s _) .nil),trivial⟩
   refine bK ?_;refine ag ?_;refine Hz iZ rfl rfl rfl rfl (C rfl) ak (aJ ?_);refine aJ ?_;refine bK ?_;refine ag ?_;refine af (aY (bO (aR (av (d:=.s (.bool _)) rfl ?_))));simp[jN,h3,hb,aX,ke,ib,Bool.and_assoc,gX]
  .have hf:jN f b x phis ahead=false:=by
    cases phis with
    |false=>simp[jN,h3]
    |true=>simp[jN,h3,show ¬ 0<b by simpa using hb]
   have hf:D.s (.bool false)=B (jN f b x phis ahead):=by rw[hf]
   cases phis with
   |false=>
    refine ag ?_;(iterate 2 refine z fun _ _=>?_);refine ag ?_;(iterate 5 refine z fun _ _=>?_);refine ag ?_;(iterate 3 refine z fun _ _=>?_);refine ag ?_;(iterate 3 refine z fun _ _=>?_);refine ag ?_;(iterate 3 refine z fun _ _=>?_);refine ag ?_;(iterate 5 refine z fun _ _=>?_);refine ag ?_;(iterate 2 refine z fun _ _=>?_);refine ag ?_;exact af (aY (bO (aR (av (d:=.s (.bool _)) rfl hf))))
   |true=>
    have eM:decide (0<b)=false:=by simpa using hb
    refine bB ?_;(iterate 5 refine z fun _ _=>?_);refine ag ?_;(iterate 3 refine z fun _ _=>?_);refine ag ?_;(iterate 3 refine z fun _ _=>?_);refine ag ?_;(iterate 3 refine z fun _ _=>?_);refine ag ?_;(iterate 5 refine z fun _ _=>?_);refine ag ?_;(iterate 2 refine z fun _ _=>?_);refine ag ?_;exact af (aY (bO (aR (av (d:=.s (.bool _)) rfl hf))))
 have h3:¬ x.op=19:=by simpa using h3
 refine nI (aj ?_);have X:gotD prog 131 true (lookD (.int .u8 x.op) (sL pU))=.tup [.agg (j6 ((gz pU x.op).getD Ad)),.s (.bool (gz pU x.op).isSome)]:=TE rfl _ _ (by rw[Mk];unfold zeroD;rw[M9,M'];rfl);have J:=R1 (P:=prog) (kt:=5) u5 pU;refine aP ?_;refine aI (Gy rfl rfl V.h X) ak ⟨V.h,by kernel_rfl,J⟩ (SS ?_);refine aI (tc (v:=.agg (j6 _)) rfl rfl) ak (by first|decide|simp) ?_;refine ag ?_;refine cA (jh (cs':=j6 _) rfl rfl rfl rfl) ak (dt V.h V.h (by first|(simp;done)|exact⟨rfl,bD rfl⟩|(simp;omega)) (by rfl)) ?_;refine SS ?_;refine er (aP ?_);refine bt rfl rfl (ep (vs:=j6 _) rfl rfl V.h V.h rfl) (fun hc=>⟨ak,(ez V.h V.h (by first|(simp;done)|omega|exact bD rfl))⟩) ?_;refine gc CC (ag ?_);refine af (av (d:=.s (.bool _)) rfl ?_);simp[jN,h0,h1,h2,h3]
def VA(f:aG)(x:Argus.End)(s:St):Prop:=∃ cells n,Ghost prog s ⟨aD [(2,.pt (bq P0 Q0 f)),(3,.pt (bh x)),(5,.rp 2 0),(6,B (gI f x).1)],up (fun _=>none) 2 (some (.cells cells 69)),n⟩/\cells.length=15/\∀ m,Sns prog [2] m cells (bh (gI f x).2)
theorem vR{l:List Int}{r:Int}:gX l [r]=eX l r:=by simp[gX]
theorem oc{f:aG}{x r:Argus.End}{env:Env}{m:Mem}{nx:Nat}{cells:List D}{ok:Bool}(hr:gI f x=(ok,r))(he:jM [(2,.pt (bq P0 Q0 f)),(3,.pt (bh x)),(5,.rp 2 0),(6,B ok)] env)(hm:m 2=some (.cells cells 69))(hl:cells.length=15)
 (hs:∀ m,Sns prog [2] m cells (bh r)):VA f x ⟨env,m,nx⟩:=by
 refine⟨cells,nx,?_,hl,?_⟩
 .rw[hr];exact Q6 he (abY hm)
 .rw[hr];exact hs
theorem Ij{f:aG}{x:Argus.End}:PCall prog 195 [tQ f,.agg (bh x)] (B (j8 f x)):=by
 have a7:∀ a∈[tQ f,.agg (bh x)],Tr a:=.cons (nG mU mV f) (.cons (.agg (lR x)) .nil);have kp:= @kp P0 Q0 f mU mV rfl rfl;have fV:= @fV P0 Q0 f mU mV rfl rfl;have iZ:= @iZ P0 Q0 f mU mV rfl rfl;have CC:= @CC P0 Q0 f mU mV rfl rfl;have vw:= @vw P0 Q0 f mU mV rfl rfl;refine bg VB a7 (Tr.s _) ?_;rw[ahQ];refine az (aq ?_);refine af (aW (bG [(0,bq P0 Q0 f,133),(1,bh x,69)] eH (l:=[(2,.pt (bq P0 Q0 f)),(3,.pt (bh x))]) eH) (aj (ag ?_)));refine Xl ?_;refine SS ?_;refine er (ag ?_);refine af (eI (VA f x) (aj ?_) fun s hs=>?_)
 .refine ag ?_;refine af (oI (aj (ag ?_)));refine af (aw rfl (fun h=>?_) fun h=>?_)
  .have h:x.kind=1:=by simpa using h
   refine nE (aq ?_);refine cl kp (aq ?_);exact af (oc (r:={ x with kind:=0,to:=0 }) (by simp[gI,h,aX,ib,Bool.and_assoc,cu]) ⟨rfl,rfl,rfl,rfl,trivial⟩ rfl rfl (fun m=>by repeat' (first|exact trivial|exact c8 (Tr.s _)|exact c8 (cL _)|exact c8 (kH _)|exact od|refine And.intro ?_ ?_)))
  have h1:¬ x.kind=1:=by simpa using h
  clear h;refine ws (ag ?_);refine af (aw rfl (fun h=>?_) fun h=>?_)
  .have h:x.kind=2:=by simpa using h
   refine nE (aq ?_);refine cl fV (aN ?_);refine gc kp (aN ?_);refine gc kp (bK ?_);exact af (oc (r:={ x with kind:=0,a:=0,to:=0,gD:=0 }) (by simp[gI,h,aX,ib,Bool.and_assoc,cu]) ⟨rfl,rfl,rfl,rfl,trivial⟩ rfl rfl (fun m=>by repeat' (first|exact trivial|exact c8 (Tr.s _)|exact c8 (cL _)|exact c8 (kH _)|exact od|refine And.intro ?_ ?_)))
  have h2:¬ x.kind=2:=by simpa using h
  clear h;refine ws (ag ?_);refine af (aw rfl (fun h=>?_) fun h=>?_)
  .have h:x.kind=3:=by simpa using h
   refine ws (bB ?_);refine er (bK ?_);refine ag ?_;refine af (aw rfl (fun hr=>?_) fun hr=>?_)
   .have hr:f.result≠0/\f.iter=false:=by simpa[bne,ib] using hr
    refine Kg Z' (aq ?_);refine cl fV (aN ?_);exact a8 bc (oc (r:={ x with kind:=0,a:=0 }) (by simp[gI,h,aX,ib,Bool.and_assoc,hr.1,hr.2]) ⟨rfl,rfl,rfl,rfl,trivial⟩ rfl rfl (fun m=>by repeat' (first|exact trivial|exact c8 (Tr.s _)|exact c8 (cL _)|exact c8 (kH _)|exact od|refine And.intro ?_ ?_)))
   .have hr:¬ (f.result≠0/\f.iter=false):=by simpa[bne,ib] using hr
    refine Ke ?_;exact oc (r:={ x with kind:=0,a:=0 }) (by simp only[gI,h];simp only[if_neg hr];simp[aX,ib]) ⟨rfl,rfl,rfl,rfl,trivial⟩ rfl rfl (fun m=>by repeat' (first|exact trivial|exact c8 (Tr.s _)|exact c8 (cL _)|exact c8 (kH _)|exact od|refine And.intro ?_ ?_))
  have h3:¬ x.kind=3:=by simpa using h
  clear h;refine ws (ag ?_);refine af (aw rfl (fun h=>?_) fun h=>?_)
  .have h:x.kind=4:=by simpa using h
   refine nE (ag ?_);refine cl E3 (aq ?_);exact af (oc (r:={ x with kind:=0,name:=.empty }) (by simp[gI,h,aX,ib,Bool.and_assoc]) ⟨rfl,rfl,rfl,rfl,trivial⟩ rfl rfl (fun m=>by repeat' (first|exact trivial|exact c8 (Tr.s _)|exact c8 (cL _)|exact c8 (kH _)|exact od|refine And.intro ?_ ?_)))
  have h4:¬ x.kind=4:=by simpa using h
  clear h;refine ws (ag ?_);refine af (aw rfl (fun h=>?_) fun h=>?_)
  .have h:x.kind=5:=by simpa using h
   refine ws ?_;have kg:gotD prog 131 true (lookD (.int .u8 x.ins.op) (sL j9))=.tup [.agg (j6 ((gz j9 x.ins.op).getD Ad)),.s (.bool (gz j9 x.ins.op).isSome)]:=TE rfl _ _ (by rw[Mk];unfold zeroD;rw[M9,M'];rfl);have OD:=R1 (P:=prog) (kt:=5) u5 j9;refine aN ?_;refine aI (Gy rfl rfl V.h kg) ak ⟨V.h,by kernel_rfl,OD⟩ (SS ?_);refine aI (tc (v:=.agg (j6 _)) rfl rfl) ak (by first|decide|simp) ?_;refine ag ?_;refine cA (jh (cs':=j6 _) rfl rfl rfl rfl) ak (dt V.h V.h (by first|(simp;done)|exact⟨rfl,bD rfl⟩|(simp;omega)) (by rfl)) ?_;refine SS ?_;refine er (aN ?_);refine bt rfl rfl (ep (vs:=j6 _) rfl rfl V.h V.h rfl) (fun hc=>⟨ak,(ez V.h V.h (by first|(simp;done)|omega|exact bD rfl))⟩) ?_;refine gc CC (aN ?_);refine gc kp (aP ?_);refine gc vw (ag ?_);refine af (nE (aJ ?_));exact af (oc (r:={ x with kind:=0,ins:=eB,to:=0,aL:=[],cX:= -1 }) (by simp[gI,h,aX,ib,Bool.and_assoc,cu]) ⟨rfl,rfl,rfl,rfl,trivial⟩ rfl rfl (fun m=>by repeat' (first|exact trivial|exact c8 (Tr.s _)|exact c8 (cL _)|exact c8 (kH _)|exact od|refine And.intro ?_ ?_)))
  have h5:¬ x.kind=5:=by simpa using h
  clear h;refine ws (ag ?_);refine af (aw rfl (fun h=>?_) fun h=>?_)
  .have h:x.kind=6:=by simpa using h
   refine ws ?_;have tY:=tY (s:=x.name);have ahR:=iZ (l:=[x.a]);have iZ:=iZ (l:=x.args);have ae8:∀ {m:Mem},m 3=some (.cells [I x.a] 3)->Sns prog [3] m [tQ f,.rs 3 0 1] [tQ f,au [x.a]]:=fun hm=>⟨c8 (nG mU mV f),LW hm oS (by rw[c3];rfl) (.cons (.s _) .nil),trivial⟩
   cases C:lX x.name with
   |false=>
    rw[C] at tY;refine ag ?_;refine cl tY (bK ?_);refine ag ?_;refine gc iZ (aJ ?_);(iterate 3 refine z fun _ _=>?_);refine aN ?_;refine gc kp (aP ?_);refine gc vw (ag ?_);refine af (nE (aJ ?_));refine aq ?_;exact af (oc (r:={ x with kind:=0,name:=.empty,args:=[],a:=0,to:=0,aL:=[],cX:= -1 }) (by simp[gI,h,aX,ib,Bool.and_assoc,cu,C]) ⟨rfl,rfl,rfl,rfl,trivial⟩ rfl rfl (fun m=>by repeat' (first|exact trivial|exact c8 (Tr.s _)|exact c8 (cL _)|exact c8 (kH _)|exact od|refine And.intro ?_ ?_)))
   |true=>
    rw[C] at tY;by_cases J:(x.args.length:Int)<=6
    rotate_left
    .have EX:decide ((x.args.length:Int)<=6)=false:=by simpa using J
     refine ag ?_;refine cl tY (bK ?_);refine ag ?_;refine gc iZ (aJ ?_);(iterate 3 refine z fun _ _=>?_);refine aN ?_;refine gc kp (aP ?_);refine gc vw (ag ?_);refine af (nE (aJ ?_));refine aq ?_;exact af (oc (r:={ x with kind:=0,name:=.empty,args:=[],a:=0,to:=0,aL:=[],cX:= -1 }) (by simp[gI,h,aX,ib,Bool.and_assoc,cu,C,J]) ⟨rfl,rfl,rfl,rfl,trivial⟩ rfl rfl (fun m=>by repeat' (first|exact trivial|exact c8 (Tr.s _)|exact c8 (cL _)|exact c8 (kH _)|exact od|refine And.intro ?_ ?_)))
    have EX:decide ((x.args.length:Int)<=6)=true:=by simpa using J
    cases M:gX f.al x.args with
    |false=>
     rw[M] at iZ;refine ag ?_;refine cl tY (bK ?_);refine ag ?_;refine gc iZ (aJ ?_);(iterate 3 refine z fun _ _=>?_);refine aN ?_;refine gc kp (aP ?_);refine gc vw (ag ?_);refine af (nE (aJ ?_));refine aq ?_;exact af (oc (r:={ x with kind:=0,name:=.empty,args:=[],a:=0,to:=0,aL:=[],cX:= -1 }) (by simp[gI,h,aX,ib,Bool.and_assoc,cu,C,J,M]) ⟨rfl,rfl,rfl,rfl,trivial⟩ rfl rfl (fun m=>by repeat' (first|exact trivial|exact c8 (Tr.s _)|exact c8 (cL _)|exact c8 (kH _)|exact od|refine And.intro ?_ ?_)))
    |true=>
     rw[M] at iZ;by_cases X:x.a= -1
     .have dY:(x.a== -1)=true:=by simpa using X
      refine ag ?_;refine cl tY (bK ?_);refine ag ?_;refine gc iZ (aJ ?_);(iterate 2 refine z fun _ _=>?_);refine bB ?_;refine gc kp (aP ?_);refine gc vw (ag ?_);refine af (nE (aJ ?_));refine aq ?_;exact af (oc (r:={ x with kind:=0,name:=.empty,args:=[],a:=0,to:=0,aL:=[],cX:= -1 }) (by simp[gI,h,aX,ib,Bool.and_assoc,cu,C,J,M,X]) ⟨rfl,rfl,rfl,rfl,trivial⟩ rfl rfl (fun m=>by repeat' (first|exact trivial|exact c8 (Tr.s _)|exact c8 (cL _)|exact c8 (kH _)|exact od|refine And.intro ?_ ?_)))
     .have dY:(x.a== -1)=false:=by simpa using X
      refine ag ?_;refine cl tY (bK ?_);refine ag ?_;refine gc iZ (bK ?_);refine ag ?_;refine Hz ahR rfl rfl rfl rfl (ae8 rfl) ak (bB ?_);refine gc kp (aP ?_);refine gc vw (ag ?_);refine af (nE (aJ ?_));refine aq ?_;exact af (oc (r:={ x with kind:=0,name:=.empty,args:=[],a:=0,to:=0,aL:=[],cX:= -1 }) (by simp[gI,h,aX,ib,Bool.and_assoc,cu,C,J,M,X,vR]) ⟨rfl,rfl,rfl,rfl,trivial⟩ rfl rfl (fun m=>by repeat' (first|exact trivial|exact c8 (Tr.s _)|exact c8 (cL _)|exact c8 (kH _)|exact od|refine And.intro ?_ ?_)))
  have h6:¬ x.kind=6:=by simpa using h
  clear h;refine ws (ag ?_);refine af (aw rfl (fun h=>?_) fun h=>?_)
  .have h:x.kind=7:=by simpa using h
   refine ws (ag ?_);refine cl tY (bK ?_);refine ag ?_;refine gc iZ (aN ?_);refine gc fV (bB ?_);refine gc kp (ag ?_);refine af (nE (bK ?_));exact af (oc (r:={ x with kind:=0,name:=.empty,args:=[],a:=0,to:=0 }) (by simp[gI,h,aX,ib,Bool.and_assoc,cu]) ⟨rfl,rfl,rfl,rfl,trivial⟩ rfl rfl (fun m=>by repeat' (first|exact trivial|exact c8 (Tr.s _)|exact c8 (cL _)|exact c8 (kH _)|exact od|refine And.intro ?_ ?_)))
  have h7:¬ x.kind=7:=by simpa using h
  clear h;refine ws (ag ?_);refine af (aw rfl (fun h=>?_) fun h=>?_)
  .have h:x.kind=8:=by simpa using h
   refine ws ?_;have iZ:=iZ (l:=[x.b]);have Mj:∀ {m:Mem},m 3=some (.cells [I x.b] 3)->Sns prog [3] m [tQ f,.rs 3 0 1] [tQ f,au [x.b]]:=fun hm=>⟨c8 (nG mU mV f),LW hm oS (by rw[c3];rfl) (.cons (.s _) .nil),trivial⟩
   by_cases C:cG f.al x.a=3
   .have dY:(cG f.al x.a==3)=true:=by simpa using C
    refine aq ?_;refine cl fV (bB ?_);refine Hz iZ rfl rfl rfl rfl (Mj rfl) ak (aN ?_);refine gc kp (aN ?_);refine gc kp (aP ?_);refine gc vw (ag ?_);refine af (nE (aJ ?_));refine aq ?_;exact af (oc (r:={ x with kind:=0,a:=0,b:=0,to:=0,gD:=0,aL:=[],cX:= -1 }) (by simp[gI,h,aX,ib,Bool.and_assoc,cu,C,vR]) ⟨rfl,rfl,rfl,rfl,trivial⟩ rfl rfl (fun m=>by repeat' (first|exact trivial|exact c8 (Tr.s _)|exact c8 (cL _)|exact c8 (kH _)|exact od|refine And.intro ?_ ?_)))
   .have dY:(cG f.al x.a==3)=false:=by simpa using C
    refine aq ?_;refine cl fV (aN ?_);(iterate 2 refine z fun _ _=>?_);refine aN ?_;refine gc kp (aN ?_);refine gc kp (aP ?_);refine gc vw (ag ?_);refine af (nE (aJ ?_));refine aq ?_;exact af (oc (r:={ x with kind:=0,a:=0,b:=0,to:=0,gD:=0,aL:=[],cX:= -1 }) (by simp[gI,h,aX,ib,Bool.and_assoc,cu,C]) ⟨rfl,rfl,rfl,rfl,trivial⟩ rfl rfl (fun m=>by repeat' (first|exact trivial|exact c8 (Tr.s _)|exact c8 (cL _)|exact c8 (kH _)|exact od|refine And.intro ?_ ?_)))
  have h8:¬ x.kind=8:=by simpa using h
  clear h;refine ws (ag ?_);refine af (aw rfl (fun h=>?_) fun h=>?_)
  .have h:x.kind=9:=by simpa using h
   refine Kg aaa (dz ?_);refine gc fV (aJ ?_);refine gc kp (bB ?_);exact a8 bc (oc (r:={ x with kind:=0,a:=0,to:=0 }) (by simp[gI,h,aX,ib,Bool.and_assoc,cu]) ⟨rfl,rfl,rfl,rfl,trivial⟩ rfl rfl (fun m=>by repeat' (first|exact trivial|exact c8 (Tr.s _)|exact c8 (cL _)|exact c8 (kH _)|exact od|refine And.intro ?_ ?_)))
  .have h9:¬ x.kind=9:=by simpa using h
   refine Ke ?_;exact oc (r:={ x with kind:=0 }) (by simp[gI,h1,h2,h3,h4,h5,h6,h7,h8,h9]) ⟨rfl,rfl,rfl,rfl,trivial⟩ rfl rfl (fun m=>by repeat' (first|exact trivial|exact c8 (Tr.s _)|exact c8 (cL _)|exact c8 (kH _)|exact od|refine And.intro ?_ ?_))
 .obtain⟨cells,n,hg,hl,hs⟩:=hs;refine⟨_,hg,aj ?_⟩;have uk:(cells.drop 0).take 15=cells:=by rw[List.drop_zero,df oG]
  have M8:=M8 (x:=(gI f x).2);have ahS:∀ {m:Mem},m 2=m 2->Sns prog [2] m [.agg ((cells.drop 0).take 15)] [.agg (bh (gI f x).2)]:=fun {m} _=>⟨ae9 (by rw[uk];exact hs m),trivial⟩
  have he:j8 f x=((gI f x).1&&Aw (gI f x).2):=rfl;generalize (gI f x).1=ok at he;cases ok with
  |true=>
   refine aq ?_;refine Hz M8 rfl rfl rfl rfl (ahS rfl) ak (ag ?_);refine af (av (d:=.s (.bool _)) rfl ?_);rw[he];simp
  |false=>
   refine ag ?_;(iterate 2 refine z fun _ _=>?_);refine ag ?_;refine af (av (d:=.s (.bool _)) rfl ?_);rw[he];simp
theorem xc{n:Int}(hn: -1000000<=n/\n<=1000000):PCall prog 244 [I n] (I (k8 n)):=by
 refine bg VC (by simp[Tr.s]) (Tr.s _) ?_;rw[ah2];refine ws (SS ?_);refine er (aq ?_);exact af (av rfl rfl)
theorem Cu{x:bE}:PCall prog 139 [.agg (bu x)] (I (dL x)):=by
 have a7:∀ a∈[D.agg (bu x)],Tr a:=.cons (.agg (r8 x)) .nil;refine bg VD a7 (Tr.s _) ?_;rw[ah3];refine az (ag ?_);refine af (aW (bG [(0,bu x,66)] eH (l:=[(1,.pt (bu x))]) eH) (aB (aj (ag ?_))));refine af (oD (eI (fun s=>Ghost prog s ⟨aD [(1,.pt (bu x)),(4,U8 x.op),(5,B (aU nC x.op))],fun _=>none,1⟩) (aj ?_) fun s hg=>⟨_,hg,?_⟩))
 .refine ag ?_;refine af (aw rfl (fun h=>bd ?_) fun e1=>aj ?_)
  .have h:x.op=1:=by simpa using h
   refine ap ⟨rfl,rfl,?_,trivial⟩;show D.s (.bool (x.op==1))=_;rw[h];rfl
  refine ag ?_;refine af (aw rfl (fun h=>bd ?_) fun e2=>aj ?_)
  .have h:x.op=2:=by simpa using h
   refine ap ⟨rfl,rfl,?_,trivial⟩;show D.s (.bool (x.op==2))=_;rw[h];rfl
  refine ag ?_;refine af (aw rfl (fun h=>bd ?_) fun e3=>aj ?_)
  .have h:x.op=3:=by simpa using h
   refine ap ⟨rfl,rfl,?_,trivial⟩;show D.s (.bool (x.op==3))=_;rw[h];rfl
  refine ag ?_;refine af (aw rfl (fun h=>bd ?_) fun e4=>aj ?_)
  .have h:x.op=4:=by simpa using h
   refine ap ⟨rfl,rfl,?_,trivial⟩;show D.s (.bool (x.op==4))=_;rw[h];rfl
  refine ag ?_;refine af (aw rfl (fun h=>bd ?_) fun e5=>aj ?_)
  .have h:x.op=5:=by simpa using h
   refine ap ⟨rfl,rfl,?_,trivial⟩;show D.s (.bool (x.op==5))=_;rw[h];rfl
  refine ag ?_;refine af (aw rfl (fun h=>bd ?_) fun e6=>aj ?_)
  .have h:x.op=6:=by simpa using h
   refine ap ⟨rfl,rfl,?_,trivial⟩;show D.s (.bool (x.op==6))=_;rw[h];rfl
  refine ag ?_;refine af (aw rfl (fun h=>bd ?_) fun e7=>aj ?_)
  .have h:x.op=7:=by simpa using h
   refine ap ⟨rfl,rfl,?_,trivial⟩;show D.s (.bool (x.op==7))=_;rw[h];rfl
  refine ag ?_;refine af (aw rfl (fun h=>bd ?_) fun e8=>aj ?_)
  .have h:x.op=8:=by simpa using h
   refine ap ⟨rfl,rfl,?_,trivial⟩;show D.s (.bool (x.op==8))=_;rw[h];rfl
  refine ag ?_;refine af (aw rfl (fun h=>bd ?_) fun e9=>aj ?_)
  .have h:x.op=9:=by simpa using h
   refine ap ⟨rfl,rfl,?_,trivial⟩;show D.s (.bool (x.op==9))=_;rw[h];rfl
  refine ag ?_;refine af (aw rfl (fun h=>bd ?_) fun M=>aj ?_)
  .have h:x.op=10:=by simpa using h
   refine ap ⟨rfl,rfl,?_,trivial⟩;show D.s (.bool (x.op==10))=_;rw[h];rfl
  refine ag ?_;refine af (aw rfl (fun h=>bd ?_) fun sX=>aj ?_)
  .have h:x.op=11:=by simpa using h
   refine ap ⟨rfl,rfl,?_,trivial⟩;show D.s (.bool (x.op==11))=_;rw[h];rfl
  refine ag ?_;refine af (aw rfl (fun h=>bd ?_) fun yc=>aj ?_)
  .have h:x.op=13:=by simpa using h
   refine ap ⟨rfl,rfl,?_,trivial⟩;show D.s (.bool (x.op==13))=_;rw[h];rfl
  refine ag ?_;refine af (aw rfl (fun h=>bd ?_) fun C=>aj ?_)
  .have h:x.op=14:=by simpa using h
   refine ap ⟨rfl,rfl,?_,trivial⟩;show D.s (.bool (x.op==14))=_;rw[h];rfl
  refine ag ?_;refine af (aw rfl (fun h=>bd ?_) fun F8=>lm ?_)
  .have h:x.op=17:=by simpa using h
   refine ap ⟨rfl,rfl,?_,trivial⟩;show D.s (.bool (x.op==17))=_;rw[h];rfl
  refine ag ?_;refine af (ap ⟨rfl,rfl,?_,trivial⟩);show D.s (.bool (x.op==19))=_;simp[aU,nC,e1,e2,e3,e4,e5,e6,e7,e8,e9,M,sX,yc,C,F8]
 refine aw rfl (fun h1=>?_) fun h1=>?_
 .refine ws (aq ?_);refine af (aY (bO (aR (av (d:=I x.to) rfl ?_))));simp[dL,h1]
 refine eI (fun s=>Ghost prog s ⟨aD [(1,.pt (bu x)),(4,U8 x.op),(23,B (aU pK x.op))],fun _=>none,1⟩) (aj ?_) fun s hg=>⟨_,hg,?_⟩
 .refine ag ?_;refine af (aw rfl (fun h=>bd ?_) fun ye=>aj ?_)
  .have h:x.op=30:=by simpa using h
   refine ap ⟨rfl,rfl,?_,trivial⟩;show D.s (.bool (x.op==30))=_;rw[h];rfl
  refine ag ?_;refine af (aw rfl (fun h=>bd ?_) fun yf=>aj ?_)
  .have h:x.op=31:=by simpa using h
   refine ap ⟨rfl,rfl,?_,trivial⟩;show D.s (.bool (x.op==31))=_;rw[h];rfl
  refine ag ?_;refine af (aw rfl (fun h=>bd ?_) fun yg=>aj ?_)
  .have h:x.op=32:=by simpa using h
   refine ap ⟨rfl,rfl,?_,trivial⟩;show D.s (.bool (x.op==32))=_;rw[h];rfl
  refine ag ?_;refine af (aw rfl (fun h=>bd ?_) fun yh=>aj ?_)
  .have h:x.op=33:=by simpa using h
   refine ap ⟨rfl,rfl,?_,trivial⟩;show D.s (.bool (x.op==33))=_;rw[h];rfl
  refine ag ?_;refine af (aw rfl (fun h=>bd ?_) fun J=>aj ?_)
  .have h:x.op=34:=by simpa using h
   refine ap ⟨rfl,rfl,?_,trivial⟩;show D.s (.bool (x.op==34))=_;rw[h];rfl
  refine ag ?_;refine af (aw rfl (fun h=>bd ?_) fun X=>lm ?_)
  .have h:x.op=36:=by simpa using h
   refine ap ⟨rfl,rfl,?_,trivial⟩;show D.s (.bool (x.op==36))=_;rw[h];rfl
  refine ag ?_;refine af (ap ⟨rfl,rfl,?_,trivial⟩);show D.s (.bool (x.op==37))=_;simp[aU,pK,ye,yf,yg,yh,J,X]
 refine aw rfl (fun h2=>?_) fun h2=>?_
 .refine ws (aq ?_);refine af (aY (bO (aR (av (d:=I x.to) rfl ?_))));simp[dL,h2]
 refine nI (aj (SS ?_));refine af (av (d:=I (-1)) rfl ?_);simp[dL,h1,h2]
theorem MR{x:Argus.End}:PCall prog 175 [.agg (bh x)] (I (eS x)):=by
 have C:∀ a∈[D.agg (bh x)],Tr a:=.cons (.agg (lR x)) .nil;have Cu:=Cu (x:=x.ins);refine bg VE C (Tr.s _) ?_;rw[ah4];refine az (ag ?_);refine af (aW (bG [(0,bh x,69)] eH (l:=[(1,.pt (bh x))]) eH) (aB (aj (ag ?_))));refine af (oD (aj (ag ?_)));refine af (aw rfl (fun h1=>?_) fun h1=>?_)
 .have h1:x.kind=5:=by simpa using h1
  refine ws (ag ?_);refine cl Cu (SS ?_);refine af (aY (bO (aR (av (d:=I (dL x.ins)) rfl ?_))));simp[eS,h1]
 have h1:¬ x.kind=5:=by simpa using h1
 refine eI (fun s=>Ghost prog s ⟨aD [(1,.pt (bh x)),(4,U8 x.kind),(10,B (aU [6,7] x.kind))],fun _=>none,1⟩) (aj ?_) fun s hg=>⟨_,hg,?_⟩
 .refine ag ?_;refine af (aw rfl (fun h=>bd ?_) fun e6=>lm ?_)
  .have h:x.kind=6:=by simpa using h
   refine ap ⟨rfl,rfl,?_,trivial⟩;show D.s (.bool (x.kind==6))=_;rw[h];rfl
  refine ag ?_;refine af (ap ⟨rfl,rfl,?_,trivial⟩);show D.s (.bool (x.kind==7))=_;simp[aU,e6]
 refine aw rfl (fun h2=>?_) fun h2=>?_
 .refine ws (aq ?_);refine af (aY (bO (aR (av (d:=I x.a) rfl ?_))));simp[eS,h1,h2]
 refine ws (ag ?_);refine af (aw rfl (fun h3=>?_) fun h3=>?_)
 .have h3:x.kind=8:=by simpa using h3
  refine ws (aq ?_);refine af (aY (bO (aR (av (d:=I x.b) rfl ?_))));simp[eS,h2,h3];simp[aU]
 have h3:¬ x.kind=8:=by simpa using h3
 refine nI (aj (SS ?_));refine af (av (d:=I (-1)) rfl ?_);simp[eS,h1,h2,h3]
theorem CM{l:List Int}(hl:l.length<=100000):PCall prog 105 [au l] (au l):=by
 have J:∀ a∈[au l],Tr a:=.cons (cL _) .nil;refine bg VF J (cL _) ?_;rw[ah5];have tV:(l.map I).take (l.length*1)=l.map I:=df oS
 have last:AW prog noY true (.seq (.region 3 (Z yA 3) false) .ret) (retQ prog [.tmp 2] fun d x=>d=au l) ⟨aD [(0,au l)],fun _=>none,0⟩:=by
  refine az (aP ?_);refine af (aW (bG [(1,l.map I,3)] eH (l:=[(2,au l)]) ⟨?_,trivial⟩) (av rfl rfl));show uh _ [(1,l.map I,3)] (.rs 1 0 (0+l.length))=.sl (l.map I) l.length;rw[Nat.zero_add];exact ly c3 (df oS)
 refine ws (SS ?_);refine af (eI (fun s=>Ghost prog s ⟨aD [(0,au l)],fun _=>none,0⟩) (aj ?_) fun s hg=>⟨_,hg,last⟩)
 cases l with
 |nil=>
  refine SS ?_;refine aI (afc rfl) ak V.h (af (adz rfl (az (SS ?_)) (bd (ap eH))));exact af (aW (z6 (n0:=2) rfl) (aY (aR (av rfl rfl))))
 |cons a l=>
  have C:(a::l).length≠0:=by simp
  refine SS ?_;exact aI (afd rfl C) ak V.h (af (aw rfl (fun h=>oH) fun h=>bd (ap eH)))
theorem Cz{x:bE}(hx:x.op=10\/x.op=38->x.args.length<=1000):PCall prog 140 [.agg (bu x)] (au (cP x)):=by
 have a7:∀ a∈[D.agg (bu x)],Tr a:=.cons (.agg (r8 x)) .nil;refine bg VG a7 (cL _) ?_;rw[ah6];refine az (ag ?_);refine af (aW (bG [(0,bu x,66)] eH (l:=[(1,.pt (bu x))]) eH) (aB (aj (ag ?_))));refine af (oD (eI (fun s=>Ghost prog s ⟨aD [(1,.pt (bu x)),(4,U8 x.op),(5,B (aU pN x.op))],fun _=>none,1⟩) (aj ?_) fun s hg=>⟨_,hg,?_⟩))
 .refine ag ?_;refine af (aw rfl (fun h=>bd ?_) fun e2=>aj ?_)
  .have h:x.op=2:=by simpa using h
   refine ap ⟨rfl,rfl,?_,trivial⟩;show D.s (.bool (x.op==2))=_;rw[h];rfl
  refine ag ?_;refine af (aw rfl (fun h=>bd ?_) fun e8=>aj ?_)
  .have h:x.op=8:=by simpa using h
   refine ap ⟨rfl,rfl,?_,trivial⟩;show D.s (.bool (x.op==8))=_;rw[h];rfl
  refine ag ?_;refine af (aw rfl (fun h=>bd ?_) fun sX=>aj ?_)
  .have h:x.op=11:=by simpa using h
   refine ap ⟨rfl,rfl,?_,trivial⟩;show D.s (.bool (x.op==11))=_;rw[h];rfl
  refine ag ?_;refine af (aw rfl (fun h=>bd ?_) fun yc=>aj ?_)
  .have h:x.op=13:=by simpa using h
   refine ap ⟨rfl,rfl,?_,trivial⟩;show D.s (.bool (x.op==13))=_;rw[h];rfl
  refine ag ?_;refine af (aw rfl (fun h=>bd ?_) fun C=>aj ?_)
  .have h:x.op=14:=by simpa using h
   refine ap ⟨rfl,rfl,?_,trivial⟩;show D.s (.bool (x.op==14))=_;rw[h];rfl
  refine ag ?_;refine af (aw rfl (fun h=>bd ?_) fun F9=>aj ?_)
  .have h:x.op=15:=by simpa using h
   refine ap ⟨rfl,rfl,?_,trivial⟩;show D.s (.bool (x.op==15))=_;rw[h];rfl
  refine ag ?_;refine af (aw rfl (fun h=>bd ?_) fun Ga=>aj ?_)
  .have h:x.op=16:=by simpa using h
   refine ap ⟨rfl,rfl,?_,trivial⟩;show D.s (.bool (x.op==16))=_;rw[h];rfl
  refine ag ?_;refine af (aw rfl (fun h=>bd ?_) fun M=>lm ?_)
  .have h:x.op=18:=by simpa using h
   refine ap ⟨rfl,rfl,?_,trivial⟩;show D.s (.bool (x.op==18))=_;rw[h];rfl
  refine ag ?_;refine af (ap ⟨rfl,rfl,?_,trivial⟩);show D.s (.bool (x.op==36))=_;simp[aU,pN,e2,e8,sX,yc,C,F9,Ga,M]
 refine aw rfl (fun h1=>?_) fun h1=>?_
 .refine az (aP ?_);exact af (aW (bG [(1,([x.a]).map I,3)] eH (l:=[(2,au ([x.a]))]) ⟨ly c3 rfl,trivial⟩) (aY (bO (aR (av (d:=au ([x.a])) rfl (congrArg au (by unfold cP;rw[if_pos h1])))))))
 refine eI (fun s=>Ghost prog s ⟨aD [(1,.pt (bu x)),(4,U8 x.op),(18,B (aU tm x.op))],fun _=>none,1⟩) (aj ?_) fun s hg=>⟨_,hg,?_⟩
 .refine ag ?_;refine af (aw rfl (fun h=>bd ?_) fun e3=>aj ?_)
  .have h:x.op=3:=by simpa using h
   refine ap ⟨rfl,rfl,?_,trivial⟩;show D.s (.bool (x.op==3))=_;rw[h];rfl
  refine ag ?_;refine af (aw rfl (fun h=>bd ?_) fun e4=>aj ?_)
  .have h:x.op=4:=by simpa using h
   refine ap ⟨rfl,rfl,?_,trivial⟩;show D.s (.bool (x.op==4))=_;rw[h];rfl
  refine ag ?_;refine af (aw rfl (fun h=>bd ?_) fun e5=>aj ?_)
  .have h:x.op=5:=by simpa using h
   refine ap ⟨rfl,rfl,?_,trivial⟩;show D.s (.bool (x.op==5))=_;rw[h];rfl
  refine ag ?_;refine af (aw rfl (fun h=>bd ?_) fun e6=>aj ?_)
  .have h:x.op=6:=by simpa using h
   refine ap ⟨rfl,rfl,?_,trivial⟩;show D.s (.bool (x.op==6))=_;rw[h];rfl
  refine ag ?_;refine af (aw rfl (fun h=>bd ?_) fun e7=>aj ?_)
  .have h:x.op=7:=by simpa using h
   refine ap ⟨rfl,rfl,?_,trivial⟩;show D.s (.bool (x.op==7))=_;rw[h];rfl
  refine ag ?_;refine af (aw rfl (fun h=>bd ?_) fun X=>aj ?_)
  .have h:x.op=12:=by simpa using h
   refine ap ⟨rfl,rfl,?_,trivial⟩;show D.s (.bool (x.op==12))=_;rw[h];rfl
  refine ag ?_;refine af (aw rfl (fun h=>bd ?_) fun ye=>aj ?_)
  .have h:x.op=30:=by simpa using h
   refine ap ⟨rfl,rfl,?_,trivial⟩;show D.s (.bool (x.op==30))=_;rw[h];rfl
  refine ag ?_;refine af (aw rfl (fun h=>bd ?_) fun yf=>aj ?_)
  .have h:x.op=31:=by simpa using h
   refine ap ⟨rfl,rfl,?_,trivial⟩;show D.s (.bool (x.op==31))=_;rw[h];rfl
  refine ag ?_;refine af (aw rfl (fun h=>bd ?_) fun yg=>aj ?_)
  .have h:x.op=32:=by simpa using h
   refine ap ⟨rfl,rfl,?_,trivial⟩;show D.s (.bool (x.op==32))=_;rw[h];rfl
  refine ag ?_;refine af (aw rfl (fun h=>bd ?_) fun yh=>aj ?_)
  .have h:x.op=33:=by simpa using h
   refine ap ⟨rfl,rfl,?_,trivial⟩;show D.s (.bool (x.op==33))=_;rw[h];rfl
  refine ag ?_;refine af (aw rfl (fun h=>bd ?_) fun J=>aj ?_)
  .have h:x.op=34:=by simpa using h
   refine ap ⟨rfl,rfl,?_,trivial⟩;show D.s (.bool (x.op==34))=_;rw[h];rfl
  refine ag ?_;refine af (aw rfl (fun h=>bd ?_) fun OL=>lm ?_)
  .have h:x.op=35:=by simpa using h
   refine ap ⟨rfl,rfl,?_,trivial⟩;show D.s (.bool (x.op==35))=_;rw[h];rfl
  refine ag ?_;refine af (ap ⟨rfl,rfl,?_,trivial⟩);show D.s (.bool (x.op==37))=_;simp[aU,tm,e3,e4,e5,e6,e7,X,ye,yf,yg,yh,J,OL]
 refine aw rfl (fun h2=>?_) fun h2=>?_
 .refine az (bB ?_);exact af (aW (bG [(1,([x.a,x.b]).map I,3)] eH (l:=[(2,au ([x.a,x.b]))]) ⟨ly c3 rfl,trivial⟩) (aY (bO (aR (av (d:=au ([x.a,x.b])) rfl (congrArg au (by unfold cP;rw[if_neg (by simp[h1]),if_pos h2])))))))
 refine ws (ag ?_);refine af (aw rfl (fun h3=>?_) fun h3=>?_)
 .have h3:x.op=10:=by simpa using h3
  have CM:=CM (l:=x.args) (by have:=hx (.inl h3);omega);refine ws (ag ?_);refine cl CM (SS ?_);exact af (aY (bO (aR (av (d:=au x.args) rfl (congrArg au (by unfold cP;rw[if_neg (by simp[h1]),if_neg (by simp[h2]),if_pos h3]))))))
 have h3:¬ x.op=10:=by simpa using h3
 refine ws (ag ?_);refine af (aw rfl (fun h4=>?_) fun h4=>?_)
 .have h4:x.op=38:=by simpa using h4
  have hl:=hx (.inr h4);have tV:(x.args.map I).take (x.args.length*1)=x.args.map I:=df oS;refine az (aJ ?_);refine af (aW (bG [(2,(x.a::x.b::x.args).map I,3)] eH (l:=[(2,au (x.a::x.b::x.args))]) ⟨?_,trivial⟩) (aY (bO (aR (av (d:=au (x.a::x.b::x.args)) rfl ?_)))))
  .show uh _ [(2,_,3)] (.rs 2 0 (2+x.args.length))=_;refine(ly c3 (es:=(x.a::x.b::x.args).map I) (df oP)).trans ?_;rw[Nat.add_comm];rfl
  .exact congrArg au (by unfold cP;rw[if_neg (by simp[h1]),if_neg (by simp[h2]),if_neg h3,if_pos h4])
 have h4:¬ x.op=38:=by simpa using h4
 refine nI (az (SS ?_));exact af (aW (z6 (n0:=2) rfl) (av (d:=au []) rfl (congrArg au (by unfold cP;rw[if_neg (by simp[h1]),if_neg (by simp[h2]),if_neg h3,if_neg h4]))))
theorem MS{x:Argus.End}(hx:x.kind=5->x.ins.op=10\/x.ins.op=38->x.ins.args.length<=1000)(hy:x.kind=6\/x.kind=7->x.args.length<=1000):PCall prog 137 [.agg (bh x)] (au (cK x)):=by
 have C:∀ a∈[D.agg (bh x)],Tr a:=.cons (.agg (lR x)) .nil;refine bg VH C (cL _) ?_;rw[ah7];refine az (ag ?_);refine af (aW (bG [(0,bh x,69)] eH (l:=[(1,.pt (bh x))]) eH) (aB (aj (ag ?_))));refine af (oD (eI (fun s=>Ghost prog s ⟨aD [(1,.pt (bh x)),(4,U8 x.kind),(5,B (aU [2,8,9] x.kind))],fun _=>none,1⟩) (aj ?_) fun s hg=>⟨_,hg,?_⟩))
 .refine ag ?_;refine af (aw rfl (fun h=>bd ?_) fun e2=>aj ?_)
  .have h:x.kind=2:=by simpa using h
   refine ap ⟨rfl,rfl,?_,trivial⟩;show D.s (.bool (x.kind==2))=_;rw[h];rfl
  refine ag ?_;refine af (aw rfl (fun h=>bd ?_) fun e8=>lm ?_)
  .have h:x.kind=8:=by simpa using h
   refine ap ⟨rfl,rfl,?_,trivial⟩;show D.s (.bool (x.kind==8))=_;rw[h];rfl
  refine ag ?_;refine af (ap ⟨rfl,rfl,?_,trivial⟩);show D.s (.bool (x.kind==9))=_;simp[aU,e2,e8]
 refine aw rfl (fun h1=>?_) fun h1=>?_
 .refine az (aP ?_);exact af (aW (bG [(1,([x.a]).map I,3)] eH (l:=[(2,au ([x.a]))]) ⟨ly c3 rfl,trivial⟩) (aY (bO (aR (av (d:=au ([x.a])) rfl (congrArg au (by unfold cK;rw[if_pos h1])))))))
 refine ws (ag ?_);refine af (aw rfl (fun h2=>?_) fun h2=>?_)
 .have h2:x.kind=3:=by simpa using h2
  refine ws (aq ?_);refine af (aw rfl (fun h3=>?_) fun h3=>?_)
  .have h3:¬ x.a= -1:=by simpa[bne,ib] using h3
   refine az (aP ?_);exact af (aW (bG [(1,([x.a]).map I,3)] eH (l:=[(2,au ([x.a]))]) ⟨ly c3 rfl,trivial⟩) (aY (bO (aR (av (d:=au ([x.a])) rfl (congrArg au (by unfold cK;rw[if_neg (by simp[h1]),if_pos h2,if_pos h3])))))))
  .have h3:x.a= -1:=by simpa[bne,ib] using h3
   refine nI (az (SS ?_));exact af (aW (z6 (n0:=2) rfl) (av (d:=au []) rfl (congrArg au (by unfold cK;rw[if_neg (by simp[h1]),if_pos h2,if_neg (by simp[h3])]))))
 have h2:¬ x.kind=3:=by simpa using h2
 refine ws (ag ?_);refine af (aw rfl (fun h3=>?_) fun h3=>?_)
 .have h3:x.kind=5:=by simpa using h3
  have Cz:=Cz (x:=x.ins) (hx h3);refine ws (ag ?_);refine cl Cz (SS ?_);exact af (aY (bO (aR (av (d:=au (cP x.ins)) rfl (congrArg au (by unfold cK;rw[if_neg (by simp[h1]),if_neg h2,if_pos h3]))))))
 have h3:¬ x.kind=5:=by simpa using h3
 refine eI (fun s=>Ghost prog s ⟨aD [(1,.pt (bh x)),(4,U8 x.kind),(25,B (aU [6,7] x.kind))],fun _=>none,1⟩) (aj ?_) fun s hg=>⟨_,hg,?_⟩
 .refine ag ?_;refine af (aw rfl (fun h=>bd ?_) fun e6=>lm ?_)
  .have h:x.kind=6:=by simpa using h
   refine ap ⟨rfl,rfl,?_,trivial⟩;show D.s (.bool (x.kind==6))=_;rw[h];rfl
  refine ag ?_;refine af (ap ⟨rfl,rfl,?_,trivial⟩);show D.s (.bool (x.kind==7))=_;simp[aU,e6]
 refine aw rfl (fun h4=>?_) fun h4=>?_
 .have h5:x.kind=6\/x.kind=7:=by simpa[aU] using h4
  have CM:=CM (l:=x.args) (by have:=hy h5;omega);refine ws (ag ?_);refine cl CM (SS ?_);exact af (aY (bO (aR (av (d:=au x.args) rfl (congrArg au (by unfold cK;rw[if_neg (by simp[h1]),if_neg h2,if_neg h3,if_pos h4]))))))
 refine nI (az (SS ?_));exact af (aW (z6 (n0:=2) rfl) (av (d:=au []) rfl (congrArg au (by unfold cK;rw[if_neg (by simp[h1]),if_neg h2,if_neg h3,if_neg (by simp[h4])]))))
noncomputable def cx0:Ctx:=⟨fun f=>EZ.get f,fun _ _ _=>none,fun _ _=>none⟩
theorem nJ:cx0.Ok prog:=⟨mixed,Lj,fun _ _ _ _ h=>oH,fun _ _ _ h=>oH⟩
theorem DH{off:Nat}{vs cs:List D}(hv:vs.length=20)(hl:off+20<=cs.length)(C:vs.all D.one=true):tyOk prog 231=true/\vs.length=prog.cellsOf 231/\off+prog.cellsOf 231<=cs.length/\vs.all D.one=true:=by
 rw[tW];exact⟨t231,hv,hl,C⟩
theorem l7{w:List Int}{m:Nat}(J:w.length=20)(hm:m<1280):PCall prog 200 [iA w,I m] (B (na w m)):=by
 have C:∀ a∈[iA w,I m],Tr a:=.cons (sE _) (.cons (.s _) .nil);have hi:w[m / 64]? =some w[m / 64]:=aM oG;have hg:w.getD (m / 64) 0=w[m / 64]:=by simp[bl,hi]
 have V0:=Uu (m:=m) oG;have V1:=Uv m;have kd:=iE (f:=c6) hi;refine bg Uw C (Tr.s _) ?_;rw[afW];refine ws (ag ?_);refine er (SS ?_);refine V2 ?_;refine aq ?_;refine V3 ?_;refine aI (afA rfl rfl) ak oG (V4 ?_);refine ag ?_;refine af (av (d:=.s (.bool _)) rfl ?_);unfold na;rw[hg];rfl
theorem sF{w:List Int}{n:Int}(J:w.length=20)(hn: -1000000<=n/\n<1280):PCall prog 242 [iA w,I n] (iA (iH w n)):=by
 have C:∀ a∈[iA w,I n],Tr a:=.cons (sE _) (.cons (.s _) .nil);refine bg Ux C (sE _) ?_;rw[afX];refine ws (ag ?_);refine af (aB (aj ?_));by_cases h0:0<=n
 .obtain⟨m,rfl⟩:=cU h0;have hm:m<1280:=by omega
  have hi:w[m / 64]? =some w[m / 64]:=aM oG;have hg:w.getD (m / 64) 0=w[m / 64]:=by simp[bl,hi]
  have V0:=Uu (m:=m) oG;have V1:=Uv m;have kd:=iE (f:=c6) hi;have w7:decide (0<=(m:Int))=true:=by simp
  refine SS ?_;refine V5 ?_;refine af (dN (dE aay (SS ?_)));refine V2 ?_;refine aq ?_;refine V3 ?_;refine ajK ?_;refine ajL ?_;refine ag ?_;refine a8 bc (aj (ag ?_));refine af (nH (mF rfl rfl w9 tW (nS (by first|rfl|simp;omega)) t231 oP) ?_);simp only[iH,h0,if_true,bN,yR,hg,iA,List.map_set];rfl
 .have w7:decide (0<=n)=false:=by simpa using h0
  refine SS ?_;refine V5 ?_;refine af (gS (bP (aj (ag ?_))));refine af (nH (mF rfl rfl w9 tW (nS oP) t231 oP) ?_);simp only[iH,h0,if_false]
theorem H'{w v:List Int}(M:w.length=20)(hv:v.length=20):PCall prog 243 [iA w,iA v] (iA (iI w v)):=by
 have X:∀ a∈[iA w,iA v],Tr a:=.cons (sE _) (.cons (sE _) .nil);refine bg Uy X (sE _) ?_;rw[afY];refine ws (aq ?_);refine af (aB (az (SS ?_)))
 refine af (bR (fun s=>Ghost prog s ⟨aD [(2,.rp 0 0),(3,.rp 1 0),(4,.rp 2 0)],bf [(0,.cells ((iI w v).map c6) 231),(1,.cells (v.map c6) 231),(2,.cells (replicate 20 (c6 0)) 231)],3⟩) (dV (α:=Nat)
  (fun k=>⟨aD [(2,.rp 0 0),(3,.rp 1 0),(4,.rp 2 0),(6,I k)],bf [(0,.cells ((fK w v k).map c6) 231),(1,.cells (v.map c6) 231),(2,.cells (replicate 20 (c6 0)) 231)],3⟩)
  (fun k=>k<=20) (fun k=>20 - k) 0 (aQ eH eH) oG ?_) ?_)
 .intro k hk;refine SS ?_;refine af ⟨_,rfl,fun h=>?_,fun h=>?_⟩
  .have ao:k<20:=by have h:(k:Int)<20:=by simpa using h
                    omega
   have xv:(fK w v k).length=20:=by simp[M]
   have hi:(fK w v k)[k]? =some (fK w v k)[k]:=aM oG;have hj:v[k]? =some v[k]:=aM oG;have hg:(fK w v k).getD k 0=(fK w v k)[k]:=by simp[bl,hi]
   have C:v.getD k 0=v[k]:=by simp[bl,hj]
   have kd:=iE (f:=c6) hi;have j0:=iE (f:=c6) hj;refine ws (ag ?_);refine af (pM aaz (aN ?_));refine aI (gO rfl rfl j0 V.h) ak (gP V.h V.h j0) (V4 ?_);refine ag ?_;refine a8 bc (ag ?_);refine af (aK (k+1) (aQ eH ⟨?_,rfl,rfl,trivial⟩) oG oG);rw[up_same];simp only[fK,hg,C,List.map_set];rfl
  .have a9:¬ k<20:=by intro hh;simp at h;omega
   have:k=20:=by omega
   subst this;exact .forget _ _ _ _ fun t=>pL (l:=[(2,.rp 0 0),(3,.rp 1 0),(4,.rp 2 0)]) ⟨rfl,rfl,rfl,trivial⟩ t
 .intro s hg;have J:(iI w v).length=20:=by simp[M]
  generalize iI w v=u at hg J ⊢;refine⟨_,hg,aj ?_⟩;refine ag ?_;refine af (nH (mF rfl rfl w9 tW (nS oP) t231 oP) ?_);rfl
def ajM:Int:=18446744073709551615
theorem MF:PCall prog 241 [] (iA (replicate 20 ajM)):=by
 exact lQ nJ 100 rfl kr
theorem E0{w:List Int}{x:bE}(C:w.length=20)(hn:x.op=18->0<=x.n/\x.n<80)(ht:x.op≠18-> -1000000<=dL x/\dL x<1280):PCall prog 245 [iA w,.agg (bu x)] (iA (iH w (if x.op=18 then k8 x.n else dL x))):=by
 have J:∀ a∈[iA w,.agg (bu x)],Tr a:=.cons (sE _) (.cons (.agg (r8 x)) .nil);refine bg Uz J (sE _) ?_;rw[afZ];refine ws (aq ?_);refine af (aB (aj (aq ?_)));refine af (cx rfl (fun h=>?_) fun h=>bP (dE aaA ?_))
 .have h:x.op=18:=by simpa using h
  have hx:=hn h;have xc:=xc (n:=x.n) oG;have sF:=sF (w:=w) (n:=k8 x.n) C (by unfold k8;omega);refine aB (dE aaB (aq ?_));refine cl xc (cl sF (SS ?_));refine a8 bc (bX (nH (mF rfl rfl w9 tW (nS oP) t231 oP) ?_));simp[h]
 .have h:x.op≠18:=by simpa using h
  have Cu:=Cu (x:=x);have sF:=sF (w:=w) (n:=dL x) C (ht h);refine SS ?_;refine aI (ep (vs:=bu _) rfl rfl V.h V.h rfl) ak (ez V.h V.h (by first|(simp;done)|omega|exact bD rfl)) ?_;refine cl Cu (cl sF (SS ?_));refine a8 bc (nH (mF rfl rfl w9 tW (nS oP) t231 oP) ?_);simp[h]
end Go.Proofs.Tryz.K
namespace Go.Argus
def iO(x:End):Bool:=decide (0<=x.cX)&&aU [5,6,8] x.kind
def dp(x:End):List Int:=if aU [3,4] x.kind then [] else x.to::((if aU [2,8] x.kind then [x.gD] else [])++(x.aL.map (·.to)++(if iO x then [x.cX] else [])))
def rH(x:End):Nat:=if aU [2,8] x.kind then 2 else 1
theorem ab5{x:End}(h:aU [3,4] x.kind=false):(dp x)[0]? =some x.to/\(aU [2,8] x.kind=true->(dp x)[1]? =some x.gD)/\(∀ (j:Nat) w,x.aL[j]? =some w->(dp x)[rH x+j]? =some w.to)/\
 (iO x=true->(dp x)[rH x+x.aL.length]? =some x.cX)/\(dp x).length=rH x+x.aL.length+(if iO x then 1 else 0):=by
 unfold dp rH;generalize iO x=c;rw[if_neg (by simp[h])];cases h2:aU [2,8] x.kind with
 |true=>
  refine⟨rfl,fun _=>rfl,fun j w hj=>?_,fun hc=>?_,?_⟩
  .have:j<x.aL.length:=(bw.1 hj).1;simp only[if_true,List.singleton_append];rw[show 2+j=j+1+1 by omega,List.getElem?_cons_succ,List.getElem?_cons_succ,List.getElem?_append_left (by simpa using this)];simp[hj]
  .simp only[if_true,List.singleton_append];rw[show 2+x.aL.length=x.aL.length+1+1 by omega,List.getElem?_cons_succ,List.getElem?_cons_succ,List.getElem?_append_right oS];rw[if_pos hc];simp
  .cases c<;>simp<;>omega
 |false=>
  refine⟨rfl,fun h=>oH,fun j w hj=>?_,fun hc=>?_,?_⟩
  .have:j<x.aL.length:=(bw.1 hj).1;simp only[Bool.false_eq_true,if_false,List.nil_append];rw[show 1+j=j+1 by omega,List.getElem?_cons_succ,List.getElem?_append_left (by simpa using this)];simp[hj]
  .simp only[Bool.false_eq_true,if_false,List.nil_append];rw[show 1+x.aL.length=x.aL.length+1 by omega,List.getElem?_cons_succ,List.getElem?_append_right oS];rw[if_pos hc];simp
  .cases c<;>simp<;>omega
def BZ(x:End)(b:Int):Bool:=aX x.to b&&aX ((dp x).count b:Nat) 1
theorem KO(x:End):(dp x).length<=x.aL.length+3:=by
 unfold dp;split
 .simp
 .simp only[List.length_cons,List.length_append,List.length_map];split<;>split<;>simp<;>omega
end Go.Argus
namespace Go.Abs
theorem gA{P:Program}{Y:YSpec}{rf:Bool}{Q:Exit->St->Prop}{st:St}[eC Y]{ops:Array Oper}{i:Nat}(h:AOps P Y ops false [] (gK (Q .normal)) ops.toList st []):AW P Y rf (.region i ops false) Q st:=qG (rf:=rf) (id:=i) (AOps.lA h fun _ h=>h)
section
variable{P:Program}{env:Env}{m:Mem}{nx:Nat}{x y:Operand}{t p:TypeId}{k:IntKind}{n n':Int}
theorem Tn(hx:(opd env x).core=.s (.int .i64 n))(hy:(opd env y).core=.s (.int .i64 n')){r:Int}(hd:n - n'=r/\ -9223372036854775808<=r/\r<=9223372036854775807):Ef P (.binOp .sub t x y p) env m nx ⟨IntKind.i64=IntKind.i64,.s (.int .i64 r),[],[],0⟩:=by
 obtain⟨rfl,h⟩:=hd;exact LM hx hy h
theorem mK{j i l:Nat}{e:TypeId}{r:Row}(hx:(opd env x).core=.rs j 0 l)(hy:(opd env y).core=.s (.int k (i:Int)))(hm:m j=some r)(he:elemP P t=e)(hs:P.cellsOf e=1):
 Ef P (.indexAddr t x y) env m nx ⟨slT P t=true/\i<l,.rp j i,[],[j],0⟩:=by
 have h:=Hw (P:=P) (env:=env) (m:=m) (nx:=nx) (t:=t) hx hy hm he hs;have h1:0+((i:Int)).toNat*1=i:=by simp
 have h2:(slT P t=true/\(0:Int)<=(i:Int)/\(i:Int)<l)=(slT P t=true/\i<l):=by
  apply propext;constructor
  .rintro⟨a,_,b⟩;exact⟨a,oG⟩
  .rintro⟨a,b⟩;exact⟨a,oG,oG⟩
 rw[h1,h2] at h;exact h
theorem p7{α:Type}(f:Nat->α)(i:Nat)(a b:α):up (up f i a) i b=up f i b:=by
 funext j;simp only[up];split<;>rfl
variable{Y:YSpec}{rf:Bool}{Q:Exit->St->Prop}{st:St}{id iD i1 i3:Nat}{rc ri:Array Oper}{body:Code}{α:Type}{cf:List (Nat×Nat)}{u:Nat}
theorem aeT[eC Y](hi:drawInfo rc=some cf)(S:α->St)(J:α->Prop)(μ:α->Nat)(C:α)(hg:Ghost P st (S C))(M:J C)
 (h:∀ x,J x->AOps P Y rc true cf (gK fun s=>∃ g,opd s.env (.tmp u)=.s (.bool g)/\(g=true->AW P Y rf body (mQ iD id (fun s=>AOps P Y ri false [] (gK (sw P S J μ x)) ri.toList s []) Q) s)/\(g=false->Q .normal s)) rc.toList (S x) []):
 ∃ st',Ghost P st st'/\AW P Y rf (.block id (.loop (.seq (.seq (.region i1 rc true) (.cond (.tmp u) .skip (.exit id))) (.seq (.block iD body) (.region i3 ri false))))) Q st':=by
 refine BG (Q:=blockQ id Q) S J μ C hg M (fun x hx=>aB (BW (rf:=rf) (id:=i1) hi (AOps.lA (h x hx) fun s hs=>?_))) (a:=.skip) fun _ h=>h;obtain⟨g,h1,h2,h3⟩:=hs;refine⟨s,.refl s,cx h1 (fun X=>?_) fun xE=>?_⟩
 .exact bP (KK (h2 X))
 .refine jw ?_;simp only[seqQ,blockQ,if_true];exact h3 xE
theorem nz{l:List (Nat×D)}{m':Mem}(h:jM l env)(hm:m=m'):Ghost P ⟨env,m,nx⟩ ⟨aD l,m',nx⟩:=hm▸ap h
end
end Go.Abs
namespace Go.Proofs.Tryz.K
theorem xd{x:Argus.End}:PCall prog 156 [.agg (bh x)] (.fn (.func 202) [] [.pt (bh x)]):=by
 have C:∀ a∈[D.agg (bh x)],Tr a:=.cons (.agg (lR x)) .nil;refine bg UA C (.fn oS (.cons (.pt (lR x)) .nil)) ?_;rw[af0];refine az (SS ?_);refine aI (oE (v:=.s .nilFunc) rfl) ak trivial (af (aW (bG [(0,bh x,69)] eH (l:=[(1,.pt (bh x))]) eH) (aj (ag ?_))));exact af (av rfl rfl)
def NL(l:Nat)(x:Argus.End)(C:Nat->Mem->Nat->Prop)(n:Nat)(s:St):Prop:=∃ m nx,Ghost prog s ⟨aD [(0,.fn (.yield l) [] []),(1,.pt (bh x))],m,nx⟩/\C n m nx
theorem V6{x:Argus.End}(hlen:x.aL.length<=100000):SeqA prog 202 [] [.pt (bh x)] ((dp x).map fun n=>[I n]):=by
 refine Le mixed UB kr fun l M Stop m nx hI HH h0=>?_;rw[af1];by_cases C:aU [3,4] x.kind=true
 .have kP:((dp x).map fun n=>[I n]).length=0:=by simp[dp,C]
  rw[kP];by_cases h3:x.kind=3
  .have dY:(x.kind==3)=true:=by simpa using h3
   refine aB (aj (aP ?_));(iterate 3 refine z fun _ _=>?_);refine ag ?_;(iterate 5 refine z fun _ _=>?_);refine SS ?_;refine af (cx rfl (fun h=>Tg (aY (aR (wE (.inl h0))))) fun h=>oH)
  .have h4:x.kind=4:=by simpa[aU,h3] using C
   have dY:(x.kind==3)=false:=by simpa using h3
   have As:(x.kind==4)=true:=by simpa using h4
   refine aB (aj (aJ ?_));(iterate 5 refine z fun _ _=>?_);refine SS ?_;refine af (cx rfl (fun h=>Tg (aY (aR (wE (.inl h0))))) fun h=>oH)
 have C:aU [3,4] x.kind=false:=by simpa using C
 obtain⟨x0,x1,xw,xo,xl⟩:=ab5 C;have J:∀ {k:Nat} {n:Int},(dp x)[k]? =some n->((dp x).map fun n=>[I n])[k]? =some [I n]:=fun h=>by simp[h]
 have tM:((dp x).map fun n=>[I n]).length=rH x+x.aL.length+(if iO x then 1 else 0):=by simpa using xl
 have sS:x.kind≠3/\x.kind≠4:=by simpa[aU] using C
 refine eI (NL l x M 1) ?_ fun s hs=>?_
 .have dY:(x.kind==3)=false:=by simpa using sS.1
  have As:(x.kind==4)=false:=by simpa using sS.2
  refine ws (aJ ?_);refine aq ?_;refine HN rfl rfl rfl rfl cv ⟨rfl,0,J x0,h0,fun d m' nx' hp=>?_⟩;rcases hp with⟨rfl,hp⟩|⟨rfl,hp⟩
  .refine ag ?_;exact af (aw rfl (fun h=>oH) fun h=>bd ⟨m',nx',ap eH,hp⟩)
  .refine ag ?_;exact af (aw rfl (fun h=>aY (aR (wE (.inr hp)))) fun h=>oH)
 obtain⟨m1,XL,hg,h1⟩:=hs;refine⟨_,hg,?_⟩;clear hg h0;refine eI (NL l x M (rH x)) ?_ fun s hs=>?_
 .have yes:aU [2,8] x.kind=true->(dp x)[1]? =some x.gD/\rH x=2:=fun h=>⟨x1 h,by simp[rH,h]⟩
  by_cases h2:x.kind=2
  .obtain⟨X,y2⟩:=yes (by rw[h2];rfl);have dY:(x.kind==2)=true:=by simpa using h2
   refine ws (aP ?_);(iterate 3 refine z fun _ _=>?_);refine aN ?_;refine HN rfl rfl rfl rfl cv ⟨rfl,1,J X,h1,fun d m' nx' hp=>?_⟩;rcases hp with⟨rfl,hp⟩|⟨rfl,hp⟩
   .refine ag ?_;exact af (aw rfl (fun h=>oH) fun h=>bd ⟨m',nx',ap eH,y2▸hp⟩)
   .refine ag ?_;exact af (aw rfl (fun h=>aY (aR (wE (.inr hp)))) fun h=>oH)
  .have dY:(x.kind==2)=false:=by simpa using h2
   by_cases h8:x.kind=8
   .obtain⟨X,y2⟩:=yes (by rw[h8];rfl);have As:(x.kind==8)=true:=by simpa using h8
    refine ws (aJ ?_);refine aq ?_;refine HN rfl rfl rfl rfl cv ⟨rfl,1,J X,h1,fun d m' nx' hp=>?_⟩;rcases hp with⟨rfl,hp⟩|⟨rfl,hp⟩
    .refine ag ?_;exact af (aw rfl (fun h=>oH) fun h=>bd ⟨m',nx',ap eH,y2▸hp⟩)
    .refine ag ?_;exact af (aw rfl (fun h=>aY (aR (wE (.inr hp)))) fun h=>oH)
   .have As:(x.kind==8)=false:=by simpa using h8
    have hb:rH x=1:=by simp[rH,aU,h2,h8]
    refine ws (aJ ?_);(iterate 5 refine z fun _ _=>?_);refine SS ?_;exact af (aw rfl (fun h=>oH) fun h=>bd ⟨m1,XL,ap eH,hb▸h1⟩)
 obtain⟨m2,cI,hg,h2⟩:=hs;refine⟨_,hg,?_⟩;clear hg;refine eI (NL l x M (rH x+x.aL.length)) (az ?_) fun s hs=>?_
 .refine aP ?_
  refine af (dV (α:=Nat×Mem×Nat) (fun k=>⟨aD [(0,.fn (.yield l) [] []),(1,.pt (bh x)),(36,qH x.aL),(37,I x.aL.length),(38,I k.1)],k.2.1,k.2.2⟩)
   (fun k=>k.1<=x.aL.length/\M (rH x+k.1) k.2.1 k.2.2) (fun k=>x.aL.length - k.1) (0,m2,cI) (ap eH) ⟨oG,h2⟩ ?_)
  rintro⟨k,m3,je⟩ ⟨hk,rB⟩;refine SS ?_;refine af ⟨_,rfl,fun h=>?_,fun h=>?_⟩
  .have ao:k<x.aL.length:=by simpa using h
   have hx:x.aL[k]? =some x.aL[k]:=by simp[ao]
   generalize x.aL[k]=w at hx;refine ws (aP ?_);refine er (ag ?_);refine V7 ?_;refine MB rfl rfl cv ⟨rfl,rH x+k,J (xw k w hx),hI _ _ _ _ _ rB oG (fun i hi=>aC oG (aC oG rfl)),fun d m' nx' hp=>?_⟩;rcases hp with⟨rfl,hp⟩|⟨rfl,hp⟩
   .refine SS ?_;refine af (aw rfl (fun h=>oH) fun h=>bS (ag ?_));exact af (aK (k+1,m',nx') (ap eH) ⟨by simp only;omega,hp⟩ (by simp only;omega))
   .refine SS ?_;exact af (aw rfl (fun h=>aY (br (aR (wE (.inr hp))))) fun h=>oH)
  .have a9:¬ k<x.aL.length:=by simpa using h
   have:k=x.aL.length:=by simp only at hk;omega
   subst this;exact⟨m3,je,.forget _ _ _ _ fun t=>pL (l:=[(0,.fn (.yield l) [] []),(1,.pt (bh x))]) ⟨rfl,rfl,trivial⟩ t,rB⟩
 obtain⟨m3,je,hg,h3⟩:=hs;refine⟨_,hg,aj ?_⟩;refine aJ ?_;refine aJ ?_;refine af (aw rfl (fun h=>?_) fun h=>?_)
 .have hc:iO x=true:=by
   revert h;unfold iO aU;simp[ib,or_assoc]
  refine gA (aq ?_);refine MB rfl rfl cv ⟨rfl,_,J (xo hc),h3,fun d m' nx' hp=>af (qN ?_)⟩;rcases hp with⟨rfl,hp⟩|⟨rfl,hp⟩
  .left;rw[tM,if_pos hc];exact hp
  .exact .inr hp
 .have hc:iO x=false:=by
   revert h;unfold iO aU;simp[ib,and_assoc]
  refine bS (qN (.inl ?_));rw[tM,hc];exact h3
theorem MJ{x:Argus.End}{b:Int}(hlen:x.aL.length<=1000):PCall prog 246 [.agg (bh x),I b] (B (BZ x b)):=by
 have J:∀ a∈[D.agg (bh x),I b],Tr a:=.cons (.agg (lR x)) (.cons (.s _) .nil);have xd:=xd (x:=x);have hl:=KO x;refine bg UH J (Tr.s _) ?_;rw[af8];refine az (aq ?_);refine af (aW (bG [(0,bh x,69),(1,[I b],3)] eH (l:=[(2,.pt (bh x)),(3,.pt [I b])]) eH) (aj (SS ?_)));refine Wl ?_;refine af (eI (fun s=>∃ n',Ghost prog s ⟨aD [(2,.pt (bh x)),(3,.pt [I b]),(5,.rp 2 0)],bf [(2,.cells [I ((dp x).count b:Nat)] 3)],n'⟩) (aj ?_) fun s hs=>?_)
 .refine SS ?_;refine cl xd (af (oI ?_));refine⟨rfl,trivial,202,[],[.pt (bh x)],(dp x).map (fun n=>[I n]),fun k m nx=>m 2=some (.cells [I (((dp x).take k).count b:Nat)] 3)/\3<=nx,rfl,V6 oG,?_,⟨rfl,oS⟩,?_,?_⟩
  .intro y hy;obtain⟨n,_,rfl⟩:=List.mem_map.1 hy;exact⟨rfl,.cons (.s _) .nil⟩
  .rintro k m nx y hy ⟨ax,M⟩;simp only[List.getElem?_map,dw] at hy;obtain⟨n,hn,rfl⟩:=hy;have hk:k<(dp x).length:=(bw.1 hn).1
   have hc:((dp x).take (k+1)).count b=((dp x).take k).count b+(if n=b then 1 else 0):=by
    rw[List.take_add_one,hn,List.count_append];by_cases e:n=b
    .subst e;simp
    .simp[e]
   have C:((dp x).take k).count b<=k:=Nat.le_trans List.count_le_length oP;generalize ((dp x).take k).count b=c at ax hc C;refine gA (SS ?_);refine af (show AW _ _ _ _ _ _ from oI (aj (aq ?_)));refine af (aw rfl (fun h=>?_) fun h=>?_)
   .have h:n=b:=by simpa using h
    refine gA (ag ?_);refine cA (fG (d:=.s (.int _ _)) (cs':=[_]) rfl rfl ax rfl rfl) ak (dt V.h V.h (by first|(simp;done)|exact⟨rfl,bD rfl⟩|(simp;omega)) rfl) ?_;refine af ?_;refine⟨?_,oM⟩;dsimp only;refine(up_same _ _ _).trans ?_;rw[hc,if_pos h];simp
   .have h:¬ n=b:=by simpa using h
    exact bS ⟨by rw[hc,if_neg h];exact ax,M⟩
  .rintro m nx ⟨h1,h2⟩;refine⟨nx,aQ eH ⟨?_,trivial⟩⟩;rw[h1,List.length_map,List.take_length]
 obtain⟨n',hg⟩:=hs;refine⟨_,hg,aj ?_⟩;refine aJ ?_;refine af (av (d:=.s (.bool _)) rfl ?_);simp[BZ,aX,ib]
theorem MK{f:FuncId}{cs:List D}{xs:List Int}(hs:SeqA prog f [] cs (xs.map fun n=>[I n]))(ht:Tr (.fn (.func f) [] cs))(hlen:xs.length<=100000):OCall prog 258 [.z,.fn (.func f) [] cs] (xs.map I) xs.length 3:=by
 have a7:∀ a∈[D.z,.fn (.func f) [] cs],Tr a:=.cons .z (.cons ht .nil);refine zH UI a7 (.map fun _=>.s _) ?_;rw[af9];refine ws (iz (Hv (d:=.z) rfl rfl) ak rfl (SS ?_));refine af (eI (fun s=>(xs=[]/\∃ n',Ghost prog s ⟨aD [(2,.rp 0 0)],bf [(0,.cells [.z] 27)],n'⟩)\/∃ r n',0<r/\Ghost prog s ⟨aD [(2,.rp 0 0)],bf [(0,.cells [.rs r 0 xs.length] 27),(r,.cells (xs.map I) 3)],n'⟩) (aj ?_) fun s hs=>?_)
 .refine SS ?_;refine af (oI ?_);refine⟨rfl,trivial,f,[],cs,xs.map (fun n=>[I n]),fun k m nx=>1<=nx/\((k=0/\m 0=some (.cells [.z] 27))\/(0<k/\∃ r,0<r/\r<nx/\m 0=some (.cells [.rs r 0 k] 27)/\m r=some (.cells ((xs.take k).map I) 3))),rfl,hs,?_,⟨oS,.inl ⟨rfl,rfl⟩⟩,?_,?_⟩
  .intro y hy;obtain⟨n,_,rfl⟩:=List.mem_map.1 hy;exact⟨rfl,.cons (.s _) .nil⟩
  .rintro k m nx y hy ⟨fM,C⟩;simp only[List.getElem?_map,dw] at hy;obtain⟨n,hn,rfl⟩:=hy;have hk:k<xs.length:=(bw.1 hn).1
   have X:(xs.take (k+1)).map I=(xs.take k).map I++[I n]:=by
    rw[List.take_add_one,hn];simp
   refine gA (SS ?_);refine af (show AW _ _ _ _ _ _ from oI (gA ?_));rcases C with⟨rfl,ax⟩|⟨dT,r,M,J,ax,di⟩
   .refine aN ?_;refine af ?_;refine⟨oM,.inr ⟨oG,nx+1,oG,oM,?_,?_⟩⟩
    .dsimp only;exact(up_same _ _ _).trans rfl
    .dsimp only;exact(aC oG (up_same _ _ _)).trans (by rw[X];rfl)
   .have rM:((xs.take k).map I).length=k:=by simp;omega
    refine aP ?_;refine Wm ?_;refine af ?_;refine⟨oM,.inr ⟨oG,nx+1,oG,oM,?_,?_⟩⟩
    .dsimp only;exact(up_same _ _ _).trans rfl
    .dsimp only;exact(aC oG (up_same _ _ _)).trans (by rw[X];rfl)
  .rintro m nx ⟨fM,C⟩;rw[List.length_map] at C;rcases C with⟨h0,ax⟩|⟨dT,r,M,J,ax,di⟩
   .exact .inl ⟨List.length_eq_zero_iff.1 h0,nx,aQ eH ⟨ax,trivial⟩⟩
   .refine .inr ⟨r,nx,M,aQ eH ⟨ax,?_,trivial⟩⟩;rw[di,List.take_length]
 rcases hs with⟨rfl,n',hg⟩|⟨r,n',hr,hg⟩
 .refine⟨_,hg,az ?_⟩;refine ag ?_;refine af ⟨_,.nilrow _ _ _ 4 3 rfl,av rfl ⟨n',?_,up_same _ _ _⟩⟩;rfl
 .refine⟨_,hg,aj ?_⟩;refine ag ?_;refine af (av rfl ⟨r,rfl,?_⟩);simp[bf];omega
theorem ML{f:FuncId}{cs:List D}{xs:List Int}(hs:SeqA prog f [] cs (xs.map fun n=>[I n]))(ht:Tr (.fn (.func f) [] cs))(hlen:xs.length<=100000):OCall prog 247 [.fn (.func f) [] cs] (xs.map I) xs.length 3:=by
 have C:∀ a∈[.fn (.func f) [] cs],Tr a:=.cons ht .nil;refine zH UJ C (.map fun _=>.s _) ?_;rw[af'];have MK:=MK hs ht hlen;refine ws (SS ?_);refine er (SS ?_);refine Ca MK rfl cv (SS ?_);exact af (av rfl ⟨0,rfl,rfl⟩)
end Go.Proofs.Tryz.K
namespace Go.Argus
def swapAt(l:List Int)(j:Nat):List Int:=(l.set (j+1) (l.getD j 0)).set j (l.getD (j+1) 0)
def qg(l:List Int):Nat->List Int
 |0=>l
 |j+1=>if l.getD (j+1) 0<l.getD j 0 then qg (swapAt l j) j else l
def nT(l:List Int):Nat->List Int
 |0=>l
 |k+1=>qg (nT l k) (k+1)
def gB(l:List Int):List Int:=nT l (l.length - 1)
@[simp] theorem an9 (l : List Int) (j : Nat) : (swapAt l j).length = l.length := by simp [swapAt]
@[simp] theorem acj : ∀ (j : Nat) (l : List Int), (qg l j).length = l.length
 |0,l=>rfl
 |j+1,l=>by simp only[qg];split<;>simp[acj j]
@[simp] theorem PZ (l : List Int) : ∀ k, (nT l k).length = l.length
 |0=>rfl
 |k+1=>by simp[nT,PZ l k]
@[simp] theorem JS (l : List Int) : (gB l).length = l.length := PZ l _
def fZ(d:List Int):Nat->List Int
 |0=>[]
 |t+1=>fZ d t++(if t≠0/\d.getD t 0=d.getD (t - 1) 0 then [] else [d.getD t 0])
def ld(d:List Int):List Int:=fZ d d.length
theorem RS{d:List Int}{x:Int}:∀ {t:Nat},t<=d.length->(x∈fZ d t↔x∈d.take t)
 |0,_=>by simp[fZ]
 |t+1,ht=>by
  have ih:=RS (d:=d) (x:=x) (t:=t) oG;have hg:d.getD t 0=d[t]:=by simp[bl,aM (show t<d.length by omega)]
  rw[fZ,List.mem_append,ih,List.take_succ_eq_append_getElem oG,List.mem_append];split
  .rename_i h;have h1:d[t - 1]? =some d[t - 1]:=aM oG
   have C:d[t]∈d.take t:=by
    rw[<- hg,h.2];have:d.getD (t - 1) 0=d[t - 1]:=by simp[bl,h1]
    rw[this];exact bU (i:=t - 1) (by rw[List.getElem?_take,if_pos oG,h1])
   constructor
   .rintro(h|h)
    .exact .inl h
    .simp at h
   .rintro(h|h)
    .exact .inl h
    .simp at h;subst h;exact .inl C
  .rw[hg]
theorem KS{d:List Int}:∀ t,(fZ d t).length<=t
 |0=>by simp[fZ]
 |t+1=>by
  have:=KS (d:=d) t;rw[fZ,List.length_append];split<;>simp<;>omega
theorem Tu{d:List Int}{t:Nat}(ht:t<d.length)(h0:t≠0)(h:d.getD t 0=d.getD (t - 1) 0):fZ d (t+1)=fZ d t:=by
 rw[fZ,if_pos ⟨h0,h⟩,List.append_nil]
theorem Tv{d:List Int}{t:Nat}(h:d.getD t 0≠d.getD (t - 1) 0):fZ d (t+1)=fZ d t++[d.getD t 0]:=by
 rw[fZ,if_neg fun C=>h C.2]
end Go.Argus
namespace Go.Proofs.Tryz.K
theorem akj{a:Int}:PCall prog 227 [I a] (B false):=by
 refine bg UN (by simp[Tr.s]) (Tr.s _) ?_;rw[age];refine ws (SS ?_);refine er (aP ?_);refine af (av (d:=.s (.bool _)) rfl ?_);simp[bne]
theorem alT{a b:Int}:PCall prog 184 [I a,I b] (B (decide (a<b))):=by
 refine bg UO (by simp[Tr.s]) (Tr.s _) ?_;rw[agf];refine ws (SS ?_);refine er (SS ?_);refine cl akj (SS ?_);(iterate 3 refine z fun _ _=>?_);refine dz ?_;exact af (av (d:=.s (.bool _)) rfl rfl)
theorem akl{m:Mem}{nx i n:Nat}{l:List Int}(hi:i<nx)(hm:m i=some (.cells (l.map I) 3))(hl:l.length=n)(hn:n<=12):
 ACalls prog 178 [.rs i 0 n,I 0,I n] m nx (fun r m' nx'=>r=.tup []/\nx'=nx/\m'=up m i (some (.cells ((gB l).map I) 3))):=by
 refine zF UP ?_;rw[agh]
 have s7:up m i (some (.cells (l.map I) 3))=m:=by
  funext j;simp only[up];split
  .rename_i e;rw[e,hm]
  .rfl
 refine az (aq ?_);refine af (cQ (α:=Nat) (fun k=>⟨aD [(0,.rs i 0 n),(1,I 0),(2,I n),(6,I (k+1:Nat))],up m i (some (.cells ((nT l k).map I) 3)),nx⟩) (fun k=>k<=n - 1) (fun k=>n - k) 0 (nz eH s7.symm) oG ?_);intro k hk;refine aq ?_;refine af ⟨_,rfl,fun h=>?_,fun h=>?_⟩
 .have ao:k+1<n:=by have:((k+1:Nat):Int)<n:=by simpa using h
                    omega
  refine az (ag ?_);refine af (aeT aaT (α:=List Int×Nat) (fun s=>⟨aD [(0,.rs i 0 n),(1,I 0),(2,I n),(6,I (k+1:Nat)),(7,I s.2)],up m i (some (.cells (s.1.map I) 3)),nx⟩) (fun s=>s.1.length=n/\s.2<=k+1/\qg s.1 s.2=nT l (k+1)) (fun s=>s.2) (nT l k,k+1) (ap eH) ⟨by simp[hl],oS,rfl⟩ ?_);rintro⟨d,j⟩ ⟨hd,hj,hs⟩;simp only at hd hj hs;cases j with
  |zero=>
   have eM:decide ((0:Int)<((0:Nat):Int))=false:=rfl;refine aP ?_;(iterate 10 refine z fun _ _=>?_);refine SS ?_;refine a8 bc ⟨_,rfl,fun h=>oH,fun h=>?_⟩;have hs:d=nT l (k+1):=hs;subst hs;show AOps _ _ _ _ _ _ _ _ _;refine aq ?_;exact af (aK (k+1) (ap eH) oG oG)
  |succ j=>
   have ha:d[j+1]? =some d[j+1]:=aM oG;have hb:d[j]? =some d[j]:=aM oG;have C:d.getD (j+1) 0=d[j+1]:=by simp[bl,ha]
   have J:d.getD j 0=d[j]:=by simp[bl,hb]
   have kd:=iE (f:=I) ha;have j0:=iE (f:=I) hb;generalize M:d[j+1]=a at ha C kd;generalize X:d[j]=b at hb J j0;clear M X;have eM:decide ((0:Int)<((j+1:Nat):Int))=true:=by simp
   have m9:((j+1:Nat):Int) - 1=(j:Int)/\ -9223372036854775808<=(j:Int)/\(j:Int)<=9223372036854775807:=by omega
   refine bB ?_;refine bt rfl rfl (mK rfl rfl (up_same _ _ _) V.h V.h) (fun hc=>⟨ak,⟨V.h,oG⟩⟩) (bt rfl rfl (gO rfl (up_same _ _ _) kd V.h) (fun hc=>⟨ak,(gP V.h V.h kd)⟩) (aq ?_));refine bt rfl rfl (mK rfl rfl (up_same _ _ _) V.h V.h) (fun hc=>⟨ak,⟨V.h,oG⟩⟩) (bt rfl rfl (gO rfl (up_same _ _ _) j0 V.h) (fun hc=>⟨ak,(gP V.h V.h j0)⟩) (gc alT (SS ?_)));refine a8 bc ⟨_,rfl,fun h=>?_,fun h=>?_⟩
   .have h:a<b:=by simpa using h
    refine pM aaU (aJ ?_);refine aI (gO rfl (up_same _ _ _) j0 V.h) ak (gP V.h V.h j0) (bK ?_);refine a8 bc (aq ?_);refine af (aK (swapAt d j,j) (nz eH ?_) ⟨by simp[hd],by simp only;omega,?_⟩ (by simp only;omega))
    .rw[p7,p7];simp only[swapAt,C,J,List.map_set]
    .rw[<- hs];simp only[qg,C,J,if_pos h]
   .have h:¬ a<b:=by simpa using h
    have hs:d=nT l (k+1):=by rw[<- hs];simp only[qg,C,J,if_neg h]
    subst hs;show AOps _ _ _ _ _ _ _ _ _;refine aq ?_;exact af (aK (k+1) (ap eH) oG oG)
 .have a9:¬ k+1<n:=by have h:¬ ((k+1:Nat):Int)<n:=by simpa using h
                      omega
  refine qN ⟨rfl,rfl,?_⟩;have:k=n - 1:=by omega
  subst this;simp only[gB,hl]
theorem akm{m:Mem}{nx i n:Nat}{l:List Int}{mz:Int}(hi:i<nx)(hm:m i=some (.cells (l.map I) 3))(hl:l.length=n)(hn:n<=12):
 ACalls prog 151 [.rs i 0 n,I 0,I n,I mz] m nx (fun r m' nx'=>r=.tup []/\nx'=nx/\m'=up m i (some (.cells ((gB l).map I) 3))):=by
 refine zF UQ ?_;rw[agi];refine ws (SS ?_);refine af (az (SS ?_));refine af ⟨_,ap (l:=[(0,.rs i 0 n),(1,I 0),(2,I n)]) eH,oI (RJ (fun s=>s=⟨aD [(0,.rs i 0 n),(1,I 0),(2,I n)],m,nx⟩) (fun _=>0) rfl fun s hs=>?_)⟩;subst hs;refine oI (aj (aP ?_));refine af (aB (aj (SS ?_)));refine WI ?_;refine af (cx rfl (fun h=>?_) fun h=>?_)
 .refine aB (aj (aq ?_));refine kN (akl hi hm hl hn) rfl cv fun r m' nx' hp=>?_;obtain⟨rfl,rfl,rfl⟩:=hp;exact af (bX (bO (aR (bO (wE ⟨rfl,rfl,rfl⟩)))))
 .have:¬ ((n:Int) - 0<=12):=by simpa using h
  omega
theorem MP{n:Nat}(hn:n<=12):∃ r,PCall prog 152 [.s (.int .u64 (IntKind.u64.wrap (n:Int)))] (I r):=by
 match n,hn with
 |0,_=>exact⟨0,lQ nJ 100 rfl kr⟩
 |1,_=>exact⟨1,lQ nJ 100 rfl kr⟩
 |2,_=>exact⟨2,lQ nJ 100 rfl kr⟩
 |3,_=>exact⟨2,lQ nJ 100 rfl kr⟩
 |4,_=>exact⟨3,lQ nJ 100 rfl kr⟩
 |5,_=>exact⟨3,lQ nJ 100 rfl kr⟩
 |6,_=>exact⟨3,lQ nJ 100 rfl kr⟩
 |7,_=>exact⟨3,lQ nJ 100 rfl kr⟩
 |8,_=>exact⟨4,lQ nJ 100 rfl kr⟩
 |9,_=>exact⟨4,lQ nJ 100 rfl kr⟩
 |10,_=>exact⟨4,lQ nJ 100 rfl kr⟩
 |11,_=>exact⟨4,lQ nJ 100 rfl kr⟩
 |12,_=>exact⟨4,lQ nJ 100 rfl kr⟩
theorem xW{m:Mem}{nx i n:Nat}{l:List Int}(hi:i<nx)(hm:m i=some (.cells (l.map I) 3))(hl:l.length=n)(hn:n<=12):
 ACalls prog 89 [.rs i 0 n] m nx (fun r m' nx'=>r=.tup []/\nx'=nx/\m'=up m i (some (.cells ((gB l).map I) 3))):=by
 refine zF WJ ?_;rw[akn];obtain⟨mz,MP⟩:=MP hn;have ax:=hm;refine ws (aq ?_);refine af (gA (aq ?_));refine aI (aeC rfl V.h) ak V.h (cl MP (kN (akm hi hm hl hn) rfl cv fun r m' nx' hp=>?_));obtain⟨rfl,rfl,rfl⟩:=hp;exact af (qN ⟨rfl,rfl,rfl⟩)
end Go.Proofs.Tryz.K
namespace Go.Abs
section
variable{P:Program}{env:Env}{m:Mem}{nx:Nat}{x y:Operand}{t p:TypeId}{k:IntKind}{n n':Int}
theorem adB{j i l off:Nat}{e:TypeId}{r:Row}(hx:(opd env x).core=.rs j off l)(hy:(opd env y).core=.s (.int k (i:Int)))(hm:m j=some r)(he:elemP P t=e)(hs:P.cellsOf e=1):
 Ef P (.indexAddr t x y) env m nx ⟨slT P t=true/\i<l,.rp j (off+i),[],[j],0⟩:=by
 have h:=Hw (P:=P) (env:=env) (m:=m) (nx:=nx) (t:=t) hx hy hm he hs;have h1:off+((i:Int)).toNat*1=off+i:=by simp
 have h2:(slT P t=true/\(0:Int)<=(i:Int)/\(i:Int)<l)=(slT P t=true/\i<l):=by
  apply propext;constructor
  .rintro⟨a,_,b⟩;exact⟨a,oG⟩
  .rintro⟨a,b⟩;exact⟨a,oG,oG⟩
 rw[h1,h2] at h;exact h
theorem P'{i l a:Nat}{cs:List D}{e:TypeId}(hx:(opd env x).core=.rs i 0 l)(hm:m i=some (.cells cs e))(he:elemP P t=e)(hs:P.cellsOf e=1)(ha:(opd env y).core=.s (.int .i64 (a:Int))):
 Ef P (.slice t x (some y) none none) env m nx ⟨slT P t=true/\a<=l,.rs i a (l - a),[],[i],0⟩:=by
 have h:=J9 (P:=P) (env:=env) (m:=m) (nx:=nx) (t:=t) (lo:=some y) (hi:=none) (a:=(a:Int)) (b:=(l:Int)) hx hm he hs (by simp[bndD,ha,D.int?]) (by simp[bndD]);have h1:0+((a:Int)).toNat*1=a:=by simp
 have h3:((l:Int) - (a:Int)).toNat=l - a:=by omega
 have h2:((slT P t=true/\1=1)/\(0:Int)<=(a:Int)/\(a:Int)<=(l:Int)/\(l:Int)<=(l:Int))=(slT P t=true/\a<=l):=by
  apply propext;constructor
  .rintro⟨⟨a,_⟩,_,b,_⟩;exact⟨a,oG⟩
  .rintro⟨a,b⟩;exact⟨⟨a,rfl⟩,oG,oG,oG⟩
 rw[h1,h2,h3] at h;exact h
theorem aaV{i l b:Nat}{cs:List D}{e:TypeId}(hx:(opd env x).core=.rs i 0 l)(hm:m i=some (.cells cs e))(he:elemP P t=e)(hs:P.cellsOf e=1)(hb:(opd env y).core=.s (.int .i64 (b:Int))):
 Ef P (.slice t x none (some y) none) env m nx ⟨slT P t=true/\b<=l,.rs i 0 b,[],[i],0⟩:=by
 have h:=J9 (P:=P) (env:=env) (m:=m) (nx:=nx) (t:=t) (lo:=none) (hi:=some y) (a:=0) (b:=(b:Int)) hx hm he hs (by simp[bndD]) (by simp[bndD,hb,D.int?]);have h1:0+((0:Int)).toNat*1=0:=by simp
 have h3:((b:Int) - 0).toNat=b:=by omega
 have h2:((slT P t=true/\1=1)/\(0:Int)<=0/\(0:Int)<=(b:Int)/\(b:Int)<=(l:Int))=(slT P t=true/\b<=l):=by
  apply propext;constructor
  .rintro⟨⟨a,_⟩,_,_,b⟩;exact⟨a,oG⟩
  .rintro⟨a,b⟩;exact⟨⟨a,rfl⟩,oG,oG,oG⟩
 rw[h1,h2,h3] at h;exact h
theorem adQ{i off l:Nat}{cs z:List D}{e:TypeId}(hx:(opd env x).core=.rs i off l)(hm:m i=some (.cells cs e))(he:elemP P t=e)(C:zeroP P e=z):
 Ef P (.call { callee:=.builtin .clear,args:= #[x],argTypes:= #[t] }) env m nx ⟨slT P t=true/\off+l*P.cellsOf e<=cs.length/\e=e,.tup [],[(i,some (.cells (splice cs off (replD l z)) e))],[i],0⟩:=by
 refine wK («aS»:=[.rs i off l]) rfl (by simp[hx]) ?_;simp only[builtinD,hm,C,Array.getD_eq_getD_getElem?,List.getElem?_toArray,List.getElem?_cons_zero,Option.getD_some,he]
theorem ZQ{cs:List D}{n k:Nat}{x:D}(hn:cs.length=n)(hk:k<=n):splice cs k (replD (n - k) [x])=cs.take k++replicate (n - k) x:=by
 have hr:replD (n - k) [x]=replicate (n - k) x:=by
  unfold replD;generalize n - k=j
  induction j with
  |zero=>rfl
  |succ j ih=>simp[List.replicate_succ,ih]
 rw[hr];unfold splice;split
 .rename_i y e;have h1:n - k=1:=by have:=congrArg List.length e;simpa using this
  rw[h1] at e ⊢;simp at e;subst e;rw[List.set_eq_take_append_cons_drop,if_pos oG,List.drop_eq_nil_of_le oG];rfl
 .rw[List.length_replicate,List.drop_eq_nil_of_le oG,List.append_nil]
end
end Go.Abs
namespace Go.Proofs.Tryz.K
def wQ(d:List Int)(n:Nat):List D:=(ld d).map I++replicate (n - (ld d).length) (I 0)
def RT(d:List Int)(n:Nat)(m:Mem)(nx i:Nat)(r:D)(m':Mem)(nx':Nat):Prop:=nx'=nx/\r=.rs i 0 (ld d).length/\m'=up m i (some (.cells (wQ d n) 3))
def aeU(d:List Int)(m:Mem)(nx i:Nat)(r:D)(m':Mem)(nx':Nat):Prop:=nx'=nx/\r=.rs i 0 (ld d).length/\∃ c,m'=up m i (some (.cells c 3))/\c.take (ld d).length=(ld d).map I
theorem E2{m:Mem}{nx i n:Nat}{d:List Int}(hi:i<nx)(hm:m i=some (.cells (d.map I) 3))(hl:d.length=n)(hn:n<=100000):ACalls prog 90 [.rs i 0 n] m nx (RT d n m nx i):=by
 refine zF Cy ?_;rw[ako];have ax:=hm
 have s7:up m i (some (.cells (d.map I) 3))=m:=by
  funext j;simp only[up];split
  .rename_i e;rw[e,hm]
  .rfl
 have whole:fZ d n=d->RT d n m nx i (.rs i 0 n) m nx:=fun h=>by
  have h:ld d=d:=by unfold ld;rw[hl];exact h
  refine⟨rfl,by rw[h,hl],?_⟩;rw[wQ,h,hl,Nat.sub_self,List.replicate_zero,List.append_nil,s7]
 refine ws (SS ?_);refine af (aB (aj (aq ?_)));refine af (cx rfl (fun h=>?_) fun h=>bP (aB (az ?_)))
 .have h:n<2:=by have h:(n:Int)<2:=by simpa using h
                 omega
  refine aB (aj (ag ?_));refine af (bX (av rfl (whole ?_)))
  match d,n,hl,h with
  |[],_,rfl,_=>rfl
  |[a],_,rfl,_=>rfl
 have h2:2<=n:=by have h:¬ (n:Int)<2:=by simpa using h
                  omega
 refine SS ?_;refine af (bR (fun s=>Ghost prog s ⟨aD [(0,.rs i 0 n)],m,nx⟩/\fZ d n=d) (cQ (α:=Nat) (fun k=>⟨aD [(0,.rs i 0 n),(3,I k)],m,nx⟩) (fun k=>1<=k/\k<=n/\fZ d k=d.take k) (fun k=>n - k) 1 (ap eH) ⟨oG,oG,?_⟩ ?_) ?_)
 .match d,hl with
  |a::t,_=>rfl
  |[],hl=>simp at hl;omega
 .rintro k ⟨Fu,hk,C⟩;refine aP ?_;refine af ⟨_,rfl,fun h=>?_,fun h=>?_⟩
  .have ao:k<n:=by have h:(k:Int)<n:=by simpa using h
                   omega
   obtain⟨j,rfl⟩:∃ j,k=j+1:=⟨k - 1,oG⟩
   have ha:d[j+1]? =some d[j+1]:=aM oG;have hb:d[j]? =some d[j]:=aM oG;have ga:d.getD (j+1) 0=d[j+1]:=by simp[bl,ha]
   have gb:d.getD j 0=d[j]:=by simp[bl,hb]
   have kd:=iE (f:=I) ha;have j0:=iE (f:=I) hb;have m9:((j+1:Nat):Int) - 1=(j:Int)/\ -9223372036854775808<=(j:Int)/\(j:Int)<=9223372036854775807:=by omega
   refine dE ack (bK ?_);refine aI (gO rfl ax j0 V.h) ak (gP V.h V.h j0) (SS ?_);refine a8 bc (aw rfl (fun h=>?_) fun h=>?_)
   .have xK:d[j+1]=d[j]:=by simpa using h
    refine ws (ag ?_);refine aI (P' rfl ax V.h V.h rfl) ak ⟨V.h,oG⟩ (SS ?_);refine af (aB (az (SS ?_)));have akp:fZ d (j+1+1)=fZ d (j+1):=Tu oG oG (by rw[ga,show j+1 - 1=j by omega,gb];exact xK);have dT:(fZ d (j+1)).length=j+1:=by rw[C];simp;omega
    clear kd j0 m9
    refine af (bR (fun s=>∃ (c:List Int) (k:Nat),Ghost prog s ⟨aD [(0,.rs i 0 n),(3,I (k:Nat))],up m i (some (.cells (c.map I) 3)),nx⟩/\c.length=n/\k<=n/\c.take k=fZ d n) (cQ (α:=List Int×Nat×Nat) (fun s=>⟨aD [(0,.rs i 0 n),(3,I s.2.1),(4,.rs i (j+1) (n - (j+1))),(5,I (s.2.2+1:Nat))],up m i (some (.cells (s.1.map I) 3)),nx⟩)
     (fun s=>s.1.length=n/\j+1+(s.2.2+1)<=n/\s.2.1<=j+1+s.2.2/\s.1.take s.2.1=fZ d (j+1+(s.2.2+1))/\∀ p,j+1+s.2.2<=p->s.1[p]? =d[p]?) (fun s=>n - s.2.2) (d,j+1,0) (nz eH s7.symm) ⟨hl,by simp only;omega,by simp only;omega,?_,fun _ _=>rfl⟩ ?_) ?_)
    .show d.take (j+1)=fZ d (j+1+1);rw[akp,C]
    .rintro⟨c,k,q⟩ ⟨J,X,w3,w4,M⟩;simp only at J X w3 w4 M;dsimp only;refine ag ?_;refine aI (BV rfl (up_same _ _ _)) ak V.h (SS ?_);refine af ⟨_,rfl,fun h=>?_,fun h=>?_⟩
     .have ao:q+1<n - (j+1):=by have h:((q+1:Nat):Int)<((n - (j+1):Nat):Int):=by simpa using h
                                omega
      have xa:c[j+1+(q+1)]? =some c[j+1+(q+1)]:=aM oG;have xb:c[j+1+q]? =some c[j+1+q]:=aM oG;have ya:d.getD (j+1+(q+1)) 0=c[j+1+(q+1)]:=by rw[bl, <- M _ oG,xa];rfl
      have yb:d.getD (j+1+q) 0=c[j+1+q]:=by rw[bl, <- M _ oG,xb];rfl
      have kd:=iE (f:=I) xa;have j0:=iE (f:=I) xb;generalize hA:c[j+1+(q+1)]=a at xa ya kd;generalize hB:c[j+1+q]=b at xb yb j0;clear hA hB;have m9:((q+1:Nat):Int) - 1=(q:Int)/\ -9223372036854775808<=(q:Int)/\(q:Int)<=9223372036854775807:=by omega
      refine dE aaW (bK ?_);refine aI (gO rfl (up_same _ _ _) j0 V.h) ak (gP V.h V.h j0) (SS ?_);refine a8 bc (aw rfl (fun h=>?_) fun h=>?_)
      .have aE:a≠b:=by simpa using h
       have hn:=Tv (d:=d) (t:=j+1+(q+1)) (by rw[ya,show j+1+(q+1) - 1=j+1+q by omega,yb];exact aE);refine ws (bK ?_);refine af (ff (aq ?_));refine af (aq ?_);refine af (aK (c.set k a,k+1,q+1) (nz eH ?_) ⟨by simp[J],by simp only;omega,by simp only;omega,?_,fun p hp=>?_⟩ (by simp only;omega))
       .rw[p7,List.map_set]
       .show(c.set k a).take (k+1)=fZ d (j+1+(q+1)+1);rw[hn,ya, <- w4,List.take_succ_eq_append_getElem oP];simp;exact List.take_set_of_le (bF k)
       .simp only at hp;show(c.set k a)[p]? =_;rw[List.getElem?_set_ne oG];exact M p oG
      .have akq:a=b:=by simpa using h
       have hn:=Tu (d:=d) (t:=j+1+(q+1)) oG oG (by rw[ya,show j+1+(q+1) - 1=j+1+q by omega,yb];exact akq);refine bS (aq ?_);refine af (aK (c,k,q+1) (ap eH) ⟨J,by simp only;omega,by simp only;omega,?_,fun p hp=>M p (by simp only at hp;omega)⟩ (by simp only;omega));show c.take k=fZ d (j+1+(q+1)+1);rw[hn,w4]
     .have a9:¬ q+1<n - (j+1):=by have h:¬ ((q+1:Nat):Int)<((n - (j+1):Nat):Int):=by simpa using h
                                  omega
      refine⟨c,k,.forget _ _ _ _ fun t=>pL (l:=[(0,.rs i 0 n),(3,I k)]) ⟨rfl,rfl,trivial⟩ t,J,oG,?_⟩;rw[w4];exact congrArg (fZ d) oG
    .rintro s ⟨c,k,hg,J,ck,X⟩;refine⟨_,hg,aj ?_⟩;refine ag ?_;refine aI (P' rfl (up_same _ _ _) V.h V.h rfl) ak ⟨V.h,oG⟩ (cA (adQ rfl (up_same _ _ _) V.h V.h) ak ⟨V.h,(by rw[c3];first|(simp;done)|(simp;omega)|omega),rfl⟩ ?_);refine er (ag ?_);refine aI (aaV rfl (up_same _ _ _) V.h V.h rfl) ak ⟨V.h,oG⟩ (SS ?_);have cJ:(ld d).length=k:=by unfold ld;rw[hl, <- X];simp;omega
     refine af (aY (br (aR (av (d:=.rs i 0 k) rfl ⟨rfl,by rw[cJ],(p7 _ _ _ _).trans ?_⟩))));rw[ZQ (by rw[List.length_map,J]) ck, <- List.map_take,X,wQ,cJ];unfold ld;rw[hl]
   .have aE:d[j+1]≠d[j]:=by simpa using h
    refine bS (aq ?_);refine af (aK (j+1+1) (ap eH) ⟨oG,oG,?_⟩ oG);rw[Tv (by rw[ga,show j+1 - 1=j by omega,gb];exact aE),C,ga];exact(List.take_succ_eq_append_getElem oG).symm
  .have a9:¬ k<n:=by have h:¬ (k:Int)<n:=by simpa using h
                     omega
   have:k=n:=by omega
   refine⟨.forget _ _ _ _ fun t=>pL (l:=[(0,.rs i 0 n)]) ⟨rfl,trivial⟩ t,?_⟩;rw[<- this,C,df oG]
 .rintro s ⟨hg,C⟩;refine⟨_,hg,aj ?_⟩;refine ag ?_;exact af (av rfl (whole C))
theorem FX{m:Mem}{nx i n:Nat}{d:List Int}(hi:i<nx)(hm:m i=some (.cells (d.map I) 3))(hl:d.length=n)(hn:n<=100000):ACalls prog 90 [.rs i 0 n] m nx (aeU d m nx i):=by
 refine(E2 hi hm hl hn).mono ?_;rintro r m' nx' ⟨h1,h2,h3⟩;refine⟨h1,h2,wQ d n,h3,?_⟩;rw[wQ,List.take_append_of_le_length oS,df oS]
end Go.Proofs.Tryz.K
namespace Go.Argus
def hD(x:End)(b:Int)(w:List Int):List Int:=if BZ x b then iH w (eS x) else w
@[simp] theorem Qa (x : End) (b : Int) (w : List Int) : (hD x b w).length = w.length := by unfold hD; split <;> simp
def BK(l:List Int):List Int:=ld (gB l)
structure qT(x:bE):Prop where
 rd:∀ r∈cP x,0<=r/\r<1200
 sl:x.op=17\/x.op=18->0<=x.n/\x.n<80
 wr: -1000000<=dL x/\dL x<1200
 ar:x.op=10\/x.op=38->x.args.length<=1000
structure Ci(x:End):Prop where
 rd:∀ r∈cK x,0<=r/\r<1200
 wr: -1000000<=eS x/\eS x<1200
 wh:x.aL.length<=9
 a1:x.kind=5->x.ins.op=10\/x.ins.op=38->x.ins.args.length<=1000
 a2:x.kind=6\/x.kind=7->x.args.length<=1000
def jK(w:List Int)(ok:Bool)(rs:List Int):Bool:=rs.foldl (fun ok r=>ok&&na w r.toNat) ok
def yL(w:List Int)(x:bE):List Int:=iH w (if x.op=18 then k8 x.n else dL x)
def oW(s:List Int×Bool)(x:bE):List Int×Bool:=(yL s.1 x,jK s.1 s.2 (cP x)&&(x.op !=17||na s.1 (k8 x.n).toNat))
def lD(l:List bE)(w:List Int):List Int×Bool:=l.foldl oW (w,true)
def jJ(b:b7)(w:List Int):List Int×Bool:=((lD b.ins w).1,jK (lD b.ins w).1 (lD b.ins w).2 (cK b.fin))
theorem oB{α β:Type}{f:β->α->β}{z:β}{l:List α}{k:Nat}{x:α}(h:l[k]? =some x):(l.take (k+1)).foldl f z=f ((l.take k).foldl f z) x:=by
 rw[List.take_add_one,h,List.foldl_append];rfl
theorem Kl(l:List bE)(w:List Int):(lD l w).1.length=w.length:=by
 unfold lD;generalize true=b
 induction l generalizing w b with
 |nil=>rfl
 |cons x l ih=>rw[List.foldl_cons];exact(ih _ _).trans (by simp[yL])
theorem Jq(b:b7)(w:List Int):(jJ b w).1.length=w.length:=Kl _ _
def cY(l:List (List Int)):List D:=l.flatMap fun w=>w.map c6
theorem KT{sz:Nat}:∀ {l:List (List Int)} {i:Nat} {w:List Int},(∀ w∈l,w.length=sz)->l[i]? =some w->(cY l).drop (i*sz)=w.map c6++(cY (l.drop (i+1)))
 |[],i,w,_,h=>by simp at h
 |a::l,0,w,_,h=>by simp at h;subst h;simp[cY]
 |a::l,i+1,w,hs,h=>by
  have ha:(a.map c6).length=sz:=by simpa using hs a oS
  have h1:(i+1)*sz=(a.map c6).length+i*sz:=by rw[ha,Nat.add_mul];omega
  have ih:=KT (l:=l) (i:=i) (w:=w) (fun w C=>hs w (by simp[C])) (by simpa using h);unfold cY at ih ⊢;rw[List.flatMap_cons,h1, <- List.drop_drop,List.drop_left,ih,List.drop_succ_cons]
theorem HT{sz:Nat}{l:List (List Int)}{i:Nat}{w:List Int}(h:∀ w∈l,w.length=sz)(hi:l[i]? =some w):((cY l).drop (i*sz)).take sz=w.map c6:=by
 rw[KT h hi,List.take_append_of_le_length (by simp[h w (bU hi)]),df (by simp[h w (bU hi)])]
theorem JT{sz:Nat}:∀ {l:List (List Int)},(∀ w∈l,w.length=sz)->(cY l).length=l.length*sz
 |[],_=>by simp[cY]
 |a::l,h=>by
  have:=JT (l:=l) fun w C=>h w (by simp[C]);unfold cY at this ⊢;rw[List.flatMap_cons,List.length_append,this,List.length_map,h a oS,List.length_cons,Nat.add_mul];omega
theorem Ar{sz:Nat}{l:List (List Int)}{i:Nat}{w:List Int}(h:∀ w∈l,w.length=sz)(hi:l[i]? =some w):i*sz+sz<=(cY l).length:=by
 rw[JT h];have:=(bw.1 hi).1;rw[<- Nat.succ_mul];exact Nat.mul_le_mul_right _ this
theorem Up{sz:Nat}(J:2<=sz):∀ {l:List (List Int)} {i:Nat} {w v:List Int},(∀ w∈l,w.length=sz)->l[i]? =some v->w.length=sz->splice (cY l) (i*sz) (w.map c6)=cY (l.set i w):=by
 intro l i w v h hi C
 have key:splice (cY l) (i*sz) (w.map c6)=(cY l).take (i*sz)++w.map c6++(cY l).drop (i*sz+(w.map c6).length):=by
  unfold splice;split
  .rename_i x hx;have:(w.map c6).length=1:=by rw[hx];rfl
   simp at this;omega
  .rfl
 rw[key,List.length_map,C];clear key
 induction l generalizing i with
 |nil=>simp at hi
 |cons a l ih=>
  have ha:(a.map c6).length=sz:=by simpa using h a oS
  cases i with
  |zero=>
   simp only[Nat.zero_mul,List.take_zero,List.nil_append,Nat.zero_add,List.set_cons_zero];unfold cY;rw[List.flatMap_cons,List.flatMap_cons, <- ha,List.drop_left]
  |succ i=>
   have ih:=ih (i:=i) (fun w C=>h w (by simp[C])) (by simpa using hi);simp only[List.set_cons_succ];unfold cY at ih ⊢;rw[List.flatMap_cons,List.flatMap_cons, <- ih,show(i+1)*sz=(a.map c6).length+i*sz by rw[ha,Nat.add_mul];omega,List.take_length_add_append,Nat.add_assoc,List.drop_length_add_append];simp
theorem acm(n:Nat)(w:List Int):replD n (w.map c6)=cY (replicate n w):=by
 unfold replD cY
 induction n with
 |zero=>rfl
 |succ n ih=>rw[List.replicate_succ,List.replicate_succ,List.flatten_cons,List.flatMap_cons,ih]
theorem wx(n:Nat)(b:Bool):replD n [B b]=(replicate n b).map B:=by
 unfold replD
 induction n with
 |zero=>rfl
 |succ n ih=>rw[List.replicate_succ,List.replicate_succ,List.flatten_cons,List.map_cons,ih];rfl
theorem aeV(l:List (List Int)):∀ a∈cY l,Tr a:=.flat fun w=>.map fun _=>.s _
theorem KU{sz:Nat}{l:List (List Int)}{i:Nat}{w:List Int}(h:∀ w∈l,w.length=sz)(J:w.length=sz):∀ u∈l.set i w,u.length=sz:=fun u C=>by
 rcases List.mem_or_eq_of_mem_set C with h1|h1
 .exact h u h1
 .rw[h1];exact J
theorem Q3:∀ {w v:List Int},w.length=v.length->zipV (w.map c6) (v.map c6)=some (w.map (Value.int .u64),v.map (Value.int .u64))
 |[],[],_=>rfl
 |a::w,b::v,h=>by
  have:=Q3 (w:=w) (v:=v) (by simpa using h);simp[zipV,sameK,this]
theorem Q4:∀ {w v:List Int},w.length=v.length->veqs (w.map (Value.int .u64)) (v.map (Value.int .u64))=(w==v)
 |[],[],_=>rfl
 |a::w,b::v,h=>by
  have:=Q4 (w:=w) (v:=v) (by simpa using h);simp[veqs,veq1,this]
theorem aaY(w:List Int):(w.map (Value.int .u64)).map kindV=replicate w.length 0:=by
 induction w with
 |nil=>rfl
 |cons a w ih=>simpa[kindV,List.replicate_succ] using ih
end Go.Argus
namespace Go.Proofs.Tryz.K
theorem MQ{f:FuncId}{cs:List D}{xs:List Int}(hs:SeqA prog f [] cs (xs.map fun n=>[I n]))(ht:Tr (.fn (.func f) [] cs))(hlen:xs.length<=12):OCall prog 201 [.fn (.func f) [] cs] ((gB xs).map I) xs.length 3:=by
 have C:∀ a∈[.fn (.func f) [] cs],Tr a:=.cons ht .nil;refine zH UR C (.map fun _=>.s _) ?_;rw[agj];have ML:=ML hs ht oG;refine ws (SS ?_);refine er (SS ?_);refine Ca ML rfl cv (SS ?_);refine er (SS ?_);refine kN (xW (i:=0) (l:=xs) oG rfl rfl hlen) rfl cv fun r m' nx' hp=>?_;obtain⟨rfl,rfl,rfl⟩:=hp;refine er (ag ?_);exact af (av rfl ⟨0,rfl,rfl⟩)
theorem xh{f:FuncId}{cs:List D}{xs:List Int}(hs:SeqA prog f [] cs (xs.map fun n=>[I n]))(ht:Tr (.fn (.func f) [] cs))(hlen:xs.length<=12):PCall prog 155 [.fn (.func f) [] cs] (au (BK xs)):=by
 have C:∀ a∈[.fn (.func f) [] cs],Tr a:=.cons ht .nil;refine bg US C (cL _) ?_;rw[agk];have MQ:=MQ hs ht hlen;refine ws (SS ?_);refine af (az (SS ?_));refine Ca MQ rfl cv (kN (FX (i:=0) (d:=gB xs) (n:=xs.length) oG rfl oS oG) rfl cv fun r m' nx' hp=>?_);obtain⟨rfl,rfl,c,rfl,hc⟩:=hp;refine SS ?_;exact af (aW (bG [(0,c,3)] ⟨up_same _ _ _,trivial⟩ (l:=[(2,au (BK xs))]) ⟨(ly c3 (by rw[List.drop_zero,Nat.mul_one];exact hc)),trivial⟩) (av rfl rfl))
def nextR(x:Argus.End):List Int:=BK (dp x)
theorem Tw{x:Argus.End}(hlen:x.aL.length<=9):PCall prog 155 [.fn (.func 202) [] [.pt (bh x)]] (au (nextR x)):=
 xh (V6 oG) (.fn oS (.cons (.pt (lR x)) .nil)) (by have:=KO x;omega)
theorem zb{x:Argus.End}{b:Int}{w:List Int}(J:w.length=20)(hlen:x.aL.length<=1000)(hn: -1000000<=eS x/\eS x<1280):PCall prog 199 [.agg (bh x),I b,iA w] (iA (hD x b w)):=by
 have C:∀ a∈[D.agg (bh x),I b,iA w],Tr a:=.cons (.agg (lR x)) (.cons (.s _) (.cons (sE _) .nil));refine bg UT C (sE _) ?_;rw[agl];have MJ:=MJ (x:=x) (b:=b) hlen;refine ws (aq ?_);refine af (aB (aj (ag ?_)));refine cl MJ (af (cx rfl (fun h=>?_) fun h=>bP (aj ?_)))
 .have MR:=MR (x:=x);have sF:=sF (w:=w) (n:=eS x) J hn;refine aB (dE aaX (ag ?_));refine cl MR (cl sF (SS ?_));refine a8 bc (bX (nH (mF rfl rfl w9 tW (nS oP) t231 oP) ?_));simp[hD,h]
 .refine ag ?_;refine af (nH (mF rfl rfl w9 tW (nS oP) t231 oP) ?_);simp[hD,h]
theorem o7{b:b7}{w:List Int}(hw:w.length=20)(hl:b.ins.length<=100000)(hi:∀ x∈b.ins,qT x)(hf:Ci b.fin)(kX:∀ x∈b.ins,(cP x).length<=100000)(jX:(cK b.fin).length<=100000):PCall prog 198 [.agg (fH b),iA w] (.tup [iA (jJ b w).1,B (jJ b w).2]):=by
 have a7:∀ a∈[D.agg (fH b),iA w],Tr a:=.cons (.agg (Qb b)) (.cons (sE _) .nil);refine bg UU a7 (.tup (.cons (sE _) (.cons (.s _) .nil))) ?_;rw[agm];refine ws (iz (uU (cs:=fH _) rfl) ak (by first|rfl|exact wl fN gM|exact l6 _|exact wL dP) ?_);refine aq ?_;refine af (az (SS ?_));refine af (aW (aQ (l:=[(2,.rp 0 0),(3,.rp 1 0),(4,.rp 2 0),(6,B true)]) (ml:=[(0,.cells (fH b) 72),(1,.cells (w.map c6) 231),(2,.cells (replicate 20 (c6 0)) 231)]) eH eH) (aB (az (aP ?_))))
 refine af (bR (fun s=>∃ n',3<=n'/\Ghost prog s ⟨aD [(2,.rp 0 0),(3,.rp 1 0),(4,.rp 2 0),(6,B (lD b.ins w).2)],bf [(0,.cells (fH b) 72),(1,.cells ((lD b.ins w).1.map c6) 231),(2,.cells (replicate 20 (c6 0)) 231)],n'⟩) (dV (α:=Nat×Nat)
  (fun k=>⟨aD [(2,.rp 0 0),(3,.rp 1 0),(4,.rp 2 0),(6,B (lD (b.ins.take k.1) w).2),(14,iF b.ins),(15,I b.ins.length),(16,I k.1)],bf [(0,.cells (fH b) 72),(1,.cells ((lD (b.ins.take k.1) w).1.map c6) 231),(2,.cells (replicate 20 (c6 0)) 231)],k.2⟩)
  (fun k=>k.1<=b.ins.length/\3<=k.2) (fun k=>b.ins.length - k.1) (0,3) (aQ eH eH) ⟨oS,oS⟩ ?_) ?_)
 .rintro⟨k,N⟩ ⟨hk,hN⟩;dsimp only at hk hN ⊢;refine SS ?_;refine af ⟨_,rfl,fun h=>?_,fun h=>?_⟩
  .have ao:k<b.ins.length:=by simpa using h
   have hx:b.ins[k]? =some b.ins[k]:=by simp[ao]
   have jm:b.ins[k]∈b.ins:=cy ao;generalize b.ins[k]=x at hx jm;obtain⟨ird,X',iwr,iar⟩:=hi x jm;have C:lD (b.ins.take (k+1)) w=oW (lD (b.ins.take k) w) x:=oB hx;have hlen:(lD (b.ins.take k) w).1.length=20:=by rw[Kl,hw]
   generalize lD (b.ins.take k) w=u at C hlen;obtain⟨v,ok⟩:=u;dsimp only at hlen ⊢;refine ws (aP ?_);refine af (aB (az ?_));have Cz:=Cz (x:=x) iar;refine SS ?_;refine cl Cz (ag ?_);have aos:=kX x jm
   refine af (bR (fun s=>Ghost prog s ⟨aD [(2,.rp 0 0),(3,.rp 1 0),(4,.rp 2 0),(6,B (jK v ok (cP x))),(8,.rp N 0),(14,iF b.ins),(15,I b.ins.length),(16,I k)],up (bf [(0,.cells (fH b) 72),(1,.cells (v.map c6) 231),(2,.cells (replicate 20 (c6 0)) 231)]) N (some (.cells (bu x) 66)),N+1⟩) (dV (α:=Nat)
    (fun j=>⟨aD [(2,.rp 0 0),(3,.rp 1 0),(4,.rp 2 0),(6,B (jK v ok ((cP x).take j))),(8,.rp N 0),(14,iF b.ins),(15,I b.ins.length),(16,I k),(21,au (cP x)),(22,I (cP x).length),(23,I j)],up (bf [(0,.cells (fH b) 72),(1,.cells (v.map c6) 231),(2,.cells (replicate 20 (c6 0)) 231)]) N (some (.cells (bu x) 66)),N+1⟩)
    (fun j=>j<=(cP x).length) (fun j=>(cP x).length - j) 0 (nz eH (p7 _ _ _ _)) oG ?_) ?_)
   .intro j hj;refine SS ?_;refine af ⟨_,rfl,fun h=>?_,fun h=>?_⟩
    .have J:j<(cP x).length:=by simpa using h
     have hr:(cP x)[j]? =some (cP x)[j]:=by simp[J]
     have X:(cP x)[j]∈cP x:=cy J;generalize (cP x)[j]=r at hr X;have CR:=ird r X;obtain⟨M,rfl⟩:=cU CR.1;have l7:=l7 (w:=v) (m:=M) hlen oG;refine ws (aq ?_);refine af (ff (aP ?_));refine gc l7 (ag ?_);refine af (ag ?_);refine af (aK (j+1) (ap ⟨rfl,rfl,rfl,?_,rfl,rfl,rfl,rfl,rfl,rfl,rfl,trivial⟩) oG oG)
     have e:jK v ok ((cP x).take (j+1))=(jK v ok ((cP x).take j)&&na v M):=by
      unfold jK;rw[oB hr,bN]
     rw[e];generalize jK v ok ((cP x).take j)=g;cases g<;>rfl
    .have a9:¬ j<(cP x).length:=by simpa using h
     refine ap ⟨rfl,rfl,rfl,?_,rfl,rfl,rfl,rfl,trivial⟩;show B _=B _;rw[df oG]
   .intro s hg;have C:lD (b.ins.take (k+1)) w=(yL v x,jK v ok (cP x)&&(x.op !=17||na v (k8 x.n).toNat)):=C;generalize jK v ok (cP x)=Oh at hg C;have E0:=E0 (w:=v) (x:=x) hlen (fun h=>X' (.inr h)) (fun _=>by omega);have fin:∀ (d:Bool) env,d=(Oh&&(x.op !=17||na v (k8 x.n).toNat))->jM [(2,.rp 0 0),(3,.rp 1 0),(4,.rp 2 0),(6,B d),(8,.rp N 0),(14,iF b.ins),(15,I b.ins.length),(16,I k)] env->True:=fun _ _ _ _=>trivial;refine⟨_,hg,?_⟩;cases Oh with
    |false=>
     have xc:false=true->PCall prog 244 [I x.n] (I (k8 x.n)):=fun h=>by cases h
     have l7:false=true->PCall prog 200 [iA v,I (k8 x.n)] (B true):=fun h=>by cases h
     refine dE JH (aJ ?_);refine BX rfl rfl rfl (fun hc=>⟨ak,xc hc⟩) (BX rfl rfl rfl (fun hc=>⟨ak,l7 hc⟩) (aq ?_));refine a8 bc (ff (ag ?_));refine cl E0 (SS ?_);refine af (ag ?_);refine af (aK (k+1,N+1) (aQ ⟨rfl,rfl,rfl,?_,rfl,rfl,rfl,trivial⟩ ⟨aC oG (aC oG rfl),?_,aC oG (aC oG rfl),trivial⟩) ⟨oM,oM⟩ oM)
     .dsimp only;rw[C];rfl
     .dsimp only;rw[C];exact up_same _ _ _
    |true=>
     by_cases iR:x.op=17
     .have du:(x.op !=17)=false:=by simp[iR]
      have aoF:=X' (.inl iR);have xc:=xc (n:=x.n) oG;obtain⟨sn,pb⟩:=cU (show 0<=k8 x.n by unfold k8;omega);have l7:=l7 (w:=v) (m:=sn) hlen (by unfold k8 at pb;omega);rw[<- pb] at l7;refine dE JH (aJ ?_);refine gc xc (gc l7 (aq ?_));refine a8 bc (ff (ag ?_));refine cl E0 (SS ?_);refine af (ag ?_);refine af (aK (k+1,N+1) (aQ ⟨rfl,rfl,rfl,?_,rfl,rfl,rfl,trivial⟩ ⟨aC oG (aC oG rfl),?_,aC oG (aC oG rfl),trivial⟩) ⟨oM,oM⟩ oM)
      .dsimp only;rw[C,du,pb];rfl
      .dsimp only;rw[C];exact up_same _ _ _
     .have du:(x.op !=17)=true:=by simp[iR]
      have xc:false=true->PCall prog 244 [I x.n] (I (k8 x.n)):=fun h=>by cases h
      have l7:false=true->PCall prog 200 [iA v,I (k8 x.n)] (B true):=fun h=>by cases h
      refine dE JH (bB ?_);(iterate 5 refine z fun _ _=>?_);refine aq ?_;refine a8 bc (ff (ag ?_));refine cl E0 (SS ?_);refine af (ag ?_);refine af (aK (k+1,N+1) (aQ ⟨rfl,rfl,rfl,?_,rfl,rfl,rfl,trivial⟩ ⟨aC oG (aC oG rfl),?_,aC oG (aC oG rfl),trivial⟩) ⟨oM,oM⟩ oM)
      .dsimp only;rw[C,du];rfl
      .dsimp only;rw[C];exact up_same _ _ _
  .have a9:¬ k<b.ins.length:=by simpa using h
   have xB:b.ins.take k=b.ins:=df oG;refine⟨N,hN,?_⟩;rw[xB];exact ap eH
 .rintro s ⟨n',dn,hg⟩;have hlen:(lD b.ins w).1.length=20:=by rw[Kl,hw]
  have vW:jJ b w=((lD b.ins w).1,jK (lD b.ins w).1 (lD b.ins w).2 (cK b.fin)):=rfl;rw[vW];generalize lD b.ins w=u at hg hlen ⊢;obtain⟨v,ok⟩:=u;dsimp only at hlen hg ⊢;have MS:=MS (x:=b.fin) hf.a1 hf.a2;refine⟨_,hg,aB (az ?_)⟩;refine ag ?_;refine cl MS (ag ?_)
  refine af (bR (fun s=>Ghost prog s ⟨aD [(3,.rp 1 0),(4,.rp 2 0),(6,B (jK v ok (cK b.fin)))],bf [(1,.cells (v.map c6) 231),(2,.cells (replicate 20 (c6 0)) 231)],n'⟩) (dV (α:=Nat)
   (fun j=>⟨aD [(3,.rp 1 0),(4,.rp 2 0),(6,B (jK v ok ((cK b.fin).take j))),(53,au (cK b.fin)),(54,I (cK b.fin).length),(55,I j)],bf [(1,.cells (v.map c6) 231),(2,.cells (replicate 20 (c6 0)) 231)],n'⟩)
   (fun j=>j<=(cK b.fin).length) (fun j=>(cK b.fin).length - j) 0 (aQ eH eH) oG ?_) ?_)
  .intro j hj;refine SS ?_;refine af ⟨_,rfl,fun h=>?_,fun h=>?_⟩
   .have J:j<(cK b.fin).length:=by simpa using h
    have hr:(cK b.fin)[j]? =some (cK b.fin)[j]:=by simp[J]
    have X:(cK b.fin)[j]∈cK b.fin:=cy J;generalize (cK b.fin)[j]=r at hr X;have CR:=hf.rd r X;obtain⟨M,rfl⟩:=cU CR.1;have l7:=l7 (w:=v) (m:=M) hlen oG;refine ws (aq ?_);refine af (ff (ag ?_));refine bt rfl rfl (ep rfl rfl V.h V.h (nS (by first|rfl|exact bD rfl|(simp;done)|(simp;omega)|omega))) (fun hc=>⟨ak,(ez V.h V.h (by first|rfl|exact bD rfl|(simp;done)|(simp;omega)|omega))⟩) ?_;refine SS ?_;refine gc l7 (ag ?_);refine af (ag ?_);refine af (aK (j+1) (ap ⟨rfl,rfl,?_,rfl,rfl,rfl,trivial⟩) oG oG)
    have e:jK v ok ((cK b.fin).take (j+1))=(jK v ok ((cK b.fin).take j)&&na v M):=by
     unfold jK;rw[oB hr,bN]
    rw[e];generalize jK v ok ((cK b.fin).take j)=g;cases g<;>rfl
   .have a9:¬ j<(cK b.fin).length:=by simpa using h
    refine ap ⟨rfl,rfl,?_,trivial⟩;show B _=B _;rw[df oG]
  .intro s hg;refine⟨_,hg,aj ?_⟩;refine aP ?_;exact af (JE (mF rfl rfl w9 tW (nS oP) t231 oP) rfl rfl)
end Go.Proofs.Tryz.K
end
namespace Go.Argus
open Go.Abs
theorem aak{l:List Int}{j:Nat}(hj:j+1<l.length){x:Int}:x∈swapAt l j↔x∈l:=by
 have ha:l.getD j 0=l[j]:=by simp[bl,aM (show j<l.length by omega)]
 have hb:l.getD (j+1) 0=l[j+1]:=by simp[bl,aM hj]
 unfold swapAt;rw[ha,hb];exact(List.set_set_perm (show j+1<l.length from hj) (show j<l.length by omega)).mem_iff
theorem Rh{x:Int}:∀ (j:Nat) {l:List Int},j<l.length->(x∈qg l j↔x∈l)
 |0,l,_=>Iff.rfl
 |j+1,l,hj=>by
  simp only[qg];split
  .exact(Rh j oP).trans (aak hj)
  .exact Iff.rfl
theorem Qw{l:List Int}{x:Int}:∀ k,k<l.length->(x∈nT l k↔x∈l)
 |0,_=>Iff.rfl
 |k+1,h=>by
  simp only[nT];exact(Rh (k+1) (by simpa using h)).trans (Qw k oG)
theorem aby{l:List Int}{x:Int}:x∈gB l↔x∈l:=by
 unfold gB;cases l with
 |nil=>simp[nT]
 |cons a l=>exact Qw _ oS
theorem Gq{l:List Int}{x:Int}:x∈BK l↔x∈l:=by
 unfold BK ld;rw[RS (bF _),List.take_length];exact aby
theorem wrap_u64{n:Nat}(h:n<2 ^ 64):IntKind.u64.wrap (n:Int)=n:=by
 unfold IntKind.wrap;simp[IntKind.signed,IntKind.bits];omega
theorem adR{a b:Int}(ha:0<=a/\a<18446744073709551616):0<=rh a b/\rh a b<=a:=by
 unfold rh intBitsV;simp only;rw[wrap_u64 (n:=(BitVec.ofInt IntKind.u64.bits a&&& BitVec.ofInt IntKind.u64.bits b).toNat) (BitVec.isLt (w:=64) _)];obtain⟨n,rfl⟩:=cU ha.1
 have h1:(BitVec.ofInt IntKind.u64.bits (n:Int)).toNat=n:=by
  rw[BitVec.toNat_ofInt];show((n:Int) % ((2 ^ 64:Nat):Int)).toNat=n;omega
 have h2:(BitVec.ofInt IntKind.u64.bits (n:Int)&&& BitVec.ofInt IntKind.u64.bits b).toNat<=n:=by
  rw[BitVec.toNat_and,h1];exact Nat.and_le_left
 omega
end Go.Argus
section
open Go Go.Abs Go.Proofs Go.Argus
namespace Go.Abs
section
variable{P:Program}{env:Env}{m:Mem}{nx:Nat}{x y:Operand}{t p:TypeId}{k:IntKind}{n n':Int}
theorem DQ{j i l sz:Nat}{e:TypeId}{r:Row}(hx:(opd env x).core=.rs j 0 l)(hy:(opd env y).core=.s (.int k (i:Int)))(hm:m j=some r)(he:elemP P t=e)(hs:P.cellsOf e=sz):
 Ef P (.indexAddr t x y) env m nx ⟨slT P t=true/\i<l,.rp j (i*sz),[],[j],0⟩:=by
 have h:=Hw (P:=P) (env:=env) (m:=m) (nx:=nx) (t:=t) hx hy hm he hs;have h1:0+((i:Int)).toNat*sz=i*sz:=by simp
 have h2:(slT P t=true/\(0:Int)<=(i:Int)/\(i:Int)<l)=(slT P t=true/\i<l):=by
  apply propext;constructor
  .rintro⟨a,_,b⟩;exact⟨a,oG⟩
  .rintro⟨a,b⟩;exact⟨a,oG,oG⟩
 rw[h1,h2] at h;exact h
theorem acn{ps:Array (Nat×Operand)}{e:TypeId}{l:Nat}{z:List D}(C:P.underlying t=some (.array l e))(hp:ps.toList=[])(J:zeroP P t=z):Ef P (.build t ps) env m nx ⟨tyOk P t=true/\tyOk P e=true,.agg z,[],[],0⟩:=by
 refine⟨?_,rfl,rfl⟩;simp only[aop,C,hp,J,List.map_nil,fillD,Option.map_some]
theorem UK{xs ys:List D}{us vs:List Value}{C:List Nat}(hx:(opd env x).core=.agg xs)(hy:(opd env y).core=.agg ys)(hf:flatT P t=some C)(J:zipV xs ys=some (us,vs)){c:Bool}(hc:(!veqs us vs)=c):
 Ef P (.binOp .neq t x y p) env m nx ⟨us.map kindV=C/\P.eqGuardType P.depth t=false,.s (.bool c),[],[],0⟩:=by
 refine⟨?_,rfl,rfl⟩
 have hn:nilD P m .neq t (.agg xs) y=none:=by
  unfold nilD;split<;>first|rfl|(rename_i h;cases h)
 simp only[aop,rho,hx,hy,hn,binD,aggEqD,hf,J,hc,Option.map_some]
end
def zc(cs:List D):Prop:=∀ d∈cs,∃ v,d=.s v
theorem zc.map{α:Type}{f:α->Value}{l:List α}:zc (l.map fun x=>.s (f x)):=fun d hd=>by
 obtain⟨x,_,rfl⟩:=List.mem_map.1 hd;exact⟨_,rfl⟩
theorem agn{i sz:Nat}{C cs:List D}(h:zc cs):cs.map (sub (fz0 i C sz))=cs:=by
 induction cs with
 |nil=>rfl
 |cons d cs ih=>
  obtain⟨v,rfl⟩:=h d oS;rw[List.map_cons,ih fun d hd=>h d (by simp[hd])];rfl
theorem KV{m:Mem}{i j sz:Nat}{J cs:List D}{e:TypeId}(C:j≠i)(hm:m j=some (.cells cs e))(h:zc cs):(if j=i then none else(m j).map (Row.sub (fz0 i J sz)))=some (.cells cs e):=by
 rw[if_neg C,hm];show some (Row.cells (cs.map _) e)=_;rw[agn h]
theorem aeW{i sz n:Nat}{C es:List D}:sub (fz0 i C sz) (.sl es n)=.sl es n:=rfl
theorem GH{i j sz off n:Nat}{C:List D}(h:j≠i):sub (fz0 i C sz) (.rs j off n)=.rs j off n:=by
 show(if j=i then _ else D.rs j off n)=_;rw[if_neg h]
theorem nw{i sz n:Nat}{C:List D}(h:C.length=n*sz):sub (fz0 i C sz) (.rs i 0 n)=.sl C n:=by
 show(if i=i then D.sl ((C.drop 0).take (n*sz)) n else _)=_;rw[if_pos rfl,List.drop_zero,df oG]
end Go.Abs
namespace Go.Proofs.Tryz.K
theorem ago:flatT prog 231=some (replicate 20 0):=kr
theorem agp:prog.eqGuardType prog.depth 231=false:=kr
theorem agq:zeroP prog 231=(replicate 20 (0:Int)).map c6:=WK
theorem akr:prog.underlying 231=some (.array 20 98):=kr
section
variable{env:Env}{m:Mem}{nx:Nat}{x y:Operand}{p:TypeId}
theorem ags{w v:List Int}(hx:(opd env x).core=iA w)(hy:(opd env y).core=iA v)(h:w.length=v.length):Ef prog (.binOp .neq 231 x y p) env m nx ⟨(w.map (Value.int .u64)).map kindV=replicate 20 0/\prog.eqGuardType prog.depth 231=false,B (w !=v),[],[],0⟩:=
 UK hx hy ago (Q3 h) (by rw[Q4 h];rfl)
theorem agt{w:List Int}(h:w.length=20):(w.map (Value.int .u64)).map kindV=replicate 20 0/\prog.eqGuardType prog.depth 231=false:=⟨by rw[aaY,h],agp⟩
end
end Go.Proofs.Tryz.K
namespace Go.Argus
open Go.Proofs.Tryz.K (nextR)
structure CS where
 ws:List (List Int)
 re:List Bool
 ch:Bool
def cW(x:End)(w:List Int)(s:CS)(n:Int):CS:=
 if s.re.getD n.toNat false=false\/iI (s.ws.getD n.toNat []) (hD x n w)≠s.ws.getD n.toNat [] then⟨s.ws.set n.toNat (iI (s.ws.getD n.toNat []) (hD x n w)),s.re.set n.toNat true,true⟩ else s
def dX(bs:List b7)(s:CS)(k:Nat):CS:=match bs[k]? with
 |none=>s
 |some x=>if s.re.getD k false=true then(nextR x.fin).foldl (cW x.fin (jJ x (s.ws.getD k [])).1) s else s
def kI(bs:List b7)(s:CS):CS:=(range bs.length).foldl (dX bs) ⟨s.ws,s.re,false⟩
def nA(bs:List b7):Nat->CS->CS
 |0,s=>s
 |k+1,s=>if(kI bs s).ch=true then nA bs k (kI bs s) else kI bs s
def lE:Int:=18446744073709551615
def jl:Nat->List Int
 |0=>replicate 20 0
 |k+1=>iH (jl k) k
@[simp] theorem Qc : ∀ k, (jl k).length = 20
 |0=>rfl
 |k+1=>by simp[jl,Qc k]
def kJ(n args:Nat):CS:=⟨(replicate n (replicate 20 lE)).set 0 (jl args),(replicate n false).set 0 true,true⟩
def eN(u:Int):Prop:=0<=u/\u<18446744073709551616
structure gC(n:Nat)(s:CS):Prop where
 lw:s.ws.length=n
 lr:s.re.length=n
 kF:∀ w∈s.ws,w.length=20
 rg:∀ w∈s.ws,∀ u∈w,eN u
def nZ(w:List Int):Nat:=(w.map Int.toNat).sum
def rP(s:CS):Nat:=(s.ws.map nZ).sum+s.re.count false
def pE(s:CS):Nat:=rP s+if s.ch=true then 1 else 0
theorem RU{l:List Nat}{k x y:Nat}(h:l[k]? =some x):(l.set k y).sum+x=l.sum+y:=by
 induction l generalizing k with
 |nil=>simp at h
 |cons a l ih=>cases k with
  |zero=>simp at h;subst h;simp;omega
  |succ k=>have:=ih (k:=k) (by simpa using h);simp;omega
theorem aco{l:List Int}{k:Nat}{x y:Int}(h:l[k]? =some x):nZ (l.set k y)+x.toNat=nZ l+y.toNat:=by
 unfold nZ;rw[List.map_set];exact RU (by simp[h])
theorem Qd{a b:Int}(h:eN a):eN (rh a b)/\rh a b<=a:=by
 have:=adR (b:=b) h;exact⟨⟨this.1,by unfold eN at h;omega⟩,this.2⟩
theorem acp{α:Type}{l:List α}{k:Nat}{x:α}(h:l[k]? =some x):l.set k x=l:=by
 apply List.ext_getElem?;intro i;rw[List.getElem?_set];split
 .rename_i e;subst e;rw[if_pos (bw.1 h).1,h]
 .rfl
theorem Q5{w v:List Int}(M:∀ u∈w,eN u):∀ k,k<=w.length->(∀ u∈fK w v k,eN u)/\nZ (fK w v k)<=nZ w/\(fK w v k≠w->nZ (fK w v k)<nZ w)
 |0,_=>⟨M,bF _,fun h=>absurd rfl h⟩
 |k+1,hk=>by
  obtain⟨h1,h2,h3⟩:=Q5 (v:=v) M k oG;have hl:k<(fK w v k).length:=by simp;omega
  have hx:(fK w v k)[k]? =some (fK w v k)[k]:=aM hl;have hg:(fK w v k).getD k 0=(fK w v k)[k]:=by simp[bl,hx]
  have hm:=h1 _ (cy hl);simp only[fK,hg];generalize (fK w v k)[k]=a at hx hm;obtain⟨C,r2⟩:=Qd (b:=v.getD k 0) hm;generalize rh a (v.getD k 0)=y at C r2;have hs:=aco (y:=y) hx;unfold eN at C hm;refine⟨fun u X=>?_,oG,fun J=>?_⟩
  .rcases List.mem_or_eq_of_mem_set X with h|h
   .exact h1 u h
   .subst h;exact C
  .by_cases e:y=a
   .subst e;have:(fK w v k).set k y=fK w v k:=acp hx;rw[this] at J ⊢;exact h3 J
   .omega
theorem acq{l:List (List Int)}{k:Nat}{w v:List Int}(h:l[k]? =some w):((l.set k v).map nZ).sum+nZ w=(l.map nZ).sum+nZ v:=by
 rw[List.map_set];exact RU (by simp[h])
theorem count_set{l:List Bool}{k:Nat}{b:Bool}(h:l[k]? =some b):(l.set k true).count false+(if b=true then 0 else 1)=l.count false:=by
 induction l generalizing k with
 |nil=>simp at h
 |cons a l ih=>cases k with
  |zero=>simp at h;subst h;cases a<;>simp
  |succ k=>have:=ih (k:=k) (by simpa using h);simp only[List.set_cons_succ,List.count_cons];omega
theorem Gs{x:End}{w:List Int}{s:CS}{n:Nat}{t:Int}(hs:gC n s)(ht:0<=t/\t<n):gC n (cW x w s t)/\pE (cW x w s t)<=pE s:=by
 obtain⟨lw,lr,kF,rg⟩:=hs;obtain⟨k,rfl⟩:=cU ht.1;have hk:k<n:=by omega
 have hx:s.ws[k]? =some s.ws[k]:=aM oG;have hb:s.re[k]? =some s.re[k]:=aM oG;have M:s.ws.getD k []=s.ws[k]:=by simp[bl,hx]
 have J:s.re.getD k false=s.re[k]:=by simp[bl,hb]
 have hm:s.ws[k]∈s.ws:=cy _;unfold cW;simp only[bN,M,J];generalize s.ws[k]=v at hx hm;generalize s.re[k]=b at hb;have X:=kF v hm;obtain⟨m1,C,m3⟩:=Q5 (v:=hD x k w) (rg v hm) 20 oG;have hl:=Qe v (hD x k w)
 change (∀ u∈iI v (hD x k w),eN u) at m1
 change nZ (iI v (hD x k w))<=nZ v at C
 change iI v (hD x k w)≠v->nZ (iI v (hD x k w))<nZ v at m3
 generalize iI v (hD x k w)=u at m1 C m3 hl;split
 .rename_i hc;refine⟨⟨by simp[lw],by simp[lr],KU kF oG,fun y hy=>?_⟩,?_⟩
  .rcases List.mem_or_eq_of_mem_set hy with h|h
   .exact rg y h
   .subst h;exact m1
  .have h1:=acq (v:=u) hx;have h2:=count_set hb;unfold pE rP;simp only[if_true];rcases hc with hc|hc
   .subst hc;simp only[Bool.false_eq_true,if_false] at h2;omega
   .have:=m3 hc;omega
 .exact⟨⟨lw,lr,kF,rg⟩,bF _⟩
theorem GI{α β:Type}{f:β->α->β}{J:β->Prop}{φ:β->Nat}{l:List α}(h:∀ x∈l,∀ s,J s->J (f s x)/\φ (f s x)<=φ s){s:β}(hs:J s):J (l.foldl f s)/\φ (l.foldl f s)<=φ s:=by
 induction l generalizing s with
 |nil=>exact⟨hs,bF _⟩
 |cons x l ih=>
  obtain⟨h1,h2⟩:=h x oS s hs;obtain⟨h3,h4⟩:=ih (fun y hy=>h y (by simp[hy])) h1;exact⟨h3,Nat.le_trans h4 h2⟩
theorem z4(x:End):(nextR x).length<=x.aL.length+3:=by
 have h1:=KS (d:=gB (dp x)) (gB (dp x)).length;have h2:=KO x;rw[JS] at h1;exact Nat.le_trans (by simpa[nextR,BK,ld] using h1) h2
structure tP(n:Nat)(b:b7):Prop where
 len:b.ins.length<=100000
 ins:∀ x∈b.ins,qT x
 fin:Ci b.fin
 rl:∀ x∈b.ins,(cP x).length<=100000
 rf:(cK b.fin).length<=100000
 to:∀ t∈nextR b.fin,0<=t/\t<n
theorem Km{bs:List b7}{s:CS}{n k:Nat}(hb:∀ b∈bs,tP n b)(hs:gC n s):gC n (dX bs s k)/\pE (dX bs s k)<=pE s:=by
 unfold dX;split
 .exact⟨hs,bF _⟩
 .rename_i x hx;split
  .exact GI (J:=gC n) (φ:=pE) (fun t ht s hs=>Gs hs ((hb x (bU hx)).to t ht)) hs
  .exact⟨hs,bF _⟩
theorem Dv{bs:List b7}{s:CS}{n:Nat}(hb:∀ b∈bs,tP n b)(hs:gC n s):gC n (kI bs s)/\pE (kI bs s)<=rP s:=by
 have:=GI (J:=gC n) (φ:=pE) (f:=dX bs) (l:=range bs.length) (fun k _ s hs=>Km hb hs) (s:=⟨s.ws,s.re,false⟩) ⟨hs.lw,hs.lr,hs.kF,hs.rg⟩;exact this
def iW(bs:List b7)(args:Nat):CS:=nA bs (rP (kJ bs.length args)+1) (kJ bs.length args)
theorem getD_some{α:Type}{l:List α}{k:Nat}{x d:α}(h:l[k]? =some x):l.getD k d=x:=by simp[bl,h]
theorem Hj{α:Type}{n k:Nat}{x y:α}(hk:k<n):(replicate k x++replicate (n - k) y).set k x=replicate (k+1) x++replicate (n - (k+1)) y:=by
 rw[show n - k=n - (k+1)+1 by omega,List.replicate_succ,List.replicate_succ',List.append_assoc,List.singleton_append];rw[List.set_append];simp
theorem acr{α:Type}{a b:Nat}{x y z:α}(h:z∈replicate a x++replicate b y):z=x\/z=y:=by
 rcases List.mem_append.1 h with h|h
 .exact .inl (List.eq_of_mem_replicate h)
 .exact .inr (List.eq_of_mem_replicate h)
theorem Zu{x:End}{w v:List Int}{s:CS}{k:Nat}{b:Bool}(hx:s.ws[k]? =some v)(hb:s.re[k]? =some b)(h:b=false\/iI v (hD x k w)≠v):cW x w s k=⟨s.ws.set k (iI v (hD x k w)),s.re.set k true,true⟩:=by
 unfold cW;rw[bN,getD_some hx,getD_some hb,if_pos h]
theorem ZR{x:End}{w v:List Int}{s:CS}{k:Nat}{b:Bool}(hx:s.ws[k]? =some v)(hb:s.re[k]? =some b)(h:¬ (b=false\/iI v (hD x k w)≠v)):cW x w s k=s:=by
 unfold cW;rw[bN,getD_some hx,getD_some hb,if_neg h]
theorem Jw{n args:Nat}(ha:∀ u∈jl args,eN u):gC n (kJ n args):=by
 refine⟨by simp[kJ],by simp[kJ],KU (fun w J=>by rw[List.eq_of_mem_replicate J];simp) oS,fun w J u C=>?_⟩;rcases List.mem_or_eq_of_mem_set J with h|h
 .rw[List.eq_of_mem_replicate h] at C;rw[List.eq_of_mem_replicate C];simp[eN,lE]
 .rw[h] at C;exact ha u C
end Go.Argus
namespace Go.Proofs.Tryz.K
theorem CA{p q:D}{f:aG}{n args:Nat}(hp:Tr p)(hq:Tr q)(fN:p.one=true)(gM:q.one=true)(hn:f.blocks.length=n)(jY:0<n)(jd:n<=100000)(ha:f.args=args)(ui:args<=1000)(zP:∀ u∈jl args,eN u)(hb:∀ b∈f.blocks,tP n b):
 PCall prog 197 [.agg (bq p q f)] (.tup [.sl (cY (iW f.blocks args).ws) n,.sl ((iW f.blocks args).re.map B) n]):=by
 have a7:∀ a∈[D.agg (bq p q f)],Tr a:=.cons (nG hp hq f) .nil;refine bg UW a7 (.tup (.cons (.sl (aeV _)) (.cons (.sl (.map fun _=>.s _)) .nil))) ?_;rw[agu];refine az (aq ?_);refine af (aW (bG [(0,bq p q f,133)] eH (l:=[(1,.pt (bq p q f))]) eH) (pI aaZ (aP ?_)));refine iz (Bz rfl rfl V.h V.h) ak ⟨oG,rfl,oG,by rw[WL];omega,V.h⟩ (dz ?_);have dn:((f.blocks.length:Nat):Int).toNat=n:=hn;refine a8 bc (aW (aQ (l:=[(1,.pt (bq p q f)),(4,.rs 1 0 n),(5,.rs 2 0 n)]) (ml:=[(1,.cells (cY (replicate n (replicate 20 0))) 231),(2,.cells ((replicate n false).map B) 4)]) ⟨rfl,?_,?_,trivial⟩ ⟨?_,?_,trivial⟩) (aB (az ?_)))
 .exact congrArg (fun k=>D.rs 1 0 k) dn
 .exact congrArg (fun k=>D.rs 2 0 k) dn
 .exact congrArg (fun c=>some (Row.cells c 231)) ((congrArg (fun k=>replD k ((replicate 20 (0:Int)).map c6)) dn).trans (acm n (replicate 20 0)))
 .exact congrArg (fun c=>some (Row.cells c 4)) ((congrArg (fun k=>replD k [B false]) dn).trans (wx n false))
 refine aq ?_
 refine af (bR (fun s=>Ghost prog s ⟨aD [(1,.pt (bq p q f)),(4,.rs 1 0 n),(5,.rs 2 0 n)],bf [(1,.cells (cY (replicate n (replicate 20 lE))) 231),(2,.cells ((replicate n false).map B) 4)],3⟩) (dV (α:=Nat)
  (fun k=>⟨aD [(1,.pt (bq p q f)),(4,.rs 1 0 n),(5,.rs 2 0 n),(27,I n),(28,I k)],bf [(1,.cells (cY (replicate k (replicate 20 lE)++replicate (n - k) (replicate 20 0))) 231),(2,.cells ((replicate n false).map B) 4)],3⟩)
  (fun k=>k<=n) (fun k=>n - k) 0 (aQ eH eH) oG ?_) ?_)
 .intro k hk;refine SS ?_;refine af ⟨_,rfl,fun h=>?_,fun h=>?_⟩
  .have ao:k<n:=by simpa using h
   have sJ:=Hj (x:=replicate 20 lE) (y:=replicate 20 (0:Int)) ao
   have hi:(replicate k (replicate 20 lE)++replicate (n - k) (replicate 20 (0:Int)))[k]? =some (replicate 20 0):=by
    rw[List.getElem?_append_right oS,List.length_replicate,Nat.sub_self,show n - k=n - (k+1)+1 by omega,List.replicate_succ];rfl
   have om:∀ w∈replicate k (replicate 20 lE)++replicate (n - k) (replicate 20 (0:Int)),w.length=20:=fun w hw=>by
    rcases acr hw with h|h<;>(rw[h];simp)
   have MF:PCall prog 241 [] (iA (replicate 20 lE)):=MF;refine ws (ag ?_);refine af (ff (ag ?_));refine cl MF (ag ?_);refine af (ag ?_);refine af (aK (k+1) (aQ eH ⟨?_,rfl,trivial⟩) oG oG);rw[<- sJ];rfl
  .have a9:¬ k<n:=by simpa using h
   have:k=n:=by omega
   subst this;refine aQ eH ⟨?_,rfl,trivial⟩;show some (Row.cells (cY (_++replicate (k - k) _)) _)=_;rw[Nat.sub_self,List.replicate_zero,List.append_nil]
 rintro s hg;refine⟨_,hg,az ?_⟩;have hi:(replicate n (replicate 20 lE))[0]? =some (replicate 20 lE):=by simp[jY]
 have om:∀ w∈replicate n (replicate 20 lE),w.length=20:=fun w hw=>by rw[List.eq_of_mem_replicate hw];simp
 refine ag ?_;refine aI (acn akr rfl agq) ak ⟨V.h,V.h⟩ (aP ?_);refine af (aW (aQ (l:=[(1,.pt (bq p q f)),(4,.rs 1 0 n),(5,.rs 2 0 n)]) (ml:=[(1,.cells (cY ((replicate n (replicate 20 lE)).set 0 (jl 0))) 231),(2,.cells (((replicate n false).set 0 true).map B) 4)]) eH ⟨rfl,?_,trivial⟩) (aB (az ?_)))
 .rw[List.map_set];rfl
 clear hi;refine aP ?_
 refine af (bR (fun s=>Ghost prog s ⟨aD [(1,.pt (bq p q f)),(4,.rs 1 0 n),(5,.rs 2 0 n)],bf [(1,.cells (cY ((replicate n (replicate 20 lE)).set 0 (jl args))) 231),(2,.cells (((replicate n false).set 0 true).map B) 4)],3⟩) (dV (α:=Nat)
  (fun k=>⟨aD [(1,.pt (bq p q f)),(4,.rs 1 0 n),(5,.rs 2 0 n),(43,I args),(44,I k)],bf [(1,.cells (cY ((replicate n (replicate 20 lE)).set 0 (jl k))) 231),(2,.cells (((replicate n false).set 0 true).map B) 4)],3⟩)
  (fun k=>k<=args) (fun k=>args - k) 0 (aQ ⟨rfl,rfl,rfl,congrArg I ha,rfl,trivial⟩ eH) oG ?_) ?_)
 .intro k hk;refine SS ?_;refine af ⟨_,rfl,fun h=>?_,fun h=>?_⟩
  .have ao:k<args:=by simpa using h
   have hi:((replicate n (replicate 20 lE)).set 0 (jl k))[0]? =some (jl k):=by simp[jY]
   have om:=KU (i:=0) om (Qc k);have sF:=sF (w:=jl k) (n:=(k:Int)) oS oG;refine ws (ag ?_);refine af (ff (aq ?_));refine aI (ep rfl rfl V.h V.h (HT oN oN)) ak (ez V.h V.h (Ar oN oN)) (SS ?_);refine cl sF (ag ?_);refine af (ag ?_);refine af (aK (k+1) (aQ eH ⟨?_,rfl,trivial⟩) oG oG);show some (Row.cells (cY ((List.set _ 0 (jl k)).set 0 (jl (k+1)))) _)=_;rw[List.set_set]
  .have a9:¬ k<args:=by simpa using h
   have:k=args:=by omega
   subst this;exact ap eH
 clear om;rintro s hg;refine⟨_,hg,aB (az ?_)⟩;refine SS ?_;have zE:=Jw (n:=n) zP;have hR:iW f.blocks args=nA f.blocks (rP (kJ n args)+1) (kJ n args):=by rw[iW,hn]
 generalize iW f.blocks args=R at hR ⊢
 refine af (bR (fun s=>∃ n',Ghost prog s ⟨aD [(4,.rs 1 0 n),(5,.rs 2 0 n)],bf [(1,.cells (cY R.ws) 231),(2,.cells (R.re.map B) 4)],n'⟩/\gC n R) (yx (α:=CS×Nat)
  (fun s=>⟨aD [(1,.pt (bq p q f)),(4,.rs 1 0 n),(5,.rs 2 0 n),(8,B s.1.ch)],bf [(1,.cells (cY s.1.ws) 231),(2,.cells (s.1.re.map B) 4)],s.2⟩)
  (fun s=>gC n s.1/\3<=s.2/\(s.1.ch=true->∃ k,rP s.1<k/\nA f.blocks k s.1=R)/\(s.1.ch=false->s.1=R)) (fun s=>2*rP s.1+if s.1.ch=true then 1 else 0) (kJ n args,3)
  (aQ eH eH) ⟨zE,bF _,fun _=>⟨_,Nat.lt_succ_self _,hR.symm⟩,fun h=>by cases h⟩ ?_) ?_)
 .rintro⟨C,N0⟩ ⟨AH,oq,qx,zd⟩;dsimp only at AH oq qx zd ⊢;refine SS ?_;refine af ⟨_,rfl,fun h0=>?_,fun h=>?_⟩
  .obtain⟨jC,agv,EM⟩:=qx h0;obtain⟨jC,rfl⟩:∃ j,jC=j+1:=⟨jC - 1,oG⟩
   have EN:=Dv hb AH;refine ws (SS ?_);refine af (az (aN ?_))
   refine af (dV (α:=Nat×Nat)
    (fun k=>⟨aD [(1,.pt (bq p q f)),(4,.rs 1 0 n),(5,.rs 2 0 n),(8,B ((range k.1).foldl (dX f.blocks) ⟨C.ws,C.re,false⟩).ch),(58,gv f.blocks),(59,I n),(60,I k.1)],bf [(1,.cells (cY ((range k.1).foldl (dX f.blocks) ⟨C.ws,C.re,false⟩).ws) 231),(2,.cells (((range k.1).foldl (dX f.blocks) ⟨C.ws,C.re,false⟩).re.map B) 4)],k.2⟩)
    (fun k=>k.1<=n/\3<=k.2) (fun k=>n - k.1) (0,N0) (aQ ⟨rfl,rfl,rfl,rfl,rfl,congrArg (fun k:Nat=>I k) hn,rfl,trivial⟩ eH) ⟨Nat.zero_le _,oq⟩ ?_)
   rintro⟨k,N⟩ ⟨hk,hN⟩;dsimp only at hk hN ⊢;have bZ:=(GI (J:=gC n) (φ:=pE) (f:=dX f.blocks) (l:=range k) (fun k _ s hs=>Km hb hs) (s:=⟨C.ws,C.re,false⟩) ⟨AH.lw,AH.lr,AH.kF,AH.rg⟩).1;have cg:(range (k+1)).foldl (dX f.blocks) ⟨C.ws,C.re,false⟩=dX f.blocks ((range k).foldl (dX f.blocks) ⟨C.ws,C.re,false⟩) k:=by rw[List.range_succ,List.foldl_append];rfl
   have fS:k=n->(range k).foldl (dX f.blocks) ⟨C.ws,C.re,false⟩=kI f.blocks C:=fun e=>by rw[e,kI,hn]
   generalize (range k).foldl (dX f.blocks) ⟨C.ws,C.re,false⟩=u at bZ cg fS;refine SS ?_;refine af ⟨_,rfl,fun h=>?_,fun h=>?_⟩
   .have ao:k<n:=by simpa using h
    have hx:f.blocks[k]? =some f.blocks[k]:=aM oG;have cz:f.blocks[k]∈f.blocks:=cy _;generalize f.blocks[k]=x at hx cz;have io:=hb x cz;have M:dX f.blocks u k=if u.re.getD k false=true then(nextR x.fin).foldl (cW x.fin (jJ x (u.ws.getD k [])).1) u else u:=by rw[dX,hx]
    have lw:=bZ.lw;have lr:=bZ.lr;have kF:=bZ.kF;have hw:u.ws[k]? =some u.ws[k]:=aM oG;have iP:u.re[k]? =some u.re[k]:=aM oG;rw[getD_some hw,getD_some iP] at M;have ns:=kF _ (cy (h:=by omega):u.ws[k]∈u.ws);generalize u.ws[k]=w at hw M ns;generalize u.re[k]=b at iP M;have kd:=iE (f:=B) iP;refine ws (bB ?_);refine af (aB (aj (ag ?_)));refine aI (mK rfl rfl (aC oG (aC oG rfl)) V.h V.h) ak ⟨V.h,oG⟩ (aI (gO rfl (aC oG (aC oG rfl)) kd V.h) ak (gP V.h V.h kd) (SS ?_));refine af (cx rfl (fun h=>jw (mO ?_)) fun h=>bP (pI ZS ?_))
    .have uA:b=false:=by simpa using h
     subst uA;have M:dX f.blocks u k=u:=M;refine ag ?_;refine af (aK (k+1,N+1) (aQ ⟨rfl,rfl,rfl,?_,rfl,rfl,rfl,trivial⟩ ⟨?_,?_,trivial⟩) ⟨oM,oM⟩ oM)
     .dsimp only;rw[cg,M];rfl
     .dsimp only;rw[cg,M];exact aC oG (aC oG rfl)
     .dsimp only;rw[cg,M];exact aC oG (aC oG rfl)
    have jt:b=true:=by simpa using h
    subst jt;have M:dX f.blocks u k=(nextR x.fin).foldl (cW x.fin (jJ x w).1) u:=M;have o7:=o7 ns io.len io.ins io.fin io.rl io.rf;have xj:=Jq x w;rw[ns] at xj;generalize vW:jJ x w=th at o7 xj M;obtain⟨w',Oh⟩:=th;dsimp only at xj o7 M;clear kd;refine aI (ep (vs:=fH _) rfl (up_same _ _ _) V.h V.h rfl) ak (ez V.h V.h (by first|(simp;done)|omega|exact bD rfl)) ?_;refine ag ?_;refine aI (DQ rfl rfl (aC oG (aC oG (up_same _ _ _))) V.h V.h) ak ⟨V.h,oG⟩ (aI (ep rfl (aC oG (aC oG (up_same _ _ _))) V.h V.h (HT oN oN)) ak (ez V.h V.h (Ar oN oN)) (cl o7 (bB ?_)));refine a8 bc (aW (nz (l:=[(1,.pt (bq p q f)),(4,.rs 1 0 n),(5,.rs 2 0 n),(8,B u.ch),(10,.rp N 0),(11,.rp (N+1) 0),(58,gv f.blocks),(59,I n),(60,I k)]) (m':=up (up (bf [(1,.cells (cY u.ws) 231),(2,.cells (u.re.map B) 4)]) N (some (.cells (fH x) 72))) (N+1) (some (.cells (w'.map c6) 231))) eH (by rw[p7,p7])) (az ?_));have xd:=xd (x:=x.fin);have xh:=Tw (x:=x.fin) io.fin.wh
    change PCall _ _ _ (au (nextR x.fin)) at xh
    have dU:=io.to;have jg:=z4 x.fin;have I5:=io.fin.wh;generalize nextR x.fin=l at xh M dU jg;refine aI (uJ rfl (aC oG (up_same _ _ _)) V.h) ak (sv V.h) (aI (ep (vs:=bh _) rfl (aC oG (up_same _ _ _)) V.h V.h rfl) ak (ez V.h V.h (by first|(simp;done)|omega|exact bD rfl)) ?_);refine cl xd (cl xh (ag ?_));have sH:dX f.blocks u k=l.foldl (cW x.fin w') u:=M
    refine af (dV (α:=Nat×Nat)
     (fun j=>⟨aD [(1,.pt (bq p q f)),(4,.rs 1 0 n),(5,.rs 2 0 n),(8,B ((l.take j.1).foldl (cW x.fin w') u).ch),(10,.rp N 0),(11,.rp (N+1) 0),(58,gv f.blocks),(59,I n),(60,I k),(82,au l),(83,I l.length),(84,I j.1)],up (up (bf [(1,.cells (cY ((l.take j.1).foldl (cW x.fin w') u).ws) 231),(2,.cells (((l.take j.1).foldl (cW x.fin w') u).re.map B) 4)]) N (some (.cells (fH x) 72))) (N+1) (some (.cells (w'.map c6) 231)),j.2⟩)
     (fun j=>j.1<=l.length/\N+2<=j.2) (fun j=>l.length - j.1) (0,N+2) (nz eH rfl) ⟨Nat.zero_le _,bF _⟩ ?_)
    rintro⟨j,N'⟩ ⟨hj,I6⟩;dsimp only at hj I6 ⊢;have I7:=(GI (J:=gC n) (φ:=pE) (f:=cW x.fin w') (l:=l.take j) (fun t ht s hs=>Gs hs (dU t (List.mem_of_mem_take ht))) bZ).1;have X:∀ t,l[j]? =some t->(l.take (j+1)).foldl (cW x.fin w') u=cW x.fin w' ((l.take j).foldl (cW x.fin w') u) t:=fun t ht=>oB ht;have p8:j=l.length->(l.take j).foldl (cW x.fin w') u=dX f.blocks u k:=fun e=>by rw[sH,df oG]
    generalize (l.take j).foldl (cW x.fin w') u=v at I7 X p8;clear lw lr kF hw iP;have lw:=I7.lw;have lr:=I7.lr;have kF:=I7.kF;refine SS ?_;refine af ⟨_,rfl,fun h=>?_,fun h=>?_⟩
    .have cV:j<l.length:=by simpa using h
     have ht:l[j]? =some l[j]:=aM cV;have pF:=dU _ (cy cV);generalize l[j]=t at ht pF;obtain⟨i,rfl⟩:=cU pF.1;have bm:i<n:=by omega
     have hw:v.ws[i]? =some v.ws[i]:=aM oG;have iP:v.re[i]? =some v.re[i]:=aM oG;have Oi:=kF _ (cy (h:=by omega):v.ws[i]∈v.ws);generalize v.ws[i]=y at hw Oi;generalize v.re[i]=b at iP;have kd:=iE (f:=B) iP;have zb:=zb (x:=x.fin) (b:=(i:Int)) (w:=w') xj (by have:=io.fin.wh;omega) (by have:=io.fin.wr;omega);have xN:=Qa x.fin i w';rw[xj] at xN;have H':=H' Oi xN;have xv:=Qe y (hD x.fin i w');rw[Oi] at xv;have yes:=Zu (x:=x.fin) (w:=w') hw iP;have no:=ZR (x:=x.fin) (w:=w') hw iP;generalize iI y (hD x.fin i w')=z at H' xv yes no;refine ws (aq ?_);refine af (pI ZT (ag ?_));refine aI (DQ rfl rfl (aC oG (aC oG (up_same _ _ _))) V.h V.h) ak ⟨V.h,oG⟩ (aI (ep rfl (aC oG (aC oG (up_same _ _ _))) V.h V.h (HT oN oN)) ak (ez V.h V.h (Ar oN oN)) (aI (uJ rfl (aC oG (up_same _ _ _)) V.h) ak (sv V.h) (aI (ep (vs:=bh _) rfl (aC oG (up_same _ _ _)) V.h V.h rfl) ak (ez V.h V.h (by first|(simp;done)|omega|exact bD rfl)) ?_)));refine SS ?_;refine aI (ep rfl (up_same _ _ _) V.h V.h (nS (by first|rfl|exact bD rfl|(simp;done)|(simp;omega)|omega))) ak (ez V.h V.h (by first|rfl|exact bD rfl|(simp;done)|(simp;omega)|omega)) ?_;refine cl zb (cl H' (ag ?_));refine a8 bc (aW (nz (l:=[(1,.pt (bq p q f)),(4,.rs 1 0 n),(5,.rs 2 0 n),(8,B v.ch),(10,.rp N 0),(11,.rp (N+1) 0),(14,I i),(15,.rp N' 0),(58,gv f.blocks),(59,I n),(60,I k),(82,au l),(83,I l.length),(84,I j)]) (m':=up (up (up (bf [(1,.cells (cY v.ws) 231),(2,.cells (v.re.map B) 4)]) N (some (.cells (fH x) 72))) (N+1) (some (.cells (w'.map c6) 231))) N' (some (.cells (z.map c6) 231))) eH (p7 _ _ _ _)) (dE ZU (ag ?_)));refine aI (mK rfl rfl (aC oG (aC oG (aC oG rfl))) V.h V.h) ak ⟨V.h,oG⟩ (aI (gO rfl (aC oG (aC oG (aC oG rfl))) kd V.h) ak (gP V.h V.h kd) (ag ?_));refine bt rfl rfl (ep rfl (up_same _ _ _) V.h V.h (nS (by first|rfl|exact bD rfl|(simp;done)|(simp;omega)|omega))) (fun hc=>⟨ak,(ez V.h V.h (by first|rfl|exact bD rfl|(simp;done)|(simp;omega)|omega))⟩) ?_;refine ag ?_;refine bt rfl rfl (DQ rfl rfl (aC oG (aC oG (aC oG (up_same _ _ _)))) V.h V.h) (fun hc=>⟨ak,⟨V.h,oG⟩⟩) (bt rfl rfl (ep rfl (aC oG (aC oG (aC oG (up_same _ _ _)))) V.h V.h (HT oN oN)) (fun hc=>⟨ak,(ez V.h V.h (Ar oN oN))⟩) (bt rfl rfl (ags rfl rfl (by first|assumption|(simp;omega)|omega)) (fun hc=>⟨ak,(agt (by first|assumption|(simp;omega)|omega))⟩) ?_));refine SS ?_;refine a8 bc (aw rfl (fun h=>?_) fun h=>?_)
     .have yes:=yes (by
       cases b with
       |false=>exact .inl rfl
       |true=>exact .inr (by simpa using h))
      have X:=(X _ ht).trans yes;clear yes no;refine ff (aP ?_);refine aI (ep rfl (up_same _ _ _) V.h V.h (nS (by first|rfl|exact bD rfl|(simp;done)|(simp;omega)|omega))) ak (ez V.h V.h (by first|rfl|exact bD rfl|(simp;done)|(simp;omega)|omega)) ?_;refine aI (DQ rfl rfl (aC oG (aC oG (aC oG (up_same _ _ _)))) V.h V.h) ak ⟨V.h,oG⟩ (cA (jh rfl rfl (aC oG (aC oG (aC oG (up_same _ _ _)))) (Up oC oN oN (by first|assumption|(simp;omega)|(simp;done)))) ak (DH (by first|(simp;omega)|(simp;done)) (Ar oN oN) (l6 _)) ?_);refine aI (mK rfl rfl (aC oG (aC oG (aC oG (aC oG rfl)))) V.h V.h) ak ⟨V.h,oG⟩ (cA (fG (d:=.s (.bool _)) (cs':=_) rfl rfl (aC oG (aC oG (aC oG (aC oG rfl)))) rfl rfl) ak (dt V.h V.h (by first|(simp;done)|exact⟨rfl,bD rfl⟩|(simp;omega)) rfl) ?_);refine SS ?_;refine af (ag ?_)
      refine af (aK (j+1,N'+1) (aQ (ml:=[(N+1,.cells (w'.map c6) 231),(N,.cells (fH x) 72),(1,.cells (cY ((l.take (j+1)).foldl (cW x.fin w') u).ws) 231),(2,.cells (((l.take (j+1)).foldl (cW x.fin w') u).re.map B) 4)]) ⟨rfl,rfl,rfl,?_,rfl,rfl,rfl,rfl,rfl,rfl,rfl,rfl,trivial⟩
       ⟨aC oG (aC oG (aC oG (up_same _ _ _))),aC oG (aC oG (aC oG (aC oG (up_same _ _ _)))),aC oG ?_,?_,trivial⟩) ⟨oM,oM⟩ oM)
      .dsimp only;rw[X];rfl
      .rw[X];exact up_same _ _ _
      .rw[X];dsimp only;rw[List.map_set];exact up_same _ _ _
     .have no:=no (by
       cases b with
       |false=>simp at h
       |true=>simpa using h)
      have X:=(X _ ht).trans no;refine bS (ag ?_)
      refine af (aK (j+1,N'+1) (aQ (ml:=[(N+1,.cells (w'.map c6) 231),(N,.cells (fH x) 72),(1,.cells (cY ((l.take (j+1)).foldl (cW x.fin w') u).ws) 231),(2,.cells (((l.take (j+1)).foldl (cW x.fin w') u).re.map B) 4)]) ⟨rfl,rfl,rfl,?_,rfl,rfl,rfl,rfl,rfl,rfl,rfl,rfl,trivial⟩
       ⟨aC oG (up_same _ _ _),aC oG (aC oG (up_same _ _ _)),?_,?_,trivial⟩) ⟨oM,oM⟩ oM)
      .dsimp only;rw[X];rfl
      .rw[X];exact aC oG (aC oG (aC oG rfl))
      .rw[X];exact aC oG (aC oG (aC oG rfl))
    .have a9:¬ j<l.length:=by simpa using h
     have vl:=p8 oG;subst vl;show AOps _ _ _ _ _ _ _ _ _;refine ag ?_;refine af (aK (k+1,N') (aQ ⟨rfl,rfl,rfl,?_,rfl,rfl,rfl,trivial⟩ ⟨?_,?_,trivial⟩) ⟨oM,oM⟩ oM)
     .dsimp only;rw[cg];rfl
     .dsimp only;rw[cg];exact aC oG (aC oG rfl)
     .dsimp only;rw[cg];exact aC oG (aC oG rfl)
   .have a9:¬ k<n:=by simpa using h
    have hl:=fS oG;subst hl;refine aK (kI f.blocks C,N) (aQ eH eH) ⟨bZ,hN,fun hc=>?_,fun hc=>?_⟩ ?_
    .refine⟨jC,?_,?_⟩
     .have:=EN.2;unfold pE at this;show rP (kI f.blocks C)<jC;rw[if_pos hc] at this;omega
     .dsimp only at hc ⊢;rw[<- EM,nA,if_pos hc]
    .dsimp only at hc ⊢;rw[<- EM,nA,if_neg (by simp[hc])]
    .have:=EN.2;unfold pE at this;dsimp only;rw[if_pos h0];split at this<;>rename_i hc
     .rw[if_pos hc];omega
     .rw[if_neg hc];omega
  .have Bb:=zd h;subst Bb;exact⟨N0,aQ eH eH,AH⟩
 .rintro s ⟨n',hg,MT⟩;refine⟨_,hg,az ?_⟩;refine aP ?_;refine af (aW (bG [(1,cY R.ws,231),(2,R.re.map B,4)] ⟨rfl,KV oG rfl .map,trivial⟩ (l:=[(2,.sl (cY R.ws) n),(3,.sl (R.re.map B) n)]) ⟨?_,?_,trivial⟩) (fj rfl rfl rfl))
  .show sub (fz0 2 (R.re.map B) (prog.cellsOf 4)) (sub (fz0 1 (cY R.ws) (prog.cellsOf 231)) (D.rs 1 0 n))=_;rw[nw (by rw[tW,JT MT.kF,MT.lw]),aeW]
  .show sub (fz0 2 (R.re.map B) (prog.cellsOf 4)) (sub (fz0 1 (cY R.ws) (prog.cellsOf 231)) (D.rs 2 0 n))=_;rw[GH oG,nw (by rw[c4,List.length_map,MT.lr,Nat.mul_one])]
end Go.Proofs.Tryz.K
namespace Go.Abs
def jc(r:Nat)(l:List D):D:=match l with
 |[]=>.z
 |_=>.rs r 0 l.length
theorem p9{r:Nat}{l:List D}(h:l≠[]):jc r l=.rs r 0 l.length:=by cases l with
 |nil=>exact absurd rfl h
 |cons=>rfl
def jD(ρ:Nat->Nat)(L:Nat->List D)(n:Nat):List D:=(range n).map fun i=>jc (ρ i) (L i)
@[simp] theorem aoh (ρ : Nat -> Nat) (L : Nat -> List D) (n : Nat) : (jD ρ L n).length = n := by simp [jD]
theorem G5{ρ:Nat->Nat}{L:Nat->List D}{n i:Nat}(hi:i<n):∃ cs,(jD ρ L n).drop i=jc (ρ i) (L i)::cs:=
 ⟨_,iE (f:=fun i=>jc (ρ i) (L i)) (by simp[hi])⟩
theorem GF{α:Type}{F:Nat->α}{n i:Nat}{x:α}:((range n).map F).set i x=(range n).map (up F i x):=by
 apply List.ext_getElem?;intro k;rw[List.getElem?_set];simp only[List.length_map,List.length_range,List.getElem?_map];split
 .rename_i e;subst e;split
  .rename_i h;simp[h,up_same]
  .rename_i h;simp[h]
 .rename_i e;by_cases hk:k<n
  .simp[hk,up_ne F x (Ne.symm e)]
  .simp[hk]
theorem adS{ρ:Nat->Nat}{L:Nat->List D}{n i r:Nat}{l:List D}(hl:l≠[]):(jD ρ L n).set i (.rs r 0 l.length)=jD (up ρ i r) (up L i l) n:=by
 unfold jD;rw[GF];refine congrArg (fun F=>(range n).map F) (funext fun k=>?_);simp only[up];split
 .rw[p9 hl]
 .rfl
structure eP(m:Mem)(nx j n:Nat)(e et:TypeId)(ρ:Nat->Nat)(L:Nat->List D):Prop where
 row:m j=some (.cells (jD ρ L n) e)
 qy:j<nx
 sK:∀ i,i<n->L i≠[]->m (ρ i)=some (.cells (L i) et)
 lt:∀ i,i<n->L i≠[]->ρ i<nx
 ne:∀ i,i<n->L i≠[]->ρ i≠j
 inj:∀ i k,i<n->k<n->L i≠[]->L k≠[]->ρ i=ρ k->i=k
theorem eP.ext{m m':Mem}{nx nx' j n:Nat}{e et:TypeId}{ρ:Nat->Nat}{L:Nat->List D}(h:eP m nx j n e et ρ L)(hm:∀ q,q<nx->m' q=m q)(hn:nx<=nx'):eP m' nx' j n e et ρ L:=
 ⟨(hm j h.qy).trans h.row,Nat.lt_of_lt_of_le h.qy hn,fun i hi hl=>(hm _ (h.lt i hi hl)).trans (h.sK i hi hl),fun i hi hl=>Nat.lt_of_lt_of_le (h.lt i hi hl) hn,h.ne,h.inj⟩
theorem eP.kG{m m':Mem}{nx nx' j n i r:Nat}{e et:TypeId}{ρ:Nat->Nat}{L:Nat->List D}{l:List D}(h:eP m nx j n e et ρ L)(hi:i<n)(hl:l≠[])(hr:nx<=r)(jq:r<nx')
 (hj:m' j=some (.cells ((jD ρ L n).set i (.rs r 0 l.length)) e)) (ax:m' r=some (.cells l et)) (hk:∀ q,q<nx->q≠j->(L i≠[]->q≠ρ i)->m' q=m q):eP m' nx' j n e et (up ρ i r) (up L i l):=by
 have cV:=h.qy
 have pG:∀ k,k<n->k≠i->L k≠[]->m' (ρ k)=some (.cells (L k) et):=fun k M J C=>
  (hk _ (h.lt k M C) (h.ne k M C) fun EU e=>J (h.inj k i M hi C EU e)).trans (h.sK k M C)
 refine⟨by rw[hj,adS hl],oG,fun k M C=>?_,fun k M C=>?_,fun k M C=>?_,fun a b ha hb qz jH X=>?_⟩
 .by_cases J:k=i
  .subst J;rw[up_same,up_same];exact ax
  .rw[up_ne _ _ J] at C ⊢;rw[up_ne _ _ J];exact pG k M J C
 .by_cases J:k=i
  .subst J;rw[up_same];exact jq
  .rw[up_ne _ _ J] at C ⊢;have:=h.lt k M C;omega
 .by_cases J:k=i
  .subst J;rw[up_same];omega
  .rw[up_ne _ _ J] at C ⊢;exact h.ne k M C
 .by_cases gE:a=i
  .by_cases qA:b=i
   .omega
   .subst gE;rw[up_same,up_ne _ _ qA] at X;rw[up_ne _ _ qA] at jH;have:=h.lt b hb jH;omega
  .by_cases qA:b=i
   .subst qA;rw[up_same,up_ne _ _ gE] at X;rw[up_ne _ _ gE] at qz;have:=h.lt a ha qz;omega
   .rw[up_ne _ _ gE] at qz X;rw[up_ne _ _ qA] at jH X;exact h.inj a b ha hb qz jH X
theorem Kn{m:Mem}{nx j n:Nat}{e et:TypeId}{ρ:Nat->Nat}(hj:j<nx)(hm:m j=some (.cells (replicate n .z) e)):eP m nx j n e et ρ (fun _=>[]):=by
 refine⟨?_,hj,fun _ _ h=>absurd rfl h,fun _ _ h=>absurd rfl h,fun _ _ h=>absurd rfl h,fun _ _ _ _ h=>absurd rfl h⟩;rw[hm];congr 2;unfold jD jc;rw[List.map_const',List.length_range]
theorem BJ(n:Nat):replD n [.z]=replicate n D.z:=by
 unfold replD
 induction n with
 |zero=>rfl
 |succ n ih=>rw[List.replicate_succ,List.replicate_succ,List.flatten_cons,ih];rfl
def mS(X:Nat->Prop)(d:D):Prop:=∀ i cs sz,X i->sub (fz0 i cs sz) d=d
def nK(X:Nat->Prop)(r:Row):Prop:=∀ i cs sz,X i->Row.sub (fz0 i cs sz) r=r
theorem mS.s{X:Nat->Prop}(v:Value):mS X (.s v):=fun _ _ _ _=>rfl
theorem mS.sl{X:Nat->Prop}(es:List D)(n:Nat):mS X (.sl es n):=fun _ _ _ _=>rfl
theorem mS.z{X:Nat->Prop}:mS X .z:=fun _ _ _ _=>rfl
theorem mS.u{X:Nat->Prop}:mS X .u:=fun _ _ _ _=>rfl
theorem mS.rs{X:Nat->Prop}{j off n:Nat}(h:¬ X j):mS X (.rs j off n):=fun i cs sz hi=>GH fun e=>h (e▸hi)
theorem mS.rp{X:Nat->Prop}{j off:Nat}(h:¬ X j):mS X (.rp j off):=fun i cs sz hi=>by
 show(if j=i then _ else D.rp j off)=_;exact if_neg fun(e:j=i)=>h (e▸hi)
theorem nK.cells{X:Nat->Prop}{cs:List D}{e:TypeId}(h:∀ d∈cs,mS X d):nK X (.cells cs e):=fun i C sz hi=>by
 show Row.cells (cs.map _) e=_;congr 1
 induction cs with
 |nil=>rfl
 |cons d cs ih=>rw[List.map_cons,h d oS i C sz hi,ih fun d hd=>h d (by simp[hd])]
theorem nK.WM{X:Nat->Prop}{cs:List D}{e:TypeId}(h:zc cs):nK X (.cells cs e):=nK.cells fun d hd=>by obtain⟨v,rfl⟩:=h d hd;exact .s v
theorem Hi(d:D):Wk d d:=fun _ _ _ _ h=>h
theorem WA:Wk .z (.sl [] 0):=fun F β w v hv=>by
 obtain⟨x,rfl⟩:=hv.z_inv;exact .sln x 0
theorem ZV{X:Nat->Prop}{l:List (Nat×D)}(h:∀ x∈l,mS X x.2)(t:Nat):mS X (aD l t):=by
 induction l with
 |nil=>exact .u
 |cons x l ih=>
  obtain⟨k,d⟩:=x;simp only[aD];split
  .exact h (k,d) oS
  .exact ih fun y hy=>h y (by simp[hy])
theorem ZW{X:Nat->Prop}{l:List (Nat×Row)}(h:∀ x∈l,nK X x.2){q:Nat}{r:Row}(hq:bf l q=some r):nK X r:=by
 induction l with
 |nil=>simp[bf] at hq
 |cons x l ih=>
  obtain⟨k,d⟩:=x;simp only[bf] at hq;split at hq
  .cases hq;exact h (k,r) oS
  .exact ih (fun y hy=>h y (by simp[hy])) hq
theorem aa0{l:List (Nat×Row)}{q:Nat}(h:∀ x∈l,x.1≠q):bf l q=none:=by
 induction l with
 |nil=>rfl
 |cons x l ih=>
  obtain⟨k,d⟩:=x;simp only[bf];rw[if_neg fun e=>h (k,d) oS e.symm];exact ih fun y hy=>h y (by simp[hy])
section
variable{P:Program}
open Classical in
noncomputable def kS(ml:List (Nat×Row))(j n k:Nat)(e et:TypeId)(ρ:Nat->Nat)(L:Nat->List D):Mem:=fun q=>
 if q=j then some (.cells ((range n).map fun i=>if i<k then .sl (L i) (L i).length else jc (ρ i) (L i)) e)
 else if h:∃ i,k<=i/\i<n/\L i≠[]/\ρ i=q then some (.cells (L (Classical.choose h)) et)
 else bf ml q
theorem acs{m:Mem}{nx j n k:Nat}{e et:TypeId}{ρ:Nat->Nat}{L:Nat->List D}{l:List (Nat×D)}{ml:List (Nat×Row)}{X:Nat->Prop}(h:eP m nx j n e et ρ L)(hs:∀ i,zc (L i))(het:P.cellsOf et=1)
 (J:∀ i,i<n->L i≠[]->X (ρ i)) (qB:¬ X j) (hl:∀ x∈l,mS X x.2) (og:∀ x∈ml,nK X x.2/\¬ X x.1) (hk:k<n):
 Ghost P ⟨aD l,kS ml j n k e et ρ L,nx⟩ ⟨aD l,kS ml j n (k+1) e et ρ L,nx⟩:=by
 by_cases C:L k=[]
 .refine .weak _ _ _ _ _ (fun t=>Hi _) fun q=>?_;by_cases hq:q=j
  .subst hq;right;refine⟨_,_,e,by simp only[kS,if_true];rfl,by simp only[kS,if_true];rfl,oS,fun i d d' hd pf=>?_⟩;simp only[List.getElem?_map,dw] at hd pf;obtain⟨a,ha,rfl⟩:=hd;obtain⟨b,hb,rfl⟩:=pf;rw[ha] at hb;cases hb;by_cases h1:a<k
   .rw[if_pos h1,if_pos oG];exact Hi _
   .rw[if_neg h1];by_cases h2:a=k
    .subst h2;rw[if_pos oG,C];exact WA
    .rw[if_neg oG];exact Hi _
  .left;simp only[kS,if_neg hq]
   have:(∃ i,k+1<=i/\i<n/\L i≠[]/\ρ i=q)↔(∃ i,k<=i/\i<n/\L i≠[]/\ρ i=q):=by
    constructor
    .rintro⟨i,h1,h2⟩;exact⟨i,oG,h2⟩
    .rintro⟨i,h1,h2,h3,h4⟩
     exact⟨i,by
      rcases Nat.lt_or_ge k i with g|g
      .exact g
      .have:i=k:=by omega
       subst this;exact absurd C h3,h2,h3,h4⟩
   by_cases hc:∃ i,k<=i/\i<n/\L i≠[]/\ρ i=q
   .rw[dif_pos (this.2 hc),dif_pos hc];have e1:=Classical.choose_spec hc;have e2:=Classical.choose_spec (this.2 hc);have:Classical.choose (this.2 hc)=Classical.choose hc:=h.inj _ _ e2.2.1 e1.2.1 e2.2.2.1 e1.2.2.1 (e2.2.2.2.trans e1.2.2.2.symm);rw[this]
   .rw[dif_neg (fun h=>hc (this.1 h)),dif_neg hc]
 .have Ya:ρ k≠j:=h.ne k hk C
  have ax:kS ml j n k e et ρ L (ρ k)=some (.cells (L k) et):=by
   have hc:∃ i,k<=i/\i<n/\L i≠[]/\ρ i=ρ k:=⟨k,bF _,hk,C,rfl⟩
   simp only[kS,if_neg Ya,dif_pos hc];have e1:=Classical.choose_spec hc;have:Classical.choose hc=k:=h.inj _ _ e1.2.1 hk e1.2.2.1 C e1.2.2.2;rw[this]
  have hg:=Ghost.freeze (P:=P) (aD l) (kS ml j n k e et ρ L) nx (ρ k) (L k) et ax;have e1:(fun t=>sub (fz0 (ρ k) (L k) (P.cellsOf et)) (aD l t))=aD l:=funext fun t=>ZV hl t _ _ _ (J k hk C)
  have e2:(fun q=>if q=ρ k then none else(kS ml j n k e et ρ L q).map (Row.sub (fz0 (ρ k) (L k) (P.cellsOf et))))=kS ml j n (k+1) e et ρ L:=by
   funext q;by_cases M:q=ρ k
   .subst M;rw[if_pos rfl]
    have hc:¬ ∃ i,k+1<=i/\i<n/\L i≠[]/\ρ i=ρ k:=by
     rintro⟨i,g1,g2,g3,g4⟩;have:=h.inj _ _ g2 hk g3 C g4;omega
    simp only[kS,if_neg Ya,dif_neg hc];exact(aa0 fun x hx e=>(og x hx).2 (e▸J k hk C)).symm
   .rw[if_neg M];by_cases s9:q=j
    .subst s9;simp only[kS,if_true,Option.map_some];congr 1;show Row.cells (List.map _ (List.map _ _)) e=_;rw[List.map_map];congr 1;refine List.map_congr_left fun i hi=>?_;have bm:i<n:=by simpa using hi
     simp only[Function.comp_apply];by_cases h1:i<k
     .rw[if_pos h1,if_pos oG];rfl
     .rw[if_neg h1];by_cases h2:i=k
      .subst h2;rw[if_pos oG,p9 C,het];exact nw oG
      .rw[if_neg oG];by_cases h3:L i=[]
       .rw[h3];rfl
       .rw[p9 h3];exact GH fun e=>h2 (h.inj _ _ bm hk h3 C e)
    .simp only[kS,if_neg s9]
     have this:(∃ i,k+1<=i/\i<n/\L i≠[]/\ρ i=q)↔(∃ i,k<=i/\i<n/\L i≠[]/\ρ i=q):=by
      constructor
      .rintro⟨i,h1,h2⟩;exact⟨i,oG,h2⟩
      .rintro⟨i,h1,h2,h3,h4⟩
       exact⟨i,by
        rcases Nat.lt_or_ge k i with g|g
        .exact g
        .have:i=k:=by omega
         subst this;exact absurd h4.symm M,h2,h3,h4⟩
     by_cases hc:∃ i,k<=i/\i<n/\L i≠[]/\ρ i=q
     .rw[dif_pos (this.2 hc),dif_pos hc];have e1:=Classical.choose_spec hc;have e2:=Classical.choose_spec (this.2 hc);have:Classical.choose (this.2 hc)=Classical.choose hc:=h.inj _ _ e2.2.1 e1.2.1 e2.2.2.1 e1.2.2.1 (e2.2.2.2.trans e1.2.2.2.symm);rw[this];exact congrArg some (nK.WM (X:=X) (hs _) _ _ _ (J k hk C))
     .rw[dif_neg (fun h=>hc (this.1 h)),dif_neg hc];cases hm:bf ml q with
      |none=>rfl
      |some r=>exact congrArg some (ZW (fun x hx=>(og x hx).1) hm _ _ _ (J k hk C))
  rw[e1,e2] at hg;exact hg
theorem GJ{env:Env}{m:Mem}{nx j n:Nat}{e et:TypeId}{ρ:Nat->Nat}{L:Nat->List D}{l:List (Nat×D)}{ml:List (Nat×Row)}(X:Nat->Prop)(h:eP m nx j n e et ρ L)(hs:∀ i,zc (L i))(C:P.cellsOf et=1)
 (J:∀ i,i<n->L i≠[]->X (ρ i)) (qB:¬ X j) (he:jM l env) (hl:∀ x∈l,mS X x.2) (hm:Er ml m) (M:∀ x∈ml,nK X x.2/\¬ X x.1):
 Ghost P ⟨env,m,nx⟩ ⟨aD l,bf ((j,.cells ((range n).map fun i=>.sl (L i) (L i).length) e)::ml),nx⟩:=by
 have key:∀ k,k<=n->Ghost P ⟨aD l,kS ml j n 0 e et ρ L,nx⟩ ⟨aD l,kS ml j n k e et ρ L,nx⟩:=fun k=>by
  induction k with
  |zero=>exact fun _=>.refl _
  |succ k ih=>exact fun hk=>(ih oG).trans (acs h hs C J qB hl M oG)
 have h0:Ghost P ⟨env,m,nx⟩ ⟨aD l,kS ml j n 0 e et ρ L,nx⟩:=by
  refine(Ghost.forget env _ m nx (pL he)).trans (.drop _ _ _ _ fun q=>?_);by_cases hq:q=j
  .subst hq;left;simp only[kS,if_true,Nat.not_lt_zero,if_false];exact h.row.symm
  .simp only[kS,if_neg hq];by_cases hc:∃ i,0<=i/\i<n/\L i≠[]/\ρ i=q
   .rw[dif_pos hc];have e1:=Classical.choose_spec hc;left;have:=h.sK _ e1.2.1 e1.2.2.1;rw[e1.2.2.2] at this;exact this.symm
   .rw[dif_neg hc];exact KM hm q
 refine h0.trans ((key n (bF _)).trans (.drop _ _ _ _ fun q=>.inl ?_));by_cases hq:q=j
 .subst hq;simp only[bf,kS,if_true];congr 2;exact List.map_congr_left fun i hi=>by rw[if_pos (by simpa using hi)]
 .simp only[bf,if_neg hq,kS];rw[dif_neg];rintro⟨i,g1,g2,_⟩;omega
end
section
variable{P:Program}{env:Env}{m:Mem}{nx:Nat}{x y:Operand}{t e:TypeId}{k:IntKind}
theorem acu{w:List Int}{rest:List D}{sz:Nat}(h:w.length=sz):(w.map c6++rest).take sz=w.map c6:=by
 rw[List.take_append_of_le_length (by simp[h]),df (by simp[h])]
theorem aeX{sz n i:Nat}{l:List (List Int)}{w:List Int}(hx:(opd env x).core=.sl (cY l) n)(hy:(opd env y).core=.s (.int k i))(he:elemP P t=e)(hs:P.cellsOf e=sz)(hl:∀ w∈l,w.length=sz)(C:l[i]? =some w):
 Ef P (.indexAddr t x y) env m nx ⟨slT P t=true/\0<=(i:Int)/\(i:Int)<n/\((i:Int).toNat+1)*sz<=(cY l).length,.pt (w.map c6++cY (l.drop (i+1))),[],[],0⟩:=
 LN hx hy he hs (by rw[bN];exact KT hl C)
theorem aeY{sz n i:Nat}{l:List (List Int)}{w:List Int}(ht:slT P t=true)(hl:∀ w∈l,w.length=sz)(C:l[i]? =some w)(hn:i<n):slT P t=true/\0<=(i:Int)/\(i:Int)<n/\((i:Int).toNat+1)*sz<=(cY l).length:=by
 have:=Ar hl C;refine⟨ht,oG,oG,?_⟩;rw[bN,Nat.add_mul,Nat.one_mul];exact this
theorem uM{i:Nat}{cs:List D}{l:List (Nat×D)}(hm:m i=some (.cells cs e))(hl:jM l fun t=>sub (fz0 i cs (P.cellsOf e)) (env t)):Ghost P ⟨env,m,nx⟩ ⟨aD l,fun _=>none,nx⟩:=
 bG [(i,cs,e)] ⟨hm,trivial⟩ hl
theorem fQ{l:List (Nat×D)}(hl:jM l env):Ghost P ⟨env,m,nx⟩ ⟨aD l,fun _=>none,nx⟩:=Q6 hl fun _=>.inr rfl
end
section
variable{P:Program}{env:Env}{m:Mem}{nx:Nat}{x y:Operand}{t e:TypeId}{k:IntKind}
theorem Ki{α:Type}{f:α->D}{l:List α}{b:Int}(hx:(opd env x).core=.sl (l.map f) l.length)(he:elemP P t=e)(hs:P.cellsOf e=1)(hb:(opd env y).core=.s (.int .i64 b))(hc:slT P t=true)(C:0<=b/\b<=l.length):
 Ef P (.slice t x none (some y) none) env m nx ⟨True,.sl ((l.take b.toNat).map f) (l.take b.toNat).length,[],[],0⟩:=by
 have h:=wq (P:=P) (env:=env) (m:=m) (nx:=nx) (t:=t) (lo:=none) (hi:=some y) (a:=0) (b:=b) (es':=(l.take b.toNat).map f) hx he hs (by simp[bndD]) (by simp[bndD,hb,D.int?]) (by simp[List.map_take])
 have h2:(slT P t=true/\(0:Int)<=0/\(0:Int)<=b/\b<=(l.length:Int))=True:=by
  apply propext;constructor
  .exact fun _=>trivial
  .exact fun _=>⟨hc,oG,C.1,C.2⟩
 have h3:(b - 0).toNat=(l.take b.toNat).length:=by rw[List.length_take];omega
 rw[h2,h3] at h;exact h
theorem z9{i j sz:Nat}{C:List D}{r:Row}(J:j≠i)(hm:m j=some r)(h:Row.sub (fz0 i C sz) r=r):(if j=i then none else(m j).map (Row.sub (fz0 i C sz)))=some r:=by
 rw[if_neg J,hm];exact congrArg some h
theorem lO{i:Nat}{cs:List D}{l:List (Nat×D)}{ml:List (Nat×Row)}(hm:m i=some (.cells cs e))(hl:jM l fun t=>sub (fz0 i cs (P.cellsOf e)) (env t))(C:Er ml fun j=>if j=i then none else(m j).map (Row.sub (fz0 i cs (P.cellsOf e)))):Ghost P ⟨env,m,nx⟩ ⟨aD l,bf ml,nx⟩:=
 (Ghost.freeze env m nx i cs e hm).trans (aQ hl C)
end
end Go.Abs
namespace Go.Argus
open Go.Proofs.Tryz.K (nextR)
def dM(b:Nat)(L:Nat->List Int)(t:Int):Nat->List Int:=up L t.toNat (L t.toNat++[(b:Int)])
def qQ(bs:List b7)(L:Nat->List Int)(b:Nat):Nat->List Int:=match bs[b]? with
 |none=>L
 |some x=>(nextR x.fin).foldl (dM b) L
def bH(bs:List b7)(k:Nat):Nat->List Int:=(range k).foldl (qQ bs) fun _=>[]
def cM(bs:List b7):List (List Int):=(range bs.length).map (bH bs bs.length)
def bx(L:List (List Int)):D:=.sl (L.map au) L.length
theorem yu(L:List (List Int)):Tr (bx L):=.sl (.map fun _=>cL _)
theorem G4{F:Nat->List Int}{n:Nat}:(D.sl ((range n).map fun i=>.sl ((F i).map I) ((F i).map I).length) n)=bx ((range n).map F):=by
 unfold bx;rw[List.map_map,List.length_map,List.length_range];congr 1;exact List.map_congr_left fun i _=>by simp[au]
theorem Gt{b:Nat}{L:Nat->List Int}{t:Int}{c:Nat}(h:∀ i,(L i).length<=c):∀ i,(dM b L t i).length<=c+1:=fun i=>by
 unfold dM;simp only[up];split
 .have:=h t.toNat;simp;omega
 .have:=h i;omega
theorem Ll{L:Nat->List Int}{k:Nat}{l:List Int}:(fun i=>(up L k l i).map I)=up (fun i=>(L i).map I) k (l.map I):=by
 funext i;simp only[up];split<;>rfl
theorem j5{P:Nat->Bool}{n k:Nat}(hk:k<n)(h:P k=false):(range n).all P=false:=by
 refine Bool.eq_false_iff.2 fun ht=>?_;have:=bj.1 ht k (by simpa using hk);rw[h] at this;cases this
theorem lN{P:Nat->Bool}{k:Nat}(h:(range k).all P=true)(hk:P k=true):(range (k+1)).all P=true:=by
 rw[List.range_succ,List.all_append,h];simp[hk]
abbrev dv(l:List Bool):D:=.sl (l.map B) l.length
def ki:b7:=⟨[],⟨0,0,0,0,0,.empty,eB,[],[],0⟩⟩
def uO(bs:List b7)(s:CS)(b:Nat)(y:bE)(i:Nat):Bool:=
 let p:=((bH bs bs.length b).getD i 0).toNat
 !(s.re.getD p false)||na (hD (bs.getD p ki).fin b (jJ (bs.getD p ki) (s.ws.getD p [])).1) (y.args.getD i 0).toNat
def wR(bs:List b7)(s:CS)(b:Nat)(y:bE):Bool:=(range (bH bs bs.length b).length).all (uO bs s b y)
def cr(y:bE):Bool:=y.op==19
def tk(bs:List b7)(s:CS)(b:Nat):Bool:=
 !(s.re.getD b false)||((jJ (bs.getD b ki) (s.ws.getD b [])).2&&((bs.getD b ki).ins.takeWhile cr).all (wR bs s b))
def yw(bs:List b7)(args:Nat):Bool:=(range bs.length).all (tk bs (iW bs args))
theorem takeWhile_eq{α:Type}{p:α->Bool}{l:List α}{j:Nat}(h:∀ y∈l.take j,p y=true)(h':∀ y,l[j]? =some y->p y=false):l.takeWhile p=l.take j:=by
 induction l generalizing j with
 |nil=>simp
 |cons a l ih=>cases j with
  |zero=>have:=h' a rfl;simp[this]
  |succ j=>
   have ha:=h a oS;rw[List.takeWhile_cons,if_pos ha,List.take_succ_cons,ih (j:=j) (fun y hy=>h y (by simp[hy])) (fun y hy=>h' y (by simpa using hy))]
theorem PI{b:Nat}{p:Int}:∀ {l:List Int} {L:Nat->List Int} {i:Nat},p∈(l.foldl (dM b) L) i↔p∈L i\/(p=b/\∃ t∈l,t.toNat=i)
 |[],L,i=>by simp
 |t::l,L,i=>by
  rw[List.foldl_cons,PI (l:=l)];unfold dM;simp only[up];by_cases h:i=t.toNat
  .subst h;simp only[if_true,List.mem_append,List.mem_singleton];constructor
   .rintro((h|h)|⟨h,u,h1,h2⟩)
    .exact .inl h
    .exact .inr ⟨h,t,oS,rfl⟩
    .exact .inr ⟨h,u,by simp[h1],h2⟩
   .rintro(h|⟨h,u,h1,h2⟩)
    .exact .inl (.inl h)
    .exact .inl (.inr h)
  .rw[if_neg h];constructor
   .rintro(h'|⟨h',u,h1,h2⟩)
    .exact .inl h'
    .exact .inr ⟨h',u,by simp[h1],h2⟩
   .rintro(h'|⟨h',u,h1,h2⟩)
    .exact .inl h'
    .rcases List.mem_cons.1 h1 with e|e
     .subst e;exact absurd h2.symm h
     .exact .inr ⟨h',u,e,h2⟩
theorem Gu{bs:List b7}{p:Int}{i:Nat}:∀ {k:Nat},p∈bH bs k i↔∃ b:Nat,p=b/\b<k/\∃ x,bs[b]? =some x/\∃ t∈nextR x.fin,t.toNat=i
 |0=>by simp[bH]
 |k+1=>by
  have ih:=Gu (bs:=bs) (p:=p) (i:=i) (k:=k);have e:bH bs (k+1)=qQ bs (bH bs k) k:=by rw[bH,List.range_succ,List.foldl_append];rfl
  rw[e,qQ];cases hx:bs[k]? with
  |none=>
   simp only;rw[ih];constructor
   .rintro⟨b,h1,h2,h3⟩;exact⟨b,h1,oG,h3⟩
   .rintro⟨b,h1,h2,x,h3,h4⟩;refine⟨b,h1,?_,x,h3,h4⟩;rcases Nat.lt_or_ge b k with g|g
    .exact g
    .have:b=k:=by omega
     subst this;rw[hx] at h3;cases h3
  |some x=>
   simp only;rw[PI,ih];constructor
   .rintro(⟨b,h1,h2,h3⟩|⟨h1,h2⟩)
    .exact⟨b,h1,oG,h3⟩
    .exact⟨k,h1,oG,x,hx,h2⟩
   .rintro⟨b,h1,h2,C,h3,h4⟩;rcases Nat.lt_or_ge b k with g|g
    .exact .inl ⟨b,h1,g,C,h3,h4⟩
    .have:b=k:=by omega
     subst this;rw[hx] at h3;cases h3;exact .inr ⟨h1,h4⟩
theorem Po{bs:List b7}{n:Nat}(hb:∀ b∈bs,tP n b):∀ (k:Nat) {s:CS},gC n s->gC n (nA bs k s)
 |0,_,h=>h
 |k+1,s,h=>by
  rw[nA];split
  .exact Po hb k (Dv hb h).1
  .exact(Dv hb h).1
theorem acv{bs:List b7}{args:Nat}(hb:∀ b∈bs,tP bs.length b)(C:∀ u∈jl args,eN u):gC bs.length (iW bs args):=Po hb _ (Jw C)
theorem Qf{b:Nat}:∀ {l:List Int} {L:Nat->List Int} {c:Nat},(∀ i,(L i).length<=c)->∀ i,((l.foldl (dM b) L) i).length<=c+l.length
 |[],_,_,h,i=>h i
 |t::l,L,c,h,i=>by
  have:=Qf (b:=b) (l:=l) (Gt (t:=t) (b:=b) h) i;rw[List.foldl_cons,List.length_cons];omega
theorem Gv{bs:List b7}(C:∀ b∈bs,b.fin.aL.length<=9):∀ (k i:Nat),(bH bs k i).length<=12*k
 |0,_=>by simp[bH]
 |k+1,i=>by
  have ih:=Gv C k;have e:bH bs (k+1)=qQ bs (bH bs k) k:=by rw[bH,List.range_succ,List.foldl_append];rfl
  rw[e,qQ];cases hx:bs[k]? with
  |none=>have:=ih i;simp only;omega
  |some x=>
   have h1:=Qf (l:=nextR x.fin) (b:=k) ih i;have h2:=z4 x.fin;have h3:=C x (bU hx);simp only;omega
theorem JI{bs:List b7}{n k:Nat}(hn:bs.length=n)(hk:k<n):(cM bs)[k]? =some (bH bs n k):=by
 subst hn;simp[cM,hk]
def r5(f:aG):Bool:=decide (f.result=1)||(decide (f.result=2)||(decide (f.result=0)&& !f.iter))
def oJ(f:aG):Bool:=
 lX f.name&&(dg f.args 0 (if(f.al.length:Int)<6 then(f.al.length:Int) else 6)&&(r5 f&&(!decide ((1200:Int)<f.al.length)&&(!decide ((60:Int)<f.aZ.length)&&dg f.blocks.length 1 1200))))
def sc(f:aG):Bool:=
 fx f.al 3&&(fx (f.al.take f.args.toNat) 2&&(fx f.aZ 2&&(!decide ((6:Int)<f.signals.length)&& !f.signals.any fun s=> !isName s)))
def uP(l:List ByteArray)(i:Nat):Bool:=Op.bytesLess (l.getD i .empty).toList (l.getD (i+1) .empty).toList
def oK(f:aG):Bool:=(range (f.signals.length - 1)).all (uP f.signals)
def lS(bs:List b7)(k:Nat):List Int:=((bs.take k).filter fun x=>x.fin.kind==7).map fun x=>x.fin.a
def j7(f:aG)(k:Nat):Bool:=
 let x:=f.blocks.getD k ki
 j8 f x.fin&&(!decide ((200:Int)<x.ins.length)&& !(x.fin.kind==7&&(lS f.blocks k).any (·==x.fin.a)))
def wo(f:aG)(b:Nat)(l:List bE)(j:Nat):Bool:=jN f b (l.getD j eB) ((l.take (j+1)).all cr) (bH f.blocks f.blocks.length b).length
def tl(f:aG)(b:Nat):Bool:=(range (f.blocks.getD b ki).ins.length).all (wo f b (f.blocks.getD b ki).ins)
def jx(f:aG):Bool:=
 oJ f&&(sc f&&(oK f&&((range f.blocks.length).all (j7 f)&&(range f.blocks.length).all (tl f))))
def dG(f:aG):Int:=if jx f=true then(if yw f.blocks f.args.toNat=true then 0 else 81) else 80
def jA(l:List Int)(r:Int):Prop:=0<=r/\r<l.length
theorem lj{l:List Int}{r:Int}(h:cG l r≠0):jA l r:=Classical.byContradiction fun hn=>h (JU hn)
theorem pJ{l:List Int}{r:Int}(h:eX l r=true):jA l r:=by
 refine lj fun e=>?_;simp[eX,e] at h
theorem z5{l rs:List Int}(h:gX l rs=true):∀ r∈rs,jA l r:=fun r hr=>pJ (bj.1 h r hr)
theorem Ko{l:List Int}{r want J:Int}(h:mP l r want J=true)(C:want≠0):jA l r:=by
 unfold mP at h;rw[if_neg C] at h;split at h
 .refine lj fun e=>?_;simp[e] at h
 .split at h
  .refine lj fun e=>?_;simp[e] at h
  .split at h
   .exact pJ h
   .refine lj fun e=>?_;simp[e] at h
structure WU(l:List Int)(x:bE)(s:Shape):Prop where
 to:s.to≠0->jA l x.to
 a:s.a≠0->jA l x.a
 b:s.b≠0->jA l x.b
 args:s.args=5\/s.args=6->x.args.length<=6/\∀ r∈x.args,jA l r
theorem JV{l:List Int}{x:bE}{s:Shape}(h:qJ l x s=true):WU l x s:=by
 unfold qJ at h;simp only[aO] at h;obtain⟨h1,h2,h3,h4,_⟩:=h;refine⟨Ko h1,Ko h2,Ko h3,fun hs=>?_⟩;unfold rX at h4;rcases hs with hs|hs
 .rw[if_pos hs,aO] at h4;have:=lh.1 h4.1;exact⟨oG,z5 h4.2⟩
 .rw[if_neg oG,if_pos hs,aO] at h4;have:(x.args.length:Int)=1:=by simpa using h4.1
  exact⟨oG,z5 h4.2⟩
theorem Jx{l:List (Int×Shape)}{op:Int}{s:Shape}(h:gz l op=some s):(op,s)∈l:=by
 unfold gz at h;rw[dw] at h;obtain⟨⟨o,s'⟩,h1,rfl⟩:=h;have h2:=List.find?_some h1;have h3:=List.mem_of_find?_eq_some h1;have:o=op:=by simpa using h2
 subst this;exact h3
theorem Jy{l:List Int}{x:bE}{s:Shape}(hl:l.length<=1200)(hm:(x.op,s)∈pU\/(x.op,s)∈j9)(h:WU l x s):qT x:=by
 obtain⟨h1,h2,h3,h4⟩:=h;unfold jA at h1 h2 h3 h4;have hr:∀ {r:Int},0<=r/\r<l.length->0<=r/\r<1200:=fun h=>by omega
 have J:∀ {r:Int},0<=r/\r<l.length-> -1000000<=r/\r<1200:=fun h=>by omega
 obtain⟨op,to,a,b,n,args⟩:=x;dsimp only at h1 h2 h3 h4 hm;simp only[pU,j9,List.mem_cons,bQ,List.not_mem_nil,or_false] at hm;rcases hm with hm|hm
 .rcases hm with hm|hm|hm|hm|hm|hm|hm|hm|hm|hm|hm|hm|hm|hm|hm<;>obtain⟨rfl,rfl⟩:=hm<;>refine⟨fun r C=>?_,fun h=>?_,?_,fun h=>?_⟩<;>
   simp_all[cP,dL,aU,pN,tm,nC,pK]<;>first|omega|(rcases C with rfl|rfl<;>omega)|(have:=h4.2 r C;omega)
 .rcases hm with hm|hm|hm|hm|hm|hm|hm|hm|hm<;>obtain⟨rfl,rfl⟩:=hm<;>refine⟨fun r C=>?_,fun h=>?_,?_,fun h=>?_⟩<;>
   simp_all[cP,dL,aU,pN,tm,nC,pK]<;>first|omega|(rcases C with rfl|rfl<;>omega)|(rcases C with rfl|rfl|C<;>first|omega|(have:=h4.2 r C;omega))
theorem oF{a b:Int}:aX a b=true↔a=b:=by simp[aX]
theorem KW{l aZ:List Int}{r n:Int}(hs:∀ k∈aZ,k≠0)(h:mT l aZ r n=true):jA l r/\0<=n/\n<aZ.length:=by
 unfold mT at h;rw[aO,lh] at h;obtain⟨⟨h1,h2⟩,h3⟩:=h
 have h4:cG aZ n≠0:=by
  obtain⟨k,rfl⟩:=cU h1;have hk:k<aZ.length:=by omega
  rw[uN (aM hk)];exact hs _ (cy hk)
 refine⟨lj ?_,h1,oG⟩;rw[show cG l r=cG aZ n by simpa using h3];exact h4
theorem Jz{f:aG}{b ahead:Int}{x:bE}{phis:Bool}(hl:f.al.length<=1200)(hs:∀ k∈f.aZ,k≠0)(fO:f.aZ.length<=60)(h:jN f b x phis ahead=true):
 qT x/\(x.op=19->(x.args.length:Int)=ahead/\phis=true/\0<b/\jA f.al x.to/\∀ r∈x.args,cG f.al r=cG f.al x.to/\jA f.al r):=by
 unfold jN at h;split at h
 .rename_i X;simp only[aO,oF] at h;have hr:=lj (l:=f.al) (r:=x.a) oG;unfold jA at hr;refine⟨⟨fun r h'=>?_,fun h'=>by omega,?_,fun h'=>by omega⟩,fun h'=>by omega⟩
  .simp[cP,aU,pN,X] at h';omega
  .simp[dL,aU,nC,pK,X]
 .rename_i X;split at h
  .rename_i M;simp only[aO,oF] at h;obtain⟨h1,h2,h3⟩:=KW hs h.2.2.2;unfold jA at h1;refine⟨⟨fun r h'=>?_,fun h'=>by omega,?_,fun h'=>by omega⟩,fun h'=>by omega⟩
   .simp[cP,aU,pN,tm,M] at h'
   .simp[dL,aU,nC,M];omega
  .rename_i M;split at h
   .rename_i J;simp only[aO,oF] at h;obtain⟨h1,h2,h3⟩:=KW hs h.2.2.2;unfold jA at h1;refine⟨⟨fun r h'=>?_,fun h'=>by omega,?_,fun h'=>by omega⟩,fun h'=>by omega⟩
    .simp[cP,aU,pN,J] at h';omega
    .simp[dL,aU,nC,pK,J]
   .rename_i J;split at h
    .rename_i C;simp only[aO,oF,decide_eq_true_eq] at h;obtain⟨g1,g2,g3,g4,g5,g6,g7,g8⟩:=h;have hr:=pJ g3;have hk:cG f.al x.to≠0:=fun e=>by simp[eX,e] at g3
     refine⟨⟨fun r h'=>?_,fun h'=>by omega,?_,fun h'=>by omega⟩,fun _=>⟨g7,g1,g2,hr,fun r jq=>?_⟩⟩
     .simp[cP,aU,pN,tm,C] at h'
     .unfold jA at hr;simp[dL,aU,nC,C];omega
     .have:aX (cG f.al r) (cG f.al x.to)=true:=by
       simp only[Bool.not_eq_true',List.any_eq_false] at g8;simpa using g8 r jq
      rw[oF] at this;exact⟨this,lj (by rw[this];exact hk)⟩
    .rename_i C;rw[aO] at h;cases hs:gz pU x.op with
     |none=>rw[hs] at h;simp at h
     |some s=>
      rw[hs] at h;exact⟨Jy hl (.inl (Jx hs)) (JV h.2),fun h'=>absurd h' C⟩
structure HU(f:aG)(x:End):Prop where
 fin:Ci x
 wh:x.aL.length<=7
 to:∀ t∈dp x,0<=t/\t<f.blocks.length
theorem JJ{f:aG}{x:End}(h:nD f x=true):x.aL.length<=7/\(∀ w∈x.aL,0<=w.to/\w.to<f.blocks.length)/\(0<=x.cX->x.cX<f.blocks.length):=by
 unfold nD at h;rw[aO,aO] at h;obtain⟨h1,h2,h3⟩:=h;have h2:(x.aL.length:Int)<=7:=by simpa using h2
 refine⟨oG,fun w C=>?_,fun h0=>?_⟩
 .obtain⟨i,hi⟩:=cC C;have hm:(w,i)∈x.aL.zipIdx:=List.mem_zipIdx_iff_getElem?.2 hi;have:=bj.1 h1 _ hm;simp only[qa,aO,cu,lh] at this;omega
 .rw[Bool.or_eq_true] at h3;rcases h3 with h3|h3
  .have:x.cX= -1:=by simpa using h3
   omega
  .rw[cu,lh] at h3;omega
theorem RV{x:End}(h:Aw x=true):x.kind=0/\x.a=0/\x.b=0/\x.to=0/\x.gD=0/\x.cX= -1/\x.args.length=0/\x.aL.length=0:=by
 simp only[Aw,aO,decide_eq_true_eq] at h;omega
theorem Kp{f:aG}{x:End}(hl:f.al.length<=1200)(hr:r5 f=true)(h:j8 f x=true):HU f x:=by
 have lF:∀ {r:Int},jA f.al r->0<=r/\r<1200:=fun h=>by unfold jA at h;omega
 unfold j8 at h;rw[aO] at h;obtain⟨h,hb⟩:=h;have hb:=RV hb;have X:∀ {t:Int},cu f t=true->0<=t/\t<f.blocks.length:=fun h=>by rw[cu,lh] at h;omega
 obtain⟨kind,a,b,to,gD,name,ins,args,aL,cX⟩:=x;simp only[gI] at h hb;by_cases h1:kind=1
 .subst h1;simp only[if_true] at h hb;have J:=X h;have C:aL=[]:=List.length_eq_zero_iff.1 hb.2.2.2.2.2.2.2;subst C;refine⟨⟨fun r h'=>?_,?_,oS,oS,oS⟩,oS,fun t ht=>?_⟩
  .simp[cK,aU] at h'
  .simp[eS,aU]
  .simp[dp,iO,aU] at ht;subst ht;exact J
 by_cases h2:kind=2
 .subst h2;simp only[Int.reduceEq,if_false,if_true,aO,oF] at h hb;have C:aL=[]:=List.length_eq_zero_iff.1 hb.2.2.2.2.2.2.2;subst C;have Dl:=lF (lj (l:=f.al) (r:=a) oG);have J:=X h.2.1;have FZ:=X h.2.2;refine⟨⟨fun r h'=>?_,?_,oS,oS,oS⟩,oS,fun t ht=>?_⟩
  .simp[cK,aU] at h';subst h';exact Dl
  .simp[eS,aU]
  .simp[dp,iO,aU] at ht;rcases ht with rfl|rfl
   .exact J
   .exact FZ
 by_cases h3:kind=3
 .subst h3;simp only[Int.reduceEq,if_false,if_true] at h hb;have C:aL=[]:=List.length_eq_zero_iff.1 hb.2.2.2.2.2.2.2;subst C;refine⟨⟨fun r h'=>?_,?_,oS,oS,oS⟩,oS,fun t ht=>?_⟩
  .simp[cK,aU] at h';obtain⟨h1,rfl⟩:=h';split at h
   .rename_i hc;rw[oF] at h;exact lF (lj (by rw[h];exact hc.1))
   .rw[oF] at h;exact absurd h h1
  .simp[eS,aU]
  .simp[dp,aU] at ht
 by_cases h4:kind=4
 .subst h4;simp only[Int.reduceEq,if_false,if_true] at h hb;have C:aL=[]:=List.length_eq_zero_iff.1 hb.2.2.2.2.2.2.2;subst C;refine⟨⟨fun r h'=>?_,?_,oS,oS,oS⟩,oS,fun t ht=>?_⟩
  .simp[cK,aU] at h'
  .simp[eS,aU]
  .simp[dp,aU] at ht
 by_cases h5:kind=5
 .subst h5;simp only[Int.reduceEq,if_false,if_true,aO] at h hb;obtain⟨g1,g2,g3,M⟩:=h;obtain⟨oh,xT,F0⟩:=JJ M;have J:=X g3
  have hi:qT ins:=by
   cases hs:gz j9 ins.op with
   |none=>rw[hs] at g1;simp at g1
   |some s=>rw[hs] at g2;exact Jy hl (.inr (Jx hs)) (JV g2)
  refine⟨⟨fun r h'=>?_,?_,?_,fun _=>hi.ar,oS⟩,oh,fun t ht=>?_⟩
  .simp[cK,aU] at h';exact hi.rd r h'
  .simp only[eS,if_true];exact hi.wr
  .dsimp only at oh ⊢;omega
  .simp[dp,iO,aU] at ht;rcases ht with rfl|⟨w,C,rfl⟩|⟨h0,rfl⟩
   .exact J
   .exact xT w C
   .exact⟨h0,F0 h0⟩
 by_cases h6:kind=6
 .subst h6;simp only[Int.reduceEq,if_false,if_true,aO,Bool.or_eq_true,oF,decide_eq_true_eq] at h hb;obtain⟨g1,g2,g3,M,g5,g6⟩:=h;obtain⟨oh,xT,F0⟩:=JJ g6;have J:=X g5;have hv:=z5 g3;refine⟨⟨fun r h'=>?_,?_,?_,oS,fun _=>?_⟩,oh,fun t ht=>?_⟩
  .simp[cK,aU] at h';exact lF (hv r h')
  .simp only[eS,aU];rcases M with M|M
   .simp[M]
   .have:=lF (pJ M);simp;omega
  .dsimp only at oh ⊢;omega
  .dsimp only;omega
  .simp[dp,iO,aU] at ht;rcases ht with rfl|⟨w,C,rfl⟩|⟨h0,rfl⟩
   .exact J
   .exact xT w C
   .exact⟨h0,F0 h0⟩
 by_cases h7:kind=7
 .subst h7;simp only[Int.reduceEq,if_false,if_true,aO,oF,decide_eq_true_eq] at h hb;obtain⟨g1,g2,g3,M,g5⟩:=h;have C:aL=[]:=List.length_eq_zero_iff.1 hb.2.2.2.2.2.2.2;subst C;have J:=X g5;have hv:=z5 g3;have Dl:=lF (lj (l:=f.al) (r:=a) oG);refine⟨⟨fun r h'=>?_,?_,oS,oS,fun _=>?_⟩,oS,fun t ht=>?_⟩
  .simp[cK,aU] at h';exact lF (hv r h')
  .simp only[eS,aU];simp;omega
  .dsimp only;omega
  .simp[dp,iO,aU] at ht;subst ht;exact J
 by_cases h8:kind=8
 .subst h8;simp only[Int.reduceEq,if_false,if_true,aO,oF] at h hb;obtain⟨g1,g2,g3,M,g5⟩:=h;obtain⟨oh,xT,F0⟩:=JJ g5;have J:=X g3;have FZ:=X M;have Dl:=lF (lj (l:=f.al) (r:=a) oG);have hrb:=lF (pJ g2);refine⟨⟨fun r h'=>?_,?_,?_,oS,oS⟩,oh,fun t ht=>?_⟩
  .simp[cK,aU] at h';subst h';exact Dl
  .simp[eS,aU];omega
  .dsimp only at oh ⊢;omega
  .simp[dp,iO,aU] at ht;rcases ht with rfl|rfl|⟨w,C,rfl⟩|⟨h0,rfl⟩
   .exact J
   .exact FZ
   .exact xT w C
   .exact⟨h0,F0 h0⟩
 by_cases h9:kind=9
 .subst h9;simp only[Int.reduceEq,if_false,if_true,aO,oF] at h hb;obtain⟨g1,g2,g3⟩:=h;have C:aL=[]:=List.length_eq_zero_iff.1 hb.2.2.2.2.2.2.2;subst C;have J:=X g3
  have Dl:=lF (lj (l:=f.al) (r:=a) (by
   rw[g2];intro e
   simp[r5,e,g1] at hr))
  refine⟨⟨fun r h'=>?_,?_,oS,oS,oS⟩,oS,fun t ht=>?_⟩
  .simp[cK,aU] at h';subst h';exact Dl
  .simp[eS,aU]
  .simp[dp,iO,aU] at ht;subst ht;exact J
 .simp[h1,h2,h3,h4,h5,h6,h7,h8,h9] at h
theorem acw(a b:Int):eN (Bg a b):=by
 unfold Bg intBitsV eN;simp only;rw[wrap_u64 (n:=(BitVec.ofInt IntKind.u64.bits a||| BitVec.ofInt IntKind.u64.bits b).toNat) (BitVec.isLt (w:=64) _)];have h:(BitVec.ofInt IntKind.u64.bits a||| BitVec.ofInt IntKind.u64.bits b).toNat<18446744073709551616:=BitVec.isLt (w:=64) _;exact⟨Int.natCast_nonneg _,Int.ofNat_lt.2 h⟩
theorem PJ{w:List Int}{n:Int}(h:∀ u∈w,eN u):∀ u∈iH w n,eN u:=fun u C=>by
 unfold iH at C;split at C
 .unfold yR at C;rcases List.mem_or_eq_of_mem_set C with h1|h1
  .exact h u h1
  .rw[h1];exact acw _ _
 .exact h u C
theorem Gw:∀ k,∀ u∈jl k,eN u
 |0,u,hu=>by
  rw[List.eq_of_mem_replicate hu];simp[eN]
 |k+1,u,hu=>PJ (Gw k) u hu
theorem qT.rl{x:bE}(h:qT x):(cP x).length<=100000:=by
 unfold cP;split
 .simp
 .split
  .simp
  .split
   .rename_i J;have:=h.ar (.inl J);omega
   .split
    .rename_i C;have:=h.ar (.inr C);simp;omega
    .simp
theorem Ci.rf{x:End}(h:Ci x)(hi:x.kind=5->qT x.ins):(cK x).length<=100000:=by
 unfold cK;split
 .simp
 .split
  .split<;>simp
  .split
   .rename_i h5;exact(hi h5).rl
   .split
    .rename_i C;have:=h.a2 (by simpa[aU] using C);omega
    .simp
structure qR(f:aG):Prop where
 pos:0<f.blocks.length
 mz:f.blocks.length<=1200
 al:f.al.length<=1200
 args:0<=f.args/\f.args<=6
 blk:∀ b∈f.blocks,tP f.blocks.length b
 ends:∀ b∈f.blocks,HU f b.fin
 right:∀ (b:Nat) x,f.blocks[b]? =some x->∀ (j:Nat) y,x.ins[j]? =some y->jN f b y ((x.ins.take (j+1)).all cr) (bH f.blocks f.blocks.length b).length=true
 aZ:(∀ k∈f.aZ,k≠0)/\f.aZ.length<=60
 akA:∀ b∈f.blocks,b.fin.kind=5->qT b.fin.ins
theorem Q7{l:List Int}{m:Int}(h:fx l m=true):∀ k∈l,k≠0:=fun k hk e=>by
 subst e;simp only[fx,Bool.not_eq_true',List.any_eq_false] at h;have:=h 0 hk;simp[nB] at this
theorem adU{f:aG}{x:End}(hl:f.al.length<=1200)(h:j8 f x=true)(h5:x.kind=5):qT x.ins:=by
 unfold j8 at h;rw[aO] at h;have h:=h.1;unfold gI at h;simp only[h5,Int.reduceEq,if_false,if_true,aO] at h;obtain⟨C,J,_⟩:=h;cases hs:gz j9 x.ins.op with
 |none=>rw[hs] at C;simp at C
 |some s=>rw[hs] at J;exact Jy hl (.inr (Jx hs)) (JV J)
theorem tE{f:aG}(h:jx f=true):qR f:=by
 unfold jx at h;simp only[aO] at h;obtain⟨X,hK,_,hE,hR⟩:=h;unfold oJ at X;simp only[aO,lh,Bool.not_eq_true',decide_eq_false_iff_not] at X;obtain⟨_,ha,hr,kX,fO,cZ⟩:=X;unfold sc at hK;simp only[aO,Bool.not_eq_true',decide_eq_false_iff_not] at hK;obtain⟨_,_,zt,_,_⟩:=hK;have J:f.al.length<=1200:=by omega
 have M:∀ x∈f.blocks,j8 f x.fin=true/\x.ins.length<=200:=fun x hx=>by
  obtain⟨k,hk⟩:=cC hx;have ao:k<f.blocks.length:=(bw.1 hk).1;have:=bj.1 hE k (by simpa using ao);rw[j7,getD_some hk] at this;simp only[aO,Bool.not_eq_true',decide_eq_false_iff_not] at this;exact⟨this.1,oG⟩
 have C:∀ x∈f.blocks,HU f x.fin:=fun x hx=>Kp J hr (M x hx).1
 have Yf:∀ (b:Nat) x,f.blocks[b]? =some x->∀ (j:Nat) y,x.ins[j]? =some y->jN f b y ((x.ins.take (j+1)).all cr) (bH f.blocks f.blocks.length b).length=true:=fun b x hx j y hy=>by
  have ao:b<f.blocks.length:=(bw.1 hx).1;have:=bj.1 hR b (by simpa using ao);rw[tl,getD_some hx] at this;have:=bj.1 this j (by simpa using(bw.1 hy).1);rw[wo,getD_some hy] at this;exact this
 have h5:∀ b∈f.blocks,b.fin.kind=5->qT b.fin.ins:=fun b hb h5=>adU J (M b hb).1 h5
 have zg:∀ b∈f.blocks,∀ x∈b.ins,qT x:=fun b hb x hx=>by
  obtain⟨k,hk⟩:=cC hb;obtain⟨j,hj⟩:=cC hx;exact(Jz J (Q7 zt) oG (Yf k b hk j x hj)).1
 refine⟨oG,oG,J,⟨ha.1,by have:=ha.2;split at this<;>omega⟩,fun b hb=>⟨by have:=(M b hb).2;omega,zg b hb,(C b hb).fin,fun x hx=>(zg b hb x hx).rl,(C b hb).fin.rf (h5 b hb),fun t ht=>(C b hb).to t (Gq.1 ht)⟩,C,Yf,⟨Q7 zt,oG⟩,h5⟩
theorem qR.Ja{f:aG}(h:qR f){b:Nat}{x:b7}(hx:f.blocks[b]? =some x){y:bE}(hy:y∈x.ins)(C:y.op=19):y.args.length=(bH f.blocks f.blocks.length b).length/\∀ r∈y.args,0<=r/\r<1280:=by
 obtain⟨j,hj⟩:=cC hy;obtain⟨h1,_,_,_,h2⟩:=(Jz h.al h.aZ.1 h.aZ.2 (h.right b x hx j y hj)).2 C;refine⟨oG,fun r hr=>?_⟩;have:=(h2 r hr).2;unfold jA at this;have:=h.al;omega
end Go.Argus
namespace Go.Proofs.Tryz.K
theorem Dj{p q:D}{f:aG}{n:Nat}(hp:Tr p)(hq:Tr q)(fN:p.one=true)(gM:q.one=true)(hn:f.blocks.length=n)(jd:n<=100000)(hw:∀ b∈f.blocks,b.fin.aL.length<=9)(ht:∀ b∈f.blocks,∀ t∈nextR b.fin,0<=t/\t<n):
 PCall prog 97 [.agg (bq p q f)] (bx (cM f.blocks)):=by
 have a7:∀ a∈[D.agg (bq p q f)],Tr a:=.cons (nG hp hq f) .nil;refine bg WN a7 (yu _) ?_;rw[aks];refine az (ag ?_);refine af (aW (bG [(0,bq p q f,133)] eH (l:=[(1,.pt (bq p q f))]) eH) (az (bB ?_)));have dn:((f.blocks.length:Nat):Int).toNat=n:=hn;refine af (aW (aQ (l:=[(1,.pt (bq p q f)),(3,.rs 1 0 n)]) (ml:=[(1,.cells (replicate n .z) 27)]) ⟨rfl,congrArg (fun k=>D.rs 1 0 k) dn,trivial⟩ ⟨?_,trivial⟩) (aB (az ?_)))
 .exact congrArg (fun c=>some (Row.cells c 27)) ((congrArg (fun k=>replD k [D.z]) dn).trans (BJ n))
 refine aN ?_
 refine af (bR (fun s=>∃ m nx ρ,Ghost prog s ⟨aD [(3,.rs 1 0 n)],m,nx⟩/\eP m nx 1 n 27 3 ρ (fun i=>(bH f.blocks n i).map I)) (dV (α:=Nat×Mem×Nat)
  (fun k=>⟨aD [(1,.pt (bq p q f)),(3,.rs 1 0 n),(15,gv f.blocks),(16,I n),(17,I k.1)],k.2.1,k.2.2⟩)
  (fun k=>k.1<=n/\(∃ ρ,eP k.2.1 k.2.2 1 n 27 3 ρ (fun i=>(bH f.blocks k.1 i).map I))/\∀ i,(bH f.blocks k.1 i).length<=12*k.1) (fun k=>n - k.1) (0,bf [(1,.cells (replicate n .z) 27)],2)
  (ap ⟨rfl,rfl,rfl,congrArg (fun k:Nat=>I k) hn,rfl,trivial⟩) ⟨Nat.zero_le _,⟨fun _=>0,Kn (show 1<2 by decide) rfl⟩,fun _=>bF _⟩ ?_) ?_)
 .rintro⟨k,m,nx⟩ ⟨hk,⟨ρ,C⟩,hlen⟩;dsimp only at hk C hlen ⊢;have ax:=C.row;have cV:=C.qy;refine SS ?_;refine af ⟨_,rfl,fun h=>?_,fun h=>?_⟩
  .have ao:k<n:=by simpa using h
   have hx:f.blocks[k]? =some f.blocks[k]:=aM oG;have cz:f.blocks[k]∈f.blocks:=cy _;generalize f.blocks[k]=x at hx cz
   have cg:bH f.blocks (k+1)=(nextR x.fin).foldl (dM k) (bH f.blocks k):=by
    rw[bH,List.range_succ,List.foldl_append];show qQ f.blocks _ k=_;rw[qQ,hx];rfl
   generalize bH f.blocks k=L0 at C hlen ax cg;refine ws (bB ?_);have xd:=xd (x:=x.fin);have xh:=Tw (x:=x.fin) (hw x cz)
   change PCall _ _ _ (au (nextR x.fin)) at xh
   have dU:=ht x cz;have jg:=z4 x.fin;have I5:=hw x cz;generalize nextR x.fin=l at xh dU jg cg;refine af (az (SS ?_));refine aI (ep (vs:=bh _) rfl (up_same _ _ _) V.h V.h rfl) ak (ez V.h V.h (by first|(simp;done)|omega|exact bD rfl)) ?_;refine cl xd (cl xh (ag ?_))
   refine af (dV (α:=Nat×Mem×Nat)
    (fun j=>⟨aD [(1,.pt (bq p q f)),(3,.rs 1 0 n),(4,I k),(15,gv f.blocks),(16,I n),(17,I k),(25,au l),(26,I l.length),(27,I j.1)],j.2.1,j.2.2⟩)
    (fun j=>j.1<=l.length/\(∃ ρ,eP j.2.1 j.2.2 1 n 27 3 ρ (fun i=>((l.take j.1).foldl (dM k) L0 i).map I))/\∀ i,((l.take j.1).foldl (dM k) L0 i).length<=12*k+j.1) (fun j=>l.length - j.1) (0,up m nx (some (.cells (fH x) 72)),nx+1)
    (nz eH (p7 _ _ _ _)) ⟨Nat.zero_le _,⟨ρ,C.ext (fun q hq=>aC oG rfl) oM⟩,hlen⟩ ?_)
   clear C ax hlen;rintro⟨j,m,nx⟩ ⟨hj,⟨ρ,C⟩,hlen⟩;dsimp only at hj C hlen ⊢;have ax:=C.row;have cV:=C.qy;have X:∀ t,l[j]? =some t->(l.take (j+1)).foldl (dM k) L0=dM k ((l.take j).foldl (dM k) L0) t:=fun t ht=>oB ht;have p8:j=l.length->(l.take j).foldl (dM k) L0=bH f.blocks (k+1):=fun e=>by rw[cg,df oG]
   generalize (l.take j).foldl (dM k) L0=L at C hlen ax X p8;refine SS ?_;refine af ⟨_,rfl,fun h=>?_,fun h=>?_⟩
   .have ze:j<l.length:=by simpa using h
    have s5:l[j]? =some l[j]:=aM ze;have pF:=dU _ (cy ze);generalize l[j]=t at s5 pF;obtain⟨i,rfl⟩:=cU pF.1;have J:i<n:=by omega
    have hL:=hlen i;have X:(l.take (j+1)).foldl (dM k) L0=up L i (L i++[(k:Int)]):=X _ s5
    have tM:∀ i,((l.take (j+1)).foldl (dM k) L0 i).length<=12*k+(j+1):=fun a=>by
     rw[X];exact Gt (t:=(i:Int)) hlen a
    have zR:(fun a=>((l.take (j+1)).foldl (dM k) L0 a).map I)=up (fun a=>(L a).map I) i ((L i++[(k:Int)]).map I):=by rw[X];exact Ll
    obtain⟨cs,kd⟩:=G5 (ρ:=ρ) (L:=fun i=>(L i).map I) J;refine ws (aq ?_);refine af (ff ?_);by_cases hz:L i=[]
    .have uB:jc (ρ i) ((L i).map I)=.z:=by rw[hz];rfl
     rw[uB] at kd;refine aJ ?_;refine ag ?_;refine af (ag ?_);refine af (aK (j+1,up (up (up m nx (some (.cells [I k] 3))) (nx+1) (some (.cells [I k] 3))) 1 (some (.cells ((jD ρ (fun i=>(L i).map I) n).set i (.rs (nx+1) 0 1)) 27)),nx+2) (ap eH) ⟨oM,⟨up ρ i (nx+1),?_⟩,tM⟩ oM);dsimp only;rw[zR];refine C.kG J oS oG oG ?_ ?_ (fun q hq s9 _=>?_)
     .rw[hz];exact up_same _ _ _
     .rw[hz];exact aC oG (up_same _ _ _)
     .exact aC oG (aC oG (aC oG rfl))
    .have M:(L i).map I≠[]:=by simpa using hz
     have uB:jc (ρ i) ((L i).map I)=.rs (ρ i) 0 (L i).length:=by rw[p9 M,List.length_map]
     rw[uB] at kd;have di:=C.sK i J M;have Bf:=C.lt i J M;have Oj:=C.ne i J M;refine aJ ?_;refine ag ?_;refine af (ag ?_);refine af (aK (j+1,up (up (up (up m nx (some (.cells [I k] 3))) (ρ i) none) (nx+1) (some (.cells ((L i).map I++[I k]) 3))) 1 (some (.cells ((jD ρ (fun i=>(L i).map I) n).set i (.rs (nx+1) 0 ((L i).length+1))) 27)),nx+2) (ap eH) ⟨oM,⟨up ρ i (nx+1),?_⟩,tM⟩ oM);dsimp only;rw[zR];refine C.kG J oS oG oG ?_ ?_ (fun q hq s9 nk=>?_)
     .rw[List.length_map,List.length_append];exact up_same _ _ _
     .rw[List.map_append];exact aC oG (up_same _ _ _)
     .have:=nk M;exact aC oG (aC oG (aC oG (aC oG rfl)))
   .have a9:¬ j<l.length:=by simpa using h
    have vl:=p8 oG;subst vl;show AOps _ _ _ _ _ _ _ _ _;refine ag ?_;refine af (aK (k+1,m,nx) (ap eH) ⟨oM,⟨ρ,C⟩,fun i=>by have:=hlen i;dsimp only at this ⊢;omega⟩ oM)
  .have a9:¬ k<n:=by simpa using h
   have:k=n:=by omega
   subst this;exact⟨m,nx,ρ,ap eH,C⟩
 .rintro s ⟨m,nx,ρ,hg,C⟩;have qB:¬ ∃ i,i<n/\(bH f.blocks n i).map I≠[]/\ρ i=1:=fun⟨i,h1,h2,h3⟩=>C.ne i h1 h2 h3;refine⟨_,hg.trans (GJ (l:=[(3,.rs 1 0 n)]) (ml:=[]) (fun r=>∃ i,i<n/\(bH f.blocks n i).map I≠[]/\ρ i=r) C (fun _=>.map) c3 (fun i h1 h2=>⟨i,h1,h2,rfl⟩) qB ⟨rfl,trivial⟩ (fun x hx=>?_) trivial (fun x hx=>by cases hx)),az ?_⟩
  .simp at hx;subst hx;exact .rs qB
  refine ag ?_;refine af (aW (bG [(1,_,27)] eH (l:=[(2,bx (cM f.blocks))]) ⟨?_,trivial⟩) (av rfl rfl));show sub (fz0 1 _ (prog.cellsOf 27)) (D.rs 1 0 n)=_;rw[nw (by rw[Bd];simp),G4,cM,hn]
theorem Ii{p q:D}{f:aG}{n args:Nat}(hp:Tr p)(hq:Tr q)(fN:p.one=true)(gM:q.one=true)(hn:f.blocks.length=n)(jY:0<n)(jd:n<=100000)(ha:f.args=args)(ui:args<=1000)(zP:∀ u∈jl args,eN u)(hb:∀ b∈f.blocks,tP n b)
 (AI:∀ b x,f.blocks[b]? =some x->∀ y∈x.ins,y.op=19->y.args.length=(bH f.blocks n b).length/\∀ r∈y.args,0<=r/\r<1280):
 PCall prog 154 [.agg (bq p q f)] (B (yw f.blocks args)):=by
 have a7:∀ a∈[D.agg (bq p q f)],Tr a:=.cons (nG hp hq f) .nil;have CA:=CA hp hq fN gM hn jY jd ha ui zP hb;have Dj:=Dj hp hq fN gM hn jd (fun b h=>(hb b h).fin.wh) (fun b h=>(hb b h).to);have WQ:gC n (iW f.blocks args):=by subst hn;exact acv hb zP
 refine bg U4 a7 (.s _) ?_;rw[agD];refine az (ag ?_);refine af (aW (bG [(0,bq p q f,133)] eH (l:=[(1,.pt (bq p q f))]) eH) ?_);have fC:yw f.blocks args=(range n).all (tk f.blocks (iW f.blocks args)):=by rw[yw,hn]
 rw[fC];clear fC;generalize iW f.blocks args=R at CA WQ ⊢;obtain⟨lw,lr,kF,rg⟩:=WQ;have CA:PCall prog 197 [.agg (bq p q f)] (.tup [.sl (cY R.ws) n,dv R.re]):=by unfold dv;rw[lr];exact CA
 show AW _ _ _ _ (scopeQ _) _;refine ws (SS ?_);refine cl CA (aN ?_);refine af (az (SS ?_));refine cl Dj (SS ?_);refine af (aW (fQ (l:=[(1,.pt (bq p q f)),(3,.sl (cY R.ws) n),(4,dv R.re),(5,bx (cM f.blocks))]) eH) (Zs (aB (az (aN ?_)))))
 refine af (bR (fun s=>(range n).all (tk f.blocks R)=true) (dV (α:=Nat×Nat)
  (fun k=>⟨aD [(1,.pt (bq p q f)),(3,.sl (cY R.ws) n),(4,dv R.re),(5,bx (cM f.blocks)),(25,gv f.blocks),(26,I n),(27,I k.1)],fun _=>none,k.2⟩)
  (fun k=>k.1<=n/\(range k.1).all (tk f.blocks R)=true) (fun k=>n - k.1) (0,1) (fQ ⟨rfl,rfl,rfl,rfl,rfl,congrArg (fun k:Nat=>I k) hn,rfl,trivial⟩) ⟨Nat.zero_le _,rfl⟩ ?_) ?_)
 .rintro⟨k,N⟩ ⟨hk,bC⟩;dsimp only at hk bC ⊢;refine SS ?_;refine af ⟨_,rfl,fun h=>?_,fun h=>?_⟩
  .have ao:k<n:=by simpa using h
   have hx:f.blocks[k]? =some f.blocks[k]:=aM oG;have cz:f.blocks[k]∈f.blocks:=cy _;generalize f.blocks[k]=x at hx cz;have io:=hb x cz;have uC:=AI k x hx;have hw:R.ws[k]? =some R.ws[k]:=aM oG;have iP:R.re[k]? =some R.re[k]:=aM oG;have ns:=kF _ (cy (h:=by omega):R.ws[k]∈R.ws)
   have M:tk f.blocks R k=(!R.re[k]||((jJ x R.ws[k]).2&&(x.ins.takeWhile cr).all (wR f.blocks R k))):=by
    rw[tk,getD_some hw,getD_some iP,getD_some hx]
   generalize R.ws[k]=w at hw ns M;generalize R.re[k]=b at iP M;refine az (bB ?_);refine af (aW (uM (i:=N) (l:=[(1,.pt (bq p q f)),(3,.sl (cY R.ws) n),(4,dv R.re),(5,bx (cM f.blocks)),(6,I k),(7,.pt (fH x)),(25,gv f.blocks),(26,I n),(27,I k)]) (up_same _ _ _) ⟨rfl,rfl,rfl,rfl,rfl,oX,rfl,rfl,rfl,trivial⟩) (aB (aj (aN ?_))));refine af (cx rfl (fun h=>jw (mO ?_)) fun h=>bP (aB (pI aa1 ?_)))
   .have uA:b=false:=by simpa using h
    subst uA;refine ag ?_;refine af (aK (k+1,N+1) (fQ eH) ⟨oM,lN bC (by rw[M];rfl)⟩ oM)
   have jt:b=true:=by simpa using h
   subst jt;have o7:=o7 ns io.len io.ins io.fin io.rl io.rf;have xj:=Jq x w;rw[ns] at xj;generalize jJ x w=th at o7 M xj;obtain⟨w1,ok⟩:=th;dsimp only at o7 M xj;refine aq ?_;refine WR ?_;refine WS ?_;refine cl o7 (bB ?_);refine a8 bc (aW (fQ (l:=[(1,.pt (bq p q f)),(3,.sl (cY R.ws) n),(4,dv R.re),(5,bx (cM f.blocks)),(6,I k),(7,.pt (fH x)),(9,B ok),(25,gv f.blocks),(26,I n),(27,I k)]) eH) (aB (aj (ag ?_))));refine af (cx rfl (fun h=>?_) fun h=>bP (az ?_))
   .have bZ:ok=false:=by simpa using h
    subst bZ;refine aB (aj (SS ?_));refine af (bX (br (aR (KL (av (d:=B false) rfl ?_)))));rw[j5 ao (by rw[M];rfl)]
   have bZ:ok=true:=by simpa using h
   subst bZ;have M:tk f.blocks R k=(x.ins.takeWhile cr).all (wR f.blocks R k):=M;refine aP ?_;have jg:=io.len
   refine af (dV (α:=Nat×Nat)
    (fun j=>⟨aD [(1,.pt (bq p q f)),(3,.sl (cY R.ws) n),(4,dv R.re),(5,bx (cM f.blocks)),(6,I k),(25,gv f.blocks),(26,I n),(27,I k),(49,iF x.ins),(50,I x.ins.length),(51,I j.1)],fun _=>none,j.2⟩)
    (fun j=>j.1<=x.ins.length/\(∀ y∈x.ins.take j.1,cr y=true)/\(x.ins.take j.1).all (wR f.blocks R k)=true) (fun j=>x.ins.length - j.1) (0,_) (fQ eH) ⟨Nat.zero_le _,oS,oS⟩ ?_)
   rintro⟨j,N⟩ ⟨hj,CB,E4⟩;dsimp only at hj CB E4 ⊢;refine SS ?_;refine af ⟨_,rfl,fun h=>?_,fun h=>?_⟩
   .have cV:j<x.ins.length:=by simpa using h
    have hy:x.ins[j]? =some x.ins[j]:=aM cV;have xX:x.ins[j]∈x.ins:=cy cV;generalize x.ins[j]=y at hy xX;refine az (aP ?_);refine af (aW (uM (i:=N) (l:=[(1,.pt (bq p q f)),(3,.sl (cY R.ws) n),(4,dv R.re),(5,bx (cM f.blocks)),(6,I k),(11,.pt (bu y)),(25,gv f.blocks),(26,I n),(27,I k),(49,iF x.ins),(50,I x.ins.length),(51,I j)]) (up_same _ _ _) ⟨rfl,rfl,rfl,rfl,rfl,oX,rfl,rfl,rfl,rfl,rfl,rfl,trivial⟩) (aB (aj (aq ?_))));refine af (cx rfl (fun h=>jw (afG oC oC (mO ?_))) fun h=>bP (az ?_))
    .have aE:y.op≠19:=by simpa using h
     refine ag ?_;refine af (aK (k+1,_) (fQ eH) ⟨oM,lN bC ?_⟩ oM);rw[M,takeWhile_eq CB (fun y' h'=>by rw[hy] at h';cases h';simpa[cr] using aE)];exact E4
    have fF:y.op=19:=by simpa using h
    obtain⟨my,xY⟩:=uC y xX fF;have hA:=JI hn ao
    have FY:∀ p∈bH f.blocks n k,∃ C:Nat,p=C/\C<n:=fun p hp=>by
     obtain⟨b,h1,h2,_⟩:=Gu.1 hp;exact⟨b,h1,h2⟩
    have Ol:wR f.blocks R k y=(range (bH f.blocks n k).length).all (uO f.blocks R k y):=by rw[wR,hn]
    have J:∀ i,uO f.blocks R k y i=(!(R.re.getD ((bH f.blocks n k).getD i 0).toNat false)||na (hD (f.blocks.getD ((bH f.blocks n k).getD i 0).toNat ki).fin k (jJ (f.blocks.getD ((bH f.blocks n k).getD i 0).toNat ki) (R.ws.getD ((bH f.blocks n k).getD i 0).toNat [])).1) (y.args.getD i 0).toNat):=fun i=>by rw[uO,hn]
    have Om:=Gv (fun b h=>(hb b h).fin.wh) n k;generalize bH f.blocks n k=A at my hA FY Ol J Om
    have aeZ:∀ i,i<A.length->uO f.blocks R k y i=false->(range n).all (tk f.blocks R)=false:=fun i hi he=>by
     refine j5 ao ?_;rw[M];refine Bool.eq_false_iff.2 fun ht=>?_
     have aky:y∈x.ins.takeWhile cr:=by
      have:x.ins.take (j+1)=x.ins.take j++[y]:=by rw[List.take_add_one,hy];rfl
      have h2:x.ins=x.ins.take (j+1)++x.ins.drop (j+1):=(List.take_append_drop _ _).symm;rw[h2,this,List.takeWhile_append_of_pos]
      .simp
      .intro z hz;rcases List.mem_append.1 hz with h|h
       .exact CB z h
       .rw[List.mem_singleton.1 h];simp[cr,fF]
     have:=bj.1 ht y aky;rw[Ol,j5 hi he] at this;cases this
    refine bB ?_
    refine af (dV (α:=Nat×Nat)
     (fun i=>⟨aD [(1,.pt (bq p q f)),(3,.sl (cY R.ws) n),(4,dv R.re),(5,bx (cM f.blocks)),(6,I k),(11,.pt (bu y)),(25,gv f.blocks),(26,I n),(27,I k),(49,iF x.ins),(50,I x.ins.length),(51,I j),(61,au A),(62,I A.length),(63,I i.1)],fun _=>none,i.2⟩)
     (fun i=>i.1<=A.length/\(range i.1).all (uO f.blocks R k y)=true) (fun i=>A.length - i.1) (0,_) (fQ eH) ⟨Nat.zero_le _,rfl⟩ ?_)
    rintro⟨i,N⟩ ⟨hi,L9⟩;dsimp only at hi L9 ⊢;refine SS ?_;refine af ⟨_,rfl,fun h=>?_,fun h=>?_⟩
    .have fX:i<A.length:=by simpa using h
     have uo:A[i]? =some A[i]:=aM fX;obtain⟨C,Dk,iN⟩:=FY _ (cy fX);rw[Dk] at uo;clear Dk;have vX:f.blocks[C]? =some f.blocks[C]:=aM oG;have rj:f.blocks[C]∈f.blocks:=cy _;have Yb:R.ws[C]? =some R.ws[C]:=aM oG;have NM:R.re[C]? =some R.re[C]:=aM oG;have MV:=kF _ (cy (h:=by omega):R.ws[C]∈R.ws);have On:y.args[i]? =some y.args[i]:=aM oG;have zO:=xY _ (cy (h:=by omega):y.args[i]∈y.args);have J:=J i;rw[getD_some uo,bN,getD_some vX,getD_some Yb,getD_some NM,getD_some On] at J;generalize f.blocks[C]=xp at vX rj J;generalize R.ws[C]=wp at Yb MV J;generalize R.re[C]=rb at NM J;generalize y.args[i]=r at On zO J;obtain⟨rn,rfl⟩:=cU zO.1;rw[bN] at J;have AJ:=hb xp rj;have o7:=Go.Proofs.Tryz.K.o7 MV AJ.len AJ.ins AJ.fin AJ.rl AJ.rf;have E5:=Jq xp wp;rw[MV] at E5;generalize jJ xp wp=tp at o7 J E5;obtain⟨w2,ok2⟩:=tp;dsimp only at o7 J E5;have zb:=zb (x:=xp.fin) (b:=(k:Int)) (w:=w2) E5 (by have:=AJ.fin.wh;omega) (by have:=AJ.fin.wr;omega);have nj:=Qa xp.fin k w2;rw[E5] at nj;generalize hD xp.fin k w2=w3 at zb nj J;have l7:=l7 (w:=w3) (m:=rn) nj oG;refine ws (aN ?_);refine af (pI ZX (bK ?_));refine WR ?_;refine WS ?_;refine cl o7 (bB ?_);refine a8 bc (aW (uM (i:=N) (l:=[(1,.pt (bq p q f)),(3,.sl (cY R.ws) n),(4,dv R.re),(5,bx (cM f.blocks)),(6,I k),(11,.pt (bu y)),(12,I i),(13,I C),(14,.pt (w2.map c6)),(25,gv f.blocks),(26,I n),(27,I k),(49,iF x.ins),(50,I x.ins.length),(51,I j),(61,au A),(62,I A.length),(63,I i)]) (up_same _ _ _) ⟨rfl,rfl,rfl,rfl,rfl,rfl,rfl,rfl,oX,rfl,rfl,rfl,rfl,rfl,rfl,rfl,rfl,rfl,trivial⟩) (dE ZY ?_))
     have nR:∀ v:Bool,v=uO f.blocks R k y i->(v=false->(range n).all (tk f.blocks R)=false)/\(v=true->(range (i+1)).all (uO f.blocks R k y)=true):=fun v hv=>by
      subst hv;exact⟨aeZ i fX,fun h=>lN L9 h⟩
     cases rb with
     |false=>
      obtain⟨_,X⟩:=nR true J.symm;have X:=X rfl;refine aJ ?_;refine WT ?_;refine aq ?_;refine bt rfl rfl (mH rfl V.h V.h (Tx (by first|rfl|exact bD rfl|(simp;done)|(simp;omega)|omega))) (fun hc=>⟨ak,(mI V.h V.h (by first|rfl|exact bD rfl|(simp;done)|(simp;omega)|omega))⟩) ?_;refine gc zb (aN ?_);refine gc l7 (ag ?_);refine a8 bc (aw rfl (fun h=>oH) fun h=>bS (ag ?_));refine af (aK (i+1,_) (fQ eH) ⟨oM,X⟩ oM)
     |true=>
      obtain⟨fY,X⟩:=nR (na w3 rn) J.symm;generalize na w3 rn=hv at l7 fY X;refine aJ ?_;refine WT ?_;refine aq ?_;refine bt rfl rfl (mH rfl V.h V.h (Tx (by first|rfl|exact bD rfl|(simp;done)|(simp;omega)|omega))) (fun hc=>⟨ak,(mI V.h V.h (by first|rfl|exact bD rfl|(simp;done)|(simp;omega)|omega))⟩) ?_;refine gc zb (aN ?_);refine gc l7 (ag ?_);refine a8 bc (aw rfl (fun h=>?_) fun h=>bS ?_)
      .have hf:hv=false:=by simpa using h
       refine ws (SS ?_);refine af (aY (br (br (br (aR (KL (av (d:=B false) rfl ?_)))))));rw[fY hf]
      .have ht:hv=true:=by simpa using h
       have X:=X ht;refine ag ?_;refine af (aK (i+1,_) (fQ eH) ⟨oM,X⟩ oM)
    .have a9:¬ i<A.length:=by simpa using h
     have hiA:i=A.length:=by omega
     subst hiA;show AOps _ _ _ _ _ _ _ _ _;refine ag ?_;refine af (aK (j+1,_) (fQ eH) ⟨oM,fun z hz=>?_,?_⟩ oM)
     .dsimp only at hz;rw[List.take_add_one,hy] at hz;rcases List.mem_append.1 hz with h|h
      .exact CB z h
      .rw[List.mem_singleton.1 h];simp[cr,fF]
     .dsimp only;rw[List.take_add_one,hy,List.all_append,E4];simpa[Ol] using L9
   .have a9:¬ j<x.ins.length:=by simpa using h
    have Fy:j=x.ins.length:=by omega
    subst Fy;show AOps _ _ _ _ _ _ _ _ _;refine ag ?_;refine af (aK (k+1,_) (fQ eH) ⟨oM,lN bC ?_⟩ oM);rw[List.take_length] at CB E4;rw[M,takeWhile_eq (j:=x.ins.length) (by rw[List.take_length];exact CB) (fun y h=>by simp at h),List.take_length];exact E4
  .have a9:¬ k<n:=by simpa using h
   have:k=n:=by omega
   subst this;exact bC
 .rintro⟨env,m,nx⟩ bC;refine⟨_,.refl _,aj ?_⟩;refine SS ?_;refine af (KL (av (d:=B true) rfl ?_));rw[bC]
end Go.Proofs.Tryz.K
namespace Go.Argus
theorem Yc:∀ b1 b2 b3 b4 b5 b6:Bool,(if(if(if(if(if(!b1)=true then true else !b2)=true then true else !b3)=true then true else b4)=true then true else b5)=true then true else !b6)= !(b1&&(b2&&(b3&&(!b4&&(!b5&&b6))))):=by decide
theorem Yd:∀ b1 b2 b3 b4 b5:Bool,(if(if(if(if(!b1)=true then true else !b2)=true then true else !b3)=true then true else b4)=true then true else b5)= !(b1&&(b2&&(b3&&(!b4&& !b5)))):=by decide
theorem hd3:∀ b1 b2 b3 b4:Bool,(if(if b1=true then true else b2)=true then true else if b3=true then !b4 else false)=(b1||(b2||(b3&& !b4))):=by decide
def ot(l:List Int):List (Value×D):=l.map fun a=>(.int .i64 a,B true)
theorem KX(a:Int):∀ l:List Int,(lookD (.int .i64 a) (ot l)).map (·.2)=if(l.any (·==a))=true then some (B true) else none
 |[]=>rfl
 |b::l=>by
  have ih:=KX a l;unfold ot at ih ⊢;simp only[List.map_cons,lookD,veq,veq1,List.any_cons,beq_self_eq_true,Bool.true_and] at ih ⊢;by_cases h:b=a
  .subst h;simp
  .have hb:(b==a)=false:=by simpa using h
   simp only[hb,Bool.false_eq_true,if_false,Option.map_map,Bool.false_or];exact ih
theorem ae0{P:Program}{t:TypeId}(C:zeroD P (melP P t)=B false)(a:Int)(l:List Int):gotD P t false (lookD (.int .i64 a) (ot l))=B (l.any (·==a)):=by
 have h:=KX a l;cases h1:lookD (.int .i64 a) (ot l) with
 |none=>
  rw[h1] at h;cases h2:l.any (·==a) with
  |true=>rw[h2] at h;simp at h
  |false=>simp[gotD,C]
 |some x=>
  rw[h1] at h;cases h2:l.any (·==a) with
  |false=>rw[h2] at h;simp at h
  |true=>rw[h2] at h;simp at h;simp[gotD,h]
theorem ae1{a:Int}{l:List Int}(h:l.any (·==a)=false):putD (.int .i64 a) (B true) (ot l)=ot (l++[a]):=by
 have h1:=KX a l;rw[h] at h1;unfold putD;cases h2:lookD (.int .i64 a) (ot l) with
 |none=>simp[ot]
 |some x=>rw[h2] at h1;simp at h1
theorem RX{P:Program}{kt:TypeId}(hk:P.underlying kt=some (.int .i64))(l:List Int):(ot l).all (fun e=>keyP P kt e.1)=true:=by
 refine bj.2 fun x hx=>?_;obtain⟨y,_,rfl⟩:=List.mem_map.1 hx;simp[keyP,hk]
theorem Ty{P:Program}{kt:TypeId}(hk:P.underlying kt=some (.int .i64))(a:Int):keyP P kt (.int .i64 a)=true:=by simp[keyP,hk]
theorem adT{i sz:Nat}{C:List D}(l:List Int):Row.sub (fz0 i C sz) (.map (ot l))=.map (ot l):=by
 show Row.map ((ot l).map _)=_;unfold ot;rw[List.map_map];rfl
theorem Ze{bs:List b7}{k:Nat}{x:b7}(hx:bs[k]? =some x):lS bs (k+1)=if(x.fin.kind==7)=true then lS bs k++[x.fin.a] else lS bs k:=by
 unfold lS;rw[List.take_add_one,hx];by_cases h:(x.fin.kind==7)=true
 .simp[h]
 .simp[h]
end Go.Argus
namespace Go.Proofs.Tryz.K
theorem I8:prog.underlying 3=some (.int .i64):=kr
theorem agE:zeroD prog (melP prog 127)=B false:=kr
theorem MW{f:aG}:PCall prog 153 [.agg (aH f)] (B (jx f)):=by
 have a7:∀ a∈[D.agg (aH f)],Tr a:=.cons (.agg (iq f)) .nil;refine bg U5 a7 (.s _) ?_;rw[agF];refine az (ag ?_);refine af (aW (uM (i:=0) (l:=[(1,.pt (aH f))]) rfl eH) (az ?_));have MX:=MX (f:=f);refine SS ?_;refine cl MX (SS ?_);refine cA (jh (cs':=bq _ _ _) rfl rfl rfl rfl) ak (dt V.h V.h (by first|(simp;done)|exact⟨rfl,bD rfl⟩|(simp;omega)) (by rfl)) ?_;refine af (aW (uM (i:=1) (l:=[(1,.pt (aH f)),(3,.pt (bq P0 Q0 f))]) rfl eH) (az (aJ ?_)));refine bK ?_;refine ag ?_;refine af (aW (fQ (l:=[(1,.pt (aH f)),(3,.pt (bq P0 Q0 f)),(4,B (r5 f))]) ⟨rfl,rfl,congrArg B (hd3 (f.result==1) (f.result==2) (f.result==0) f.iter),trivial⟩) (aB (aj ?_)));have akz:jx f=(oJ f&&(sc f&&(oK f&&((range f.blocks.length).all (j7 f)&&(range f.blocks.length).all (tl f))))):=rfl;rw[akz];have hH:oJ f=(lX f.name&&(dg f.args 0 (if(f.al.length:Int)<6 then(f.al.length:Int) else 6)&&(r5 f&&(!decide ((1200:Int)<f.al.length)&&(!decide ((60:Int)<f.aZ.length)&&dg f.blocks.length 1 1200))))):=rfl;generalize fC:r5 f=NN at hH ⊢;refine ag ?_;refine cl tY (dz ?_);refine bt rfl rfl (Uf rfl rfl) (fun hc=>⟨ak,rfl⟩) (gc nu (aJ ?_));refine aJ ?_;refine aP ?_;refine gc nu (ag ?_);refine af (cx rfl (fun h=>?_) fun h=>bP (aB (aj ?_)))
 .have h:=(Yc _ _ _ _ _ _).symm.trans h;rw[<- hH] at h;have h:oJ f=false:=by simpa using h
  refine aB (aj (SS ?_));refine af (bX (av (d:=B false) rfl ?_));rw[h];rfl
 have h:=(Yc _ _ _ _ _ _).symm.trans h;rw[<- hH] at h;have J:oJ f=true:=by simpa using h
 rw[J,Bool.true_and];rw[hH] at J;simp only[aO,lh,Bool.not_eq_true',decide_eq_false_iff_not] at J;obtain⟨_,ha,hr,kX,X,cZ⟩:=J;subst hr;clear h hH
 have ui:0<=f.args/\f.args<=f.al.length/\f.args<=6:=by
  split at ha<;>omega
 have hK:sc f=(fx f.al 3&&(fx (f.al.take f.args.toNat) 2&&(fx f.aZ 2&&(!decide ((6:Int)<f.signals.length)&& !f.signals.any fun s=> !isName s)))):=rfl;have H9:=H9 (l:=f.signals) (g:=193) (fs:=[]) (cs:=[]) (p:=fun s=> !isName s) (.fn oS oS) (fun x _=>akw);have ha2:0<=f.args/\f.args<=f.al.length:=⟨ui.1,ui.2.1⟩
 refine ag ?_;refine cl MU (bB ?_);refine bt rfl rfl (Ki rfl Ye c5 rfl WV ha2) (fun hc=>⟨(by repeat' (first|exact trivial|exact hc|exact rfl|refine And.intro ?_ ?_)),trivial⟩) ?_;refine gc MU (aN ?_);refine gc MU (aJ ?_);refine ag ?_;refine gc H9 (SS ?_);refine af (cx rfl (fun h=>?_) fun h=>bP (aB (az ?_)))
 .have h:=(Yd _ _ _ _ _).symm.trans h;rw[<- hK] at h;have h:sc f=false:=by simpa using h
  refine aB (aj (SS ?_));refine af (bX (av (d:=B false) rfl ?_));rw[h];rfl
 have h:=(Yd _ _ _ _ _).symm.trans h;rw[<- hK] at h;have J:sc f=true:=by simpa using h
 rw[J,Bool.true_and];rw[hK] at J;simp only[aO,Bool.not_eq_true',decide_eq_false_iff_not] at J;obtain⟨_,_,zt,hsg,_⟩:=J;clear h hK H9;have hS:oK f=(range (f.signals.length - 1)).all (uP f.signals):=rfl;rw[hS];have pb:f.signals.length<=6:=by omega
 refine SS ?_;refine af (bR (fun s=>Ghost prog s ⟨aD [(1,.pt (aH f)),(3,.pt (bq P0 Q0 f))],fun _=>none,2⟩/\(range (f.signals.length - 1)).all (uP f.signals)=true) (cQ (α:=Nat) (fun k=>⟨aD [(1,.pt (aH f)),(3,.pt (bq P0 Q0 f)),(5,I (k+1:Nat))],fun _=>none,2⟩) (fun k=>k<=f.signals.length - 1/\(range k).all (uP f.signals)=true) (fun k=>f.signals.length - k) 0 (fQ eH) ⟨Nat.zero_le _,rfl⟩ ?_) ?_)
 .rintro k ⟨hk,C⟩;refine aN ?_;refine af ⟨_,rfl,fun h=>?_,fun h=>?_⟩
  .have ao:k+1<f.signals.length:=by have:((k+1:Nat):Int)<f.signals.length:=by simpa using h
                                    omega
   have h1:f.signals[k]? =some f.signals[k]:=aM oG;have h2:f.signals[k+1]? =some f.signals[k+1]:=aM oG;have X:uP f.signals k=Op.bytesLess f.signals[k].toList f.signals[k+1].toList:=by rw[uP,getD_some h1,getD_some h2]
   generalize f.signals[k]=s1 at h1 X;generalize f.signals[k+1]=s2 at h2 X;have m9:((k+1:Nat):Int) - 1=(k:Int)/\ -9223372036854775808<=(k:Int)/\(k:Int)<=9223372036854775807:=by omega
   refine dE ZZ (aJ ?_);refine ag ?_;refine aI (S4 rfl rfl) ak trivial (a8 bc (aw rfl (fun h=>?_) fun h=>bS ?_))
   .have hf:uP f.signals k=false:=by rw[X];simpa using h
    refine ws (SS ?_);refine af (aY (br (aR (av (d:=B false) rfl ?_))));rw[j5 oG hf];rfl
   .have ht:uP f.signals k=true:=by rw[X];simpa using h
    refine aq ?_;exact af (aK (k+1) (fQ eH) ⟨oG,lN C ht⟩ oG)
  .have a9:¬ k+1<f.signals.length:=by intro J;simp at h;omega
   have:k=f.signals.length - 1:=by omega
   subst this;exact⟨fQ eH,C⟩
 rintro s ⟨hg,C⟩;rw[C,Bool.true_and];clear C hS;refine⟨_,hg,az ?_⟩;refine ag ?_;refine af (aW (aQ (l:=[(1,.pt (aH f)),(3,.pt (bq P0 Q0 f)),(6,.mp 2)]) (ml:=[(2,.map (ot []))]) eH eH) (aB (az (aP ?_))));generalize hn:f.blocks.length=n at cZ ⊢;refine af (bR (fun s=>∃ N,Ghost prog s ⟨aD [(1,.pt (aH f)),(3,.pt (bq P0 Q0 f))],fun _=>none,N⟩/\(range n).all (j7 f)=true) (dV (α:=Nat×Nat) (fun k=>⟨aD [(1,.pt (aH f)),(3,.pt (bq P0 Q0 f)),(6,.mp 2),(123,gv f.blocks),(124,I n),(125,I k.1)],bf [(2,.map (ot (lS f.blocks k.1)))],k.2⟩) (fun k=>k.1<=n/\(range k.1).all (j7 f)=true/\3<=k.2) (fun k=>n - k.1) (0,3) (aQ eH eH) ⟨Nat.zero_le _,rfl,bF _⟩ ?_) ?_)
 .rintro⟨k,N⟩ ⟨hk,C,hN⟩;dsimp only at hk C hN ⊢;refine SS ?_;refine af ⟨_,rfl,fun h=>?_,fun h=>?_⟩
  .have ao:k<n:=by simpa using h
   have hx:f.blocks[k]? =some f.blocks[k]:=aM oG;generalize f.blocks[k]=x at hx;have M:j7 f k=(j8 f x.fin&&(!decide ((200:Int)<x.ins.length)&& !(x.fin.kind==7&&(lS f.blocks k).any (·==x.fin.a)))):=by rw[j7,getD_some hx]
   have qC:=Ze hx;have Ij:=Ij (f:=f) (x:=x.fin);generalize lS f.blocks k=l at M qC;refine az (aP ?_);refine af (aW (lO (i:=N) (l:=[(1,.pt (aH f)),(3,.pt (bq P0 Q0 f)),(6,.mp 2),(8,.pt (fH x)),(123,gv f.blocks),(124,I n),(125,I k)]) (ml:=[(2,.map (ot l))]) (up_same _ _ _) ⟨rfl,rfl,rfl,oX,rfl,rfl,rfl,trivial⟩ ⟨z9 oG (aC oG (aC oG rfl)) (adT l),trivial⟩) (aB (aj ?_)));generalize j8 f x.fin=e at Ij M;refine aq ?_;refine cl Ij (dz ?_);refine af (cx rfl (fun h=>?_) fun h=>bP (aj ?_))
   .have hf:j7 f k=false:=by
     rw[M];cases e with
     |false=>rfl
     |true=>have:decide ((200:Int)<x.ins.length)=true:=by simpa using h
            rw[this];rfl
    refine aB (aj (SS ?_));refine af (bX (br (aR (av (d:=B false) rfl ?_))));rw[j5 ao hf];rfl
   have M:j7 f k= !(x.fin.kind==7&&l.any (·==x.fin.a)):=by
    rw[M];cases e with
    |false=>simp at h
    |true=>have:decide ((200:Int)<x.ins.length)=false:=by simpa using h
           rw[this];rfl
   refine aP ?_;refine af (aw rfl (fun h7=>?_) fun h7=>bS ?_)
   .rw[h7] at M qC;refine aB (aj (aP ?_));refine aI (yr rfl rfl rfl Ma (ae0 agE _ _)) cv ⟨Mb,Ty I8 _,RX I8 _⟩ (af (cx rfl (fun h=>?_) fun h=>bP (ff ?_)))
    .have hf:j7 f k=false:=by rw[M,h];rfl
     refine aB (aj (SS ?_));refine af (bX (br (aR (av (d:=B false) rfl ?_))));rw[j5 ao hf];rfl
    .have ht:j7 f k=true:=by rw[M,h];rfl
     refine aP ?_;refine cA (Hx rfl rfl rfl rfl Ma) cv ⟨Mb,Ty I8 _,RX I8 _⟩ (af (ag ?_));refine af (aK (k+1,_) (aQ eH ⟨?_,trivial⟩) ⟨oM,lN C ht,oM⟩ oM);dsimp only;rw[qC,if_pos rfl, <- ae1 h];exact up_same _ _ _
   .rw[h7] at M qC;refine ag ?_;refine af (aK (k+1,_) (aQ eH ⟨?_,trivial⟩) ⟨oM,lN C M,oM⟩ oM);dsimp only;rw[qC,if_neg oS];rfl
  .have a9:¬ k<n:=by simpa using h
   have:k=n:=by omega
   subst this;exact⟨N,fQ eH,C⟩
 rintro s ⟨N,hg,C⟩;rw[C,Bool.true_and]
 have hE:∀ x∈f.blocks,HU f x.fin:=fun x hx=>by
  obtain⟨k,hk⟩:=cC hx;have ao:k<n:=by rw[<- hn];exact(bw.1 hk).1
  have:=bj.1 C k (by simpa using ao);rw[j7,getD_some hk] at this;simp only[aO] at this;exact Kp oG fC this.1
 have Dj:=Dj (f:=f) mU mV rfl rfl hn oG (fun b h=>by have:=(hE b h).wh;omega) (fun b h t ht=>hn▸(hE b h).to t (Gq.1 ht));refine⟨_,hg,aj ?_⟩;refine SS ?_;refine cl Dj (SS ?_);refine af (aB (az (aP ?_)));refine af (bR (fun s=>(range n).all (tl f)=true) (dV (α:=Nat×Nat) (fun k=>⟨aD [(1,.pt (aH f)),(3,.pt (bq P0 Q0 f)),(9,bx (cM f.blocks)),(157,gv f.blocks),(158,I n),(159,I k.1)],fun _=>none,k.2⟩) (fun k=>k.1<=n/\(range k.1).all (tl f)=true) (fun k=>n - k.1) (0,N) (fQ ⟨rfl,rfl,rfl,rfl,congrArg (fun k:Nat=>I k) hn,rfl,trivial⟩) ⟨Nat.zero_le _,rfl⟩ ?_) ?_)
 .rintro⟨k,N⟩ ⟨hk,C⟩;dsimp only at hk C ⊢;refine SS ?_;refine af ⟨_,rfl,fun h=>?_,fun h=>?_⟩
  .have ao:k<n:=by simpa using h
   have hx:f.blocks[k]? =some f.blocks[k]:=aM oG;have cz:f.blocks[k]∈f.blocks:=cy _;generalize f.blocks[k]=x at hx cz;have hA:=JI hn ao;have nr:tl f k=(range x.ins.length).all (wo f k x.ins):=by rw[tl,getD_some hx]
   have qq:∀ j,wo f k x.ins j=jN f k (x.ins.getD j eB) ((x.ins.take (j+1)).all cr) (bH f.blocks n k).length:=fun j=>by rw[wo,hn]
   generalize bH f.blocks n k=A at hA qq;refine az (bB ?_);refine af (aW (uM (i:=N) (l:=[(1,.pt (aH f)),(3,.pt (bq P0 Q0 f)),(9,bx (cM f.blocks)),(10,I k),(11,.pt (fH x)),(157,gv f.blocks),(158,I n),(159,I k)]) (up_same _ _ _) ⟨rfl,rfl,rfl,rfl,oX,rfl,rfl,rfl,trivial⟩) (aj (SS ?_)));refine af (az (aP ?_))
   have fp:x.ins.length<=200:=by
    have:=bj.1 ‹(range n).all (j7 f)=true› k (by simpa using ao);rw[j7,getD_some hx] at this;simp only[aO,Bool.not_eq_true',decide_eq_false_iff_not] at this;omega
   refine af (dV (α:=Nat×Nat) (fun j=>⟨aD [(1,.pt (aH f)),(3,.pt (bq P0 Q0 f)),(9,bx (cM f.blocks)),(10,I k),(12,B ((x.ins.take j.1).all cr)),(157,gv f.blocks),(158,I n),(159,I k),(165,iF x.ins),(166,I x.ins.length),(167,I j.1)],fun _=>none,j.2⟩) (fun j=>j.1<=x.ins.length/\(range j.1).all (wo f k x.ins)=true) (fun j=>x.ins.length - j.1) (0,N+1) (fQ eH) ⟨Nat.zero_le _,rfl⟩ ?_);rintro⟨j,N⟩ ⟨hj,Mc⟩;dsimp only at hj Mc ⊢;refine SS ?_;refine af ⟨_,rfl,fun h=>?_,fun h=>?_⟩
   .have cV:j<x.ins.length:=by simpa using h
    have hy:x.ins[j]? =some x.ins[j]:=aM cV;generalize x.ins[j]=y at hy;have uv:(x.ins.take (j+1)).all cr=((x.ins.take j).all cr&&cr y):=by rw[List.take_add_one,hy,List.all_append];simp
    have qq:=qq j;rw[getD_some hy] at qq;generalize (x.ins.take j).all cr=ph at uv;refine az (aP ?_);refine af (aW (uM (i:=N) (l:=[(1,.pt (aH f)),(3,.pt (bq P0 Q0 f)),(9,bx (cM f.blocks)),(10,I k),(12,B ph),(14,.pt (bu y)),(157,gv f.blocks),(158,I n),(159,I k),(165,iF x.ins),(166,I x.ins.length),(167,I j)]) (up_same _ _ _) ⟨rfl,rfl,rfl,rfl,rfl,oX,rfl,rfl,rfl,rfl,rfl,rfl,trivial⟩) (az (dz ?_)));refine af (aW (fQ (l:=[(1,.pt (aH f)),(3,.pt (bq P0 Q0 f)),(9,bx (cM f.blocks)),(10,I k),(12,B ((x.ins.take (j+1)).all cr)),(14,.pt (bu y)),(157,gv f.blocks),(158,I n),(159,I k),(165,iF x.ins),(166,I x.ins.length),(167,I j)]) ⟨rfl,rfl,rfl,rfl,?_,rfl,rfl,rfl,rfl,rfl,rfl,rfl,trivial⟩) (dE Z0 ?_))
    .rw[uv];cases ph<;>rfl
    have Ik:=Ik (f:=f) (b:=(k:Int)) (ahead:=(A.length:Int)) (x:=y) (phis:=(x.ins.take (j+1)).all cr);rw[<- qq] at Ik;refine aJ ?_;refine cl Ik (SS ?_);refine a8 bc (aw rfl (fun h=>?_) fun h=>bS ?_)
    .have hf:wo f k x.ins j=false:=by simpa using h
     refine ws (SS ?_);refine af (aY (br (br (aR (av (d:=B false) rfl ?_)))));rw[j5 ao (by rw[nr];exact j5 cV hf)]
    .have ht:wo f k x.ins j=true:=by simpa using h
     refine ag ?_;exact af (aK (j+1,_) (fQ eH) ⟨oM,lN Mc ht⟩ oM)
   .have a9:¬ j<x.ins.length:=by simpa using h
    have Fy:j=x.ins.length:=by omega
    subst Fy;show AOps _ _ _ _ _ _ _ _ _;refine ag ?_;exact af (aK (k+1,_) (fQ eH) ⟨oM,lN oN (nr.trans Mc)⟩ oM)
  .have a9:¬ k<n:=by simpa using h
   have:k=n:=by omega
   subst this;show(range k).all (tl f)=true
   assumption
 .rintro⟨env,m,nx⟩ C;refine⟨_,.refl _,aj ?_⟩;refine SS ?_;refine af (av (d:=B true) rfl ?_);rw[C]
theorem zS{f:aG}:PCall prog 95 [.agg (aH f)] (I (dG f)):=by
 have M:∀ a∈[D.agg (aH f)],Tr a:=.cons (.agg (iq f)) .nil;refine bg WW M (.s _) ?_;rw[akB];have MW:=MW (f:=f);refine az (ag ?_);refine af (aW (uM (i:=0) (l:=[(1,.pt (aH f))]) rfl eH) (oD (aj (SS ?_))));refine cl MW (ag ?_);refine af (aw rfl (fun h=>aj ?_) fun h=>aj ?_)
 .have hf:jx f=false:=by simpa using h
  refine SS ?_;refine af (aY (bO (aR (av (d:=I 80) rfl ?_))));rw[dG,if_neg (by simp[hf])]
 .have hf:jx f=true:=by simpa using h
  have C:=tE hf;obtain⟨args,ha⟩:=cU C.args.1;have ui:=C.args.2;have Ii:=Ii (p:=.s (.map none)) (q:=.s (.map none)) (f:=f) (.s _) (.s _) rfl rfl rfl C.pos (by have:=C.mz;omega) ha oG (Gw args) C.blk (fun b x hx y hy X=>C.Ja hx hy X);have J:dG f=if yw f.blocks args=true then 0 else 81:=by rw[dG,if_pos hf,ha,bN]
  generalize yw f.blocks args=r at Ii J;refine SS ?_;refine WX ?_;refine cl Ii (ag ?_);refine af (aw rfl (fun h=>aj ?_) fun h=>nI (aj ?_))
  .have hr:r=false:=by simpa using h
   refine SS ?_;refine af (aY (bO (aR (av (d:=I 81) rfl ?_))));rw[J,hr];rfl
  .have hr:r=true:=by simpa using h
   refine SS ?_;refine af (aY (av (d:=I 0) rfl ?_));rw[J,hr];rfl
end Go.Proofs.Tryz.K
namespace Go.Argus
def U6(a b:Int):Int:=intBitsV .andNot .u64 a b
def HV(w:List Int)(m:Nat):List Int:=w.set (m / 64) (U6 (w.getD (m / 64) 0) (IntKind.u64.wrap (1*2 ^ (min (m % 64) 64))))
def EO(w:List Int)(n:Int):List Int:=if 0<=n then HV w n.toNat else w
def yX(w v:List Int):Nat->List Int
 |0=>w
 |k+1=>(yX w v k).set k (Bg ((yX w v k).getD k 0) (v.getD k 0))
def agG(w v:List Int):List Int:=yX w v 19
@[simp] theorem aob (w : List Int) (m : Nat) : (HV w m).length = w.length := by simp [HV]
@[simp] theorem aoc (w : List Int) (n : Int) : (EO w n).length = w.length := by unfold EO; split <;> simp
@[simp] theorem Qg (w v : List Int) : ∀ k, (yX w v k).length = w.length
 |0=>rfl
 |k+1=>by simp[yX,Qg w v k]
@[simp] theorem aod (w v : List Int) : (agG w v).length = w.length := Qg w v 19
def gn(x:End):List Int:=if x.kind≠3/\x.kind≠4 then [x.to] else []
def ow(x:End):List Int:=if x.kind=2\/x.kind=8 then gn x++[x.gD] else gn x
def dA(x:End)(k:Nat):List Int:=ow x++(x.aL.take k).map (·.to)
def dW(x:End):List Int:=if 0<=x.cX then dA x x.aL.length++[x.cX] else dA x x.aL.length
theorem Q8{x:End}{k:Nat}{w:kQ}(h:x.aL[k]? =some w):dA x (k+1)=dA x k++[w.to]:=by
 unfold dA;rw[List.take_add_one,h,List.map_append,List.append_assoc];rfl
theorem DT(x:End):(ow x).length<=2:=by unfold ow gn;repeat' split<;>simp
theorem DB(x:End):(dW x).length<=x.aL.length+3:=by
 have:=DT x;unfold dW dA;split<;>simp<;>omega
end Go.Argus
end
namespace Go.Argus
open Go Go.Abs
theorem YQ(v:BitVec 64)(i:Nat):(IntKind.u64.wrap (v.toNat:Int)).toNat.testBit i=v.getLsbD i:=by
 rw[wrap_u64 v.isLt,bN,BitVec.testBit_toNat]
theorem Jm{a:Int}(ha:eN a)(i:Nat):(BitVec.ofInt 64 a).getLsbD i=a.toNat.testBit i:=by
 obtain⟨n,rfl⟩:=cU ha.1;have h:=ha.2;rw[<- BitVec.testBit_toNat,BitVec.toNat_ofInt];congr 1;omega
theorem aiG{a b:Int}(ha:eN a)(hb:eN b)(i:Nat):(Bg a b).toNat.testBit i=(a.toNat.testBit i||b.toNat.testBit i):=by
 have:Bg a b=IntKind.u64.wrap (((BitVec.ofInt 64 a||| BitVec.ofInt 64 b).toNat:Nat):Int):=rfl;rw[this,YQ,BitVec.getLsbD_or,Jm ha,Jm hb]
theorem T3{a b:Int}(ha:eN a)(hb:eN b)(i:Nat):(rh a b).toNat.testBit i=(a.toNat.testBit i&&b.toNat.testBit i):=by
 have:rh a b=IntKind.u64.wrap (((BitVec.ofInt 64 a&&& BitVec.ofInt 64 b).toNat:Nat):Int):=rfl;rw[this,YQ,BitVec.getLsbD_and,Jm ha,Jm hb]
theorem J4(v:BitVec 64):eN (IntKind.u64.wrap (v.toNat:Int)):=by
 rw[wrap_u64 v.isLt];have:=v.isLt;unfold eN;omega
theorem aan(a b:Int):eN (U6 a b):=J4 (BitVec.ofInt 64 a&&& ~~~ BitVec.ofInt 64 b)
theorem QD(a b:Int):eN (Bg a b):=J4 (BitVec.ofInt 64 a||| BitVec.ofInt 64 b)
theorem aem{k:Nat}(hk:k<64):IntKind.u64.wrap (1*2 ^ (min k 64))=((2 ^ k:Nat):Int):=by
 have h1:min k 64=k:=by omega
 have h2:(2:Nat) ^ k<2 ^ 64:=Nat.pow_lt_pow_right oG hk;rw[h1,Int.one_mul, <- wrap_u64 h2]
 norm_cast
def eY(w:List Int)(r:Nat):Bool:=(w.getD (r / 64) 0).toNat.testBit (r % 64)
def gj(w:List Int):Prop:=∀ u∈w,eN u
theorem gj.get{w:List Int}(h:gj w)(i:Nat):eN (w.getD i 0):=by
 rw[bl];cases hx:w[i]? with
 |none=>exact⟨oS,oS⟩
 |some u=>exact h u (bU hx)
theorem ada{k:Nat}(hk:k<64):eN ((2 ^ k:Nat):Int):=by
 have h2:(2:Nat) ^ k<2 ^ 64:=Nat.pow_lt_pow_right oG hk;generalize (2:Nat) ^ k=z at h2;unfold eN;omega
theorem KA{w:List Int}(h:gj w)(m:Nat):na w m=eY w m:=by
 have C:=h.get (m / 64);unfold na eY;generalize w.getD (m / 64) 0=u at C;have hk:min (m % 64) 64=m % 64:=by omega
 rw[hk];obtain⟨n,rfl⟩:=cU C.1
 have e:((n:Int).fdiv (2 ^ (m % 64)))=((n / 2 ^ (m % 64):Nat):Int):=by
  rw[Int.fdiv_eq_ediv_of_nonneg _ (Int.le_of_lt (Int.pow_pos oG)),Int.natCast_ediv,Int.natCast_pow];rfl
 rw[e];have hd:n / 2 ^ (m % 64)<=n:=Nat.div_le_self _ _
 have hq:eN ((n / 2 ^ (m % 64):Nat):Int):=by
  have:=C.2;revert hd;generalize n / 2 ^ (m % 64)=z;intro hd;unfold eN;omega
 have h1:eN 1:=by unfold eN;omega
 have hb:∀ i,(rh ((n / 2 ^ (m % 64):Nat):Int) 1).toNat.testBit i=(n.testBit (m % 64)&&decide (i=0)):=fun i=>by
  rw[T3 hq h1,bN];by_cases hi:i=0
  .subst hi;simp[Nat.testBit_eq_decide_div_mod_eq]
  .have:(1:Int).toNat.testBit i=false:=by
    show Nat.testBit 1 i=false;cases i with
    |zero=>omega
    |succ j=>simp[Nat.testBit_succ]
   rw[this];simp[hi]
 have hp:eN (rh ((n / 2 ^ (m % 64):Nat):Int) 1):=J4 (BitVec.ofInt 64 _&&& BitVec.ofInt 64 1);generalize rh ((n / 2 ^ (m % 64):Nat):Int) 1=z at hb hp;obtain⟨q,rfl⟩:=cU hp.1;simp only[bN] at hb ⊢;cases hn:n.testBit (m % 64) with
 |false=>
  have:q=0:=Nat.eq_of_testBit_eq fun i=>by rw[hb i,hn];simp
  subst this;rfl
 |true=>
  have:q=1:=Nat.eq_of_testBit_eq fun i=>by
   rw[hb i,hn];cases i with
   |zero=>simp
   |succ j=>simp[Nat.testBit_succ]
  subst this;rfl
theorem SL{w:List Int}{i:Nat}{u:Int}(hi:i<w.length)(r:Nat):eY (w.set i u) r=if r / 64=i then u.toNat.testBit (r % 64) else eY w r:=by
 unfold eY;simp only[bl,List.getElem?_set];split
 .rename_i h;subst h;simp[hi]
 .rename_i h;rw[if_neg fun e=>h e.symm]
theorem ac3{w:List Int}(h:gj w){m:Nat}(hm:m / 64<w.length)(r:Nat):eY (yR w m) r=(eY w r||decide (r=m)):=by
 have hk:m % 64<64:=by omega
 unfold yR;rw[aem hk,SL hm];split
 .rename_i e;rw[aiG (h.get _) (ada hk),bN,Nat.testBit_two_pow,eY,e];congr 1;apply decide_eq_decide.2;omega
 .rename_i e;have:¬ r=m:=fun h=>e (by rw[h]);simp[this]
theorem gj.set{w:List Int}(h:gj w){i:Nat}{u:Int}(C:eN u):gj (w.set i u):=fun x hx=>by
 rcases List.mem_or_eq_of_mem_set hx with h1|h1
 .exact h x h1
 .subst h1;exact C
theorem gj.with{w:List Int}(h:gj w)(m:Nat):gj (yR w m):=h.set (QD _ _)
theorem gj.less{w:List Int}(h:gj w)(m:Nat):gj (HV w m):=h.set (aan _ _)
theorem gj.EO{w:List Int}(h:gj w)(n:Int):gj (EO w n):=by
 unfold Argus.EO;split
 .exact h.less _
 .exact h
theorem gj.yX{w v:List Int}(h:gj w):∀ k,gj (yX w v k)
 |0=>h
 |k+1=>(gj.yX h k).set (QD _ _)
theorem QC{w v:List Int}(h:gj w)(hv:gj v)(hl:w.length=v.length)(he:∀ r,eY w r=eY v r):w=v:=by
 apply List.ext_getElem hl;intro i h1 h2;have e1:w.getD i 0=w[i]:=by simp[bl,aM h1]
 have e2:v.getD i 0=v[i]:=by simp[bl,aM h2]
 have a:=h w[i] oS;have b:=hv v[i] oS
 have:w[i].toNat=v[i].toNat:=Nat.eq_of_testBit_eq fun k=>by
  by_cases hk:k<64
  .have:=he (i*64+k);unfold eY at this;rw[show(i*64+k) / 64=i by omega,show(i*64+k) % 64=k by omega,e1,e2] at this;exact this
  .have h2:2 ^ 64<=2 ^ k:=Nat.pow_le_pow_right oG oG;unfold eN at a b;rw[Nat.testBit_lt_two_pow oG,Nat.testBit_lt_two_pow oG]
 unfold eN at a b;omega
theorem ac6(n r:Nat):eY (replicate n 0) r=false:=by
 unfold eY;rw[bl,List.getElem?_replicate];split<;>simp
section
variable(beh:Nat->List Int)(alO:Nat->Bool->Int)(ent:Nat->Nat->Int)
variable{beh alO ent}{akD:Nat->Bool}{wIn:Nat->Bool->Bool}
end
def yZ(s:List Bool)(c:Int):Bool:=s.getD c.toNat false
def eO(beh:Nat->List Int)(w:Int):Nat->List Bool×List Int->Nat->List Bool×List Int
 |0,s,_=>s
 |k+1,s,b=>
  let r:=(beh b).foldl (fun s c=>if yZ s.1 c=false/\c≠w then eO beh w k s c.toNat else s) (s.1.set b true,s.2)
  (r.1,r.2++[(b:Int)])
def dZ(beh:Nat->List Int)(w:Int)(k:Nat)(s:List Bool×List Int)(l:List Int):List Bool×List Int:=
 l.foldl (fun s c=>if yZ s.1 c=false/\c≠w then eO beh w k s c.toNat else s) s
theorem wi(beh:Nat->List Int)(w:Int)(k:Nat)(s:List Bool×List Int)(b:Nat):
 eO beh w (k+1) s b=((dZ beh w k (s.1.set b true,s.2) (beh b)).1,(dZ beh w k (s.1.set b true,s.2) (beh b)).2++[(b:Int)]):=rfl
theorem GL(beh:Nat->List Int)(w:Int)(k:Nat)(s:List Bool×List Int)(l:List Int)(c:Int):
 dZ beh w k s (l++[c])=(if yZ (dZ beh w k s l).1 c=false/\c≠w then eO beh w k (dZ beh w k s l) c.toNat else dZ beh w k s l):=by
 rw[dZ,List.foldl_append];rfl
theorem Hh{α:Type}{p:List α->Prop}(h0:p [])(h1:∀ l a,p l->p (l++[a]))(l:List α):p l:=by
 have h:∀ l:List α,p l.reverse:=fun l=>by
  induction l with
  |nil=>exact h0
  |cons a l ih=>rw[List.reverse_cons];exact h1 _ _ ih
 have:=h l.reverse
 rwa[List.reverse_reverse] at this
theorem Jr{l:List Bool}{b:Nat}:(l.set b true).count false<=l.count false:=by
 induction l generalizing b with
 |nil=>simp
 |cons x l ih=>
  cases b with
  |zero=>cases x<;>simp
  |succ b=>simp only[List.set_cons_succ,List.count_cons];have:=ih (b:=b);omega
theorem yj{l:List Bool}{b:Nat}(h:l[b]? =some false):(l.set b true).count false+1=l.count false:=by
 induction l generalizing b with
 |nil=>simp at h
 |cons x l ih=>
  cases b with
  |zero=>simp at h;subst h;simp
  |succ b=>simp only[List.set_cons_succ,List.count_cons];have:=ih (b:=b) (by simpa using h);omega
structure vI(beh:Nat->List Int)(w:Int)(s s':List Bool×List Int):Prop where
 len:s'.1.length=s.1.length
 cnt:s'.1.count false<=s.1.count false
 mono:∀ i,s.1.getD i false=true->s'.1.getD i false=true
 out:∃ l:List Int,s'.2=s.2++l/\l.Nodup/\∀ x,x∈l↔0<=x/\s'.1.getD x.toNat false=true/\s.1.getD x.toNat false=false
theorem vI.refl{beh:Nat->List Int}{w:Int}(s:List Bool×List Int):vI beh w s s:=⟨rfl,bF _,fun _ h=>h,[],oS,List.nodup_nil,fun x=>by
 constructor
 .intro h;simp at h
 .rintro⟨_,h1,h2⟩;rw[h1] at h2;cases h2⟩
theorem vI.trans{beh:Nat->List Int}{w:Int}{s t u:List Bool×List Int}(h1:vI beh w s t)(h2:vI beh w t u):vI beh w s u:=by
 refine⟨h2.len.trans h1.len,Nat.le_trans h2.cnt h1.cnt,fun i h=>h2.mono i (h1.mono i h),?_⟩;obtain⟨M,a1,b1,C⟩:=h1.out;obtain⟨X,a2,b2,J⟩:=h2.out;refine⟨M++X,by rw[a2,a1,List.append_assoc],?_,fun x=>?_⟩
 .rw[List.nodup_append];refine⟨b1,b2,fun a ha b hb e=>?_⟩;subst e;have:=((C a).1 ha).2.1;rw[((J a).1 hb).2.2] at this;cases this
 .rw[List.mem_append,C,J];constructor
  .rintro(⟨h0,h,h'⟩|⟨h0,h,h'⟩)
   .exact⟨h0,h2.mono _ h,h'⟩
   .refine⟨h0,h,?_⟩;cases hs:s.1.getD x.toNat false with
    |false=>rfl
    |true=>rw[h1.mono _ hs] at h';cases h'
  .rintro⟨h0,h,h'⟩;cases ht:t.1.getD x.toNat false with
   |true=>exact .inl ⟨h0,rfl,h'⟩
   |false=>exact .inr ⟨h0,h,rfl⟩
theorem getD_set_true{l:List Bool}{b i:Nat}(hb:b<l.length):(l.set b true).getD i false=(decide (i=b)||l.getD i false):=by
 simp only[bl,List.getElem?_set];split
 .rename_i h;subst h;simp[hb]
 .rename_i h;have:¬ i=b:=fun e=>h e.symm;simp[this]
section
variable{beh:Nat->List Int}{w:Int}{n:Nat}(hb:∀ b,∀ c∈beh b,0<=c/\c.toNat<n)
theorem yp{l:List Bool}{c:Nat}(h:l.getD c false=false)(hc:c<l.length):l[c]? =some false:=by
 rw[bl,aM hc] at h;rw[aM hc];simpa using h
include hb in
theorem RB:∀ (k:Nat) (s:List Bool×List Int) (b:Nat),s.1.length=n->b<n->s.1.count false<=k->s.1.getD b false=false->
 vI beh w s (eO beh w k s b)/\(eO beh w k s b).1.getD b false=true/\
 (∀ x,(eO beh w k s b).1.getD x false=true->s.1.getD x false=false->∀ c∈beh x,c≠w->(eO beh w k s b).1.getD c.toNat false=true)
 |0,s,b,hn,pz,hk,hs=>by
  have:=yj (yp hs oG);omega
 |k+1,s,b,hn,pz,hk,hs=>by
  have h0:vI beh w s (s.1.set b true,s.2++[(b:Int)]):=by
   refine⟨oS,Jr,fun i h=>?_,[(b:Int)],rfl,oS,fun x=>?_⟩
   .simp only;rw[getD_set_true oG,h,Bool.or_true]
   .simp only[getD_set_true (show b<s.1.length by omega),List.mem_singleton];constructor
    .rintro rfl;simp[<- List.getD_eq_getElem?_getD,hs]
    .rintro⟨h1,h2,h3⟩;rw[h3,Bool.or_false,decide_eq_true_eq] at h2;omega
  have hF:∀ l:List Int,(∀ c∈l,0<=c/\c.toNat<n)->∀ o,let r:=dZ beh w k (s.1.set b true,o) l
   vI beh w (s.1.set b true,o) r/\(∀ c∈l,c≠w->r.1.getD c.toNat false=true)/\
   (∀ x,r.1.getD x false=true->(s.1.set b true).getD x false=false->∀ c∈beh x,c≠w->r.1.getD c.toNat false=true):=by
   intro l
   induction l using Hh with
   |h0=>intro _ o;exact⟨.refl _,fun c h=>by simp at h,fun x h h'=>by rw[show(dZ beh w k (s.1.set b true,o) []).1=s.1.set b true from rfl,h'] at h;cases h⟩
   |h1 l c ih=>
    intro hl o;obtain⟨C,X,g3⟩:=ih (fun c h=>hl c (by simp[h])) o;simp only;rw[GL];generalize dZ beh w k (s.1.set b true,o) l=t at C X g3;have hc:=hl c oS;have cJ:t.1.length=n:=by rw[C.len];simp[hn]
    split
    .rename_i sR;have sQ:t.1.getD c.toNat false=false:=sR.1
     have E7:t.1.count false<=k:=by
      have a1:=C.cnt;have a2:=yj (yp hs oG);simp only at a1;omega
     obtain⟨q1,q2,q3⟩:=RB k t c.toNat cJ hc.2 E7 sQ;refine⟨C.trans q1,fun M h' J=>?_,fun x h1 h2 M CU J=>?_⟩
     .rw[List.mem_append] at h';rcases h' with h'|h'
      .exact q1.mono _ (X M h' J)
      .simp at h';subst h';exact q2
     .cases ht:t.1.getD x false with
      |true=>exact q1.mono _ (g3 x ht h2 M CU J)
      |false=>exact q3 x h1 ht M CU J
    .rename_i sR;refine⟨C,fun M h' J=>?_,g3⟩;rw[List.mem_append] at h';rcases h' with h'|h'
     .exact X M h' J
     .simp at h';subst h';cases ht:t.1.getD M.toNat false with
      |true=>rfl
      |false=>exact absurd ⟨ht,J⟩ sR
  rw[wi];obtain⟨C,X,g3⟩:=hF (beh b) (hb b) s.2;generalize dZ beh w k (s.1.set b true,s.2) (beh b)=t at C X g3;have jt:t.1.getD b false=true:=C.mono b (by simp only;rw[getD_set_true oG];simp);refine⟨⟨by have:=C.len;simp at this;exact this,Nat.le_trans C.cnt Jr,fun i h=>C.mono i (by simp only;rw[getD_set_true oG,h,Bool.or_true]),?_⟩,jt,fun x h1 h2 c hc J=>?_⟩
  .obtain⟨l,e,nd,hm⟩:=C.out;simp only at e hm;refine⟨l++[(b:Int)],by simp only;rw[e,List.append_assoc],?_,fun x=>?_⟩
   .rw[List.nodup_append];refine⟨nd,oS,fun a ha b' kV e=>?_⟩;simp at kV;subst kV e;have:=((hm _).1 ha).2.2;rw[getD_set_true oG] at this;simp at this
   .rw[List.mem_append,hm,getD_set_true oG,List.mem_singleton];simp only;constructor
    .rintro(⟨h0,h1,h2⟩|rfl)
     .simp only[Bool.or_eq_false_iff] at h2;exact⟨h0,h1,h2.2⟩
     .exact⟨oG,by simpa using jt,by simpa using hs⟩
    .rintro⟨h0,h1,h2⟩;by_cases hx:x=(b:Int)
     .exact .inr hx
     .refine .inl ⟨h0,h1,?_⟩;rw[h2];have:¬ x.toNat=b:=by omega
      simp[this]
  .simp only at h1 ⊢;by_cases hx:x=b
   .subst hx;exact X c hc J
   .exact g3 x h1 (by rw[getD_set_true oG,h2];simp[hx]) c hc J
end
def cO(beh:Nat->List Int)(n:Nat)(w:Int):List Bool:=if w=0 then replicate n false else(eO beh w n (replicate n false,[]) 0).1
def cS(beh:Nat->List Int)(n:Nat):List Int:=(eO beh (-1) n (replicate n false,[]) 0).2.reverse
section
variable{beh:Nat->List Int}{n:Nat}(hb:∀ b,∀ c∈beh b,0<=c/\c.toNat<n)(hn:0<n)
include hb hn
theorem Fj(w:Int):vI beh w (replicate n false,[]) (eO beh w n (replicate n false,[]) 0)/\(eO beh w n (replicate n false,[]) 0).1.getD 0 false=true/\
 (∀ x,(eO beh w n (replicate n false,[]) 0).1.getD x false=true->∀ c∈beh x,c≠w->(eO beh w n (replicate n false,[]) 0).1.getD c.toNat false=true):=by
 have C:∀ i,(replicate n false).getD i false=false:=fun i=>by
  rw[bl,List.getElem?_replicate];split<;>rfl
 obtain⟨h1,h2,h3⟩:=RB (w:=w) hb n (replicate n false,[]) 0 oS hn oS (C 0);exact⟨h1,h2,fun x hx=>h3 x hx (C x)⟩
theorem wg(w:Int):(cO beh n w).length=n:=by
 unfold cO;split
 .simp
 .rw[(Fj hb hn w).1.len];simp
theorem JY{x:Int}:x∈cS beh n↔0<=x/\(cO beh n (-1)).getD x.toNat false=true:=by
 obtain⟨h1,_,_⟩:=Fj hb hn (-1);obtain⟨l,e,_,hm⟩:=h1.out;unfold cS cO;rw[if_neg oG,List.mem_reverse,e];simp only[List.nil_append];rw[hm]
 have C:(replicate n false).getD x.toNat false=false:=by
  rw[bl,List.getElem?_replicate];split<;>rfl
 simp only[C,and_true]
theorem JA:(cS beh n).Nodup:=by
 obtain⟨h1,_,_⟩:=Fj hb hn (-1);obtain⟨l,e,nd,_⟩:=h1.out;unfold cS;rw[e];exact List.pairwise_reverse.2 (nd.imp fun h e=>h e.symm)
theorem Pe{x:Nat}(hx:(cO beh n (-1)).getD x false=true):∀ c∈beh x,(cO beh n (-1)).getD c.toNat false=true:=by
 obtain⟨_,_,h3⟩:=Fj hb hn (-1);unfold cO at hx ⊢;rw[if_neg oG] at hx ⊢;intro c hc;exact h3 x hx c hc (by have:=hb x c hc;omega)
end
end Go.Argus
section
open Go Go.Abs Go.Proofs Go.Argus
namespace Go.Proofs.Tryz.K
def zT(x:Argus.End)(l:List Int)(s:St):Prop:=∃ r m nx,r<nx/\m r=some (.cells (l.map I) 3)/\Ghost prog s ⟨aD [(1,.pt (bh x)),(3,.rs r 0 l.length)],m,nx⟩
theorem E6{x:Argus.End}(hlen:x.aL.length<=100000):OCall prog 115 [.agg (bh x)] ((dW x).map I) (dW x).length 3:=by
 have a7:∀ a∈[D.agg (bh x)],Tr a:=.cons (.agg (lR x)) .nil;refine zH U7 a7 (.map fun _=>.s _) ?_;rw[agH];refine az (ag ?_);refine af (aW (bG [(0,bh x,69)] eH (l:=[(1,.pt (bh x))]) eH) (az (SS ?_)));refine af ⟨_,.nilrow _ _ _ 3 3 rfl,(eI (zT x (gn x)) (aj ?_) fun s hs=>?_)⟩
 .have yes:x.kind≠3/\x.kind≠4->gn x=[x.to]:=fun h=>by rw[gn,if_pos h]
  have no:¬ (x.kind≠3/\x.kind≠4)->gn x=[]:=fun h=>by rw[gn,if_neg h]
  have ax:up (fun _=>(none:Option Row)) 1 (some (.cells [] 3)) 1=some (.cells [] 3):=up_same _ _ _;by_cases h3:x.kind=3
  .have du:(x.kind !=3)=false:=by simp[h3]
   refine aP ?_;(iterate 3 refine z fun _ _=>?_);refine SS ?_;refine af (aw rfl (fun h=>oH) fun h=>bd ?_);rw[no (by simp[h3])];exact⟨_,_,_,Nat.lt_succ_self _,up_same _ _ _,ap eH⟩
  .by_cases h4:x.kind=4
   .have du:(x.kind !=3)=true:=by simp[h4]
    have Md:(x.kind !=4)=false:=by simp[h4]
    refine bK ?_;refine af (aw rfl (fun h=>(by simp[h4] at h)) fun h=>bd ?_);rw[no (by simp[h4])];exact⟨_,_,_,Nat.lt_succ_self _,up_same _ _ _,ap eH⟩
   .have du:(x.kind !=3)=true:=by simp[h3]
    have Md:(x.kind !=4)=true:=by simp[h4]
    refine bK ?_;refine af (aw rfl (fun h=>?_) fun h=>(by simp[h4] at h));refine gA (bB ?_);refine af ?_;rw[yes ⟨h3,h4⟩];exact⟨_,_,_,Nat.lt_succ_self _,up_same _ _ _,ap eH⟩
 obtain⟨r,m,nx,hr,ax,hg⟩:=hs;refine⟨_,hg,eI (zT x (ow x)) (aj ?_) fun s hs=>?_⟩
 .have C:ow x=if x.kind=2\/x.kind=8 then gn x++[x.gD] else gn x:=rfl
  have J:(gn x).length<=1:=by unfold gn;split<;>simp
  generalize gn x=l at ax C J;have X:(l.map I).length=l.length:=by simp
  by_cases h2:x.kind=2\/x.kind=8
  .rw[if_pos h2] at C;refine bK ?_;refine af (aw rfl (fun h=>gA ?_) fun h=>(by rcases h2 with h2|h2<;>simp[h2] at h));refine bB ?_;refine af ?_;rw[C];refine⟨_,_,_,Nat.lt_succ_self _,(up_same _ _ _).trans (by rw[List.map_append];rfl),ap ⟨rfl,?_,trivial⟩⟩;show D.rs _ 0 _=D.rs _ 0 _;rw[List.length_append];rfl
  .rw[if_neg h2] at C;refine bK ?_;refine af (aw rfl (fun h=>(by exfalso;apply h2;revert h;by_cases e2:x.kind=2<;>by_cases e8:x.kind=8<;>simp[e2,e8])) fun h=>bd ?_);rw[C];exact⟨r,m,nx,hr,ax,ap eH⟩
 clear hg hr ax;obtain⟨r,m,nx,hr,ax,hg⟩:=hs;refine⟨_,hg,eI (zT x (dA x x.aL.length)) (az ?_) fun s hs=>?_⟩
 .refine aP ?_
  refine af (dV (α:=Nat×Nat×Mem×Nat) (fun s=>⟨aD [(1,.pt (bh x)),(3,.rs s.2.1 0 (dA x s.1).length),(33,qH x.aL),(34,I x.aL.length),(35,I s.1)],s.2.2.1,s.2.2.2⟩)
   (fun s=>s.1<=x.aL.length/\s.2.1<s.2.2.2/\s.2.2.1 s.2.1=some (.cells ((dA x s.1).map I) 3)) (fun s=>x.aL.length - s.1) (0,r,m,nx) (ap ⟨rfl,?_,rfl,rfl,rfl,trivial⟩) ⟨Nat.zero_le _,hr,?_⟩ ?_)
  .show D.rs r 0 _=D.rs r 0 _;simp[dA]
  .show m r=_;rw[ax];simp[dA]
  clear hg hr ax;rintro⟨j,r,m,nx⟩ ⟨hj,hr,ax⟩;dsimp only at hj hr ax ⊢;refine SS ?_;refine af ⟨_,rfl,fun h=>?_,fun h=>?_⟩
  .have cV:j<x.aL.length:=by simpa using h
   have hy:x.aL[j]? =some x.aL[j]:=aM cV;generalize x.aL[j]=w at hy;have M:=Q8 hy;have xN:(dA x (j+1)).length=(dA x j).length+1:=by rw[M];simp
   have X:((dA x j).map I).length=(dA x j).length:=by simp
   have J:(dA x j).length<=2+j:=by have:=DT x;unfold dA;simp;omega
   generalize dA x j=l at ax M X xN J;refine ws (aP ?_);refine af (ff (ag ?_));refine V7 ?_;refine SS ?_;refine vm (uV rfl (aC oG (aC oG (aC oG ax))) rfl V.h V.h (wj (up_same _ _ _) rfl) rfl) ak ⟨V.h,rfl,(by first|omega|exact bD rfl|(simp;done)|(simp;omega)),oC,(by first|rfl|(simp;done)|(simp;omega)),(by unfold maxLen;first|omega|(simp;omega)),(by rw[b3];first|omega|(simp;omega)),(by first|(simp;done)|(simp;omega))⟩ ?_;refine SS ?_;refine af (ag ?_);refine af (aK (j+1,nx+1+1,_,_) (ap ⟨rfl,?_,rfl,rfl,rfl,trivial⟩) ⟨oM,oM,?_⟩ oM)
   .show D.rs _ 0 _=D.rs _ 0 _;rw[xN]
   .dsimp only;rw[M,List.map_append];exact up_same _ _ _
  .have a9:¬ j<x.aL.length:=by simpa using h
   have:j=x.aL.length:=by omega
   subst this;exact⟨r,m,nx,hr,ax,ap eH⟩
 clear hg hr ax;obtain⟨r,m,nx,hr,ax,hg⟩:=hs;refine⟨_,hg,eI (zT x (dW x)) (aj ?_) fun s hs=>?_⟩
 .have hd:dW x=if 0<=x.cX then dA x x.aL.length++[x.cX] else dA x x.aL.length:=rfl
  have J:(dA x x.aL.length).length<=2+x.aL.length:=by have:=DT x;unfold dA;simp;omega
  generalize dA x x.aL.length=l at ax hd J;have X:(l.map I).length=l.length:=by simp
  refine aq ?_;refine af (aw rfl (fun h=>gA ?_) fun h=>bd ?_)
  .rw[if_pos (by simpa using h)] at hd;refine bB ?_;refine af ?_;rw[hd];refine⟨_,_,_,Nat.lt_succ_self _,(up_same _ _ _).trans (by rw[List.map_append];rfl),ap ⟨rfl,?_,trivial⟩⟩;show D.rs _ 0 _=D.rs _ 0 _;rw[List.length_append];rfl
  .rw[if_neg (by simpa using h)] at hd;rw[hd];exact⟨r,m,nx,hr,ax,ap eH⟩
 clear hg hr ax;obtain⟨r,m,nx,hr,ax,hg⟩:=hs;refine⟨_,hg,aj ?_⟩;refine ag ?_;exact af (av rfl ⟨r,rfl,ax⟩)
end Go.Proofs.Tryz.K
namespace Go.Abs
theorem Zf{P:Program}{Y:YSpec}{rf:Bool}{Q:Exit->St->Prop}{st:St}{b:Code}[eC Y](h:∃ st',Ghost P st st'/\AW P Y rf b Q st'):AW P Y rf (.seq .skip b) Q st:=by
 obtain⟨st',h1,h2⟩:=h;exact⟨st',h1,h2⟩
end Go.Abs
namespace Go.Argus
def bA(f:aG)(beh ahd:List (List Int))(c:D):List D:=[S f.name,B f.iter,I f.args,U8 f.result,la f.al,la f.aZ,r7 f.signals,gv f.blocks,bx beh,bx ahd,c]
theorem JW{f:aG}{beh ahd:List (List Int)}{c:D}(hc:Tr c):∀ a∈bA f beh ahd c,Tr a:=.cons (.s _) (.cons (.s _) (.cons (.s _) (.cons (.s _) (.cons (rZ _) (.cons (rZ _) (.cons (Ac _) (.cons (GK _) (.cons (yu _) (.cons (yu _) (.cons hc .nil))))))))))
theorem z8{f:aG}{beh ahd:List (List Int)}{c:D}(hc:Tr c):Tr (.pt (bA f beh ahd c)):=.pt (JW hc)
@[simp] theorem an1 (f : aG) (beh ahd : List (List Int)) (c : D) : (bA f beh ahd c).length = 11 := rfl
def EP(x:b7):List bE:=x.ins.takeWhile cr
def eQ(l:List Int)(x:Int):Bool:=l.any fun y=>x==y
theorem te{l:List Int}{x:Int}:eQ l x=true↔x∈l:=by simp[eQ]
def ae2(A:List Int)(a:Int)(x:b7):List Int:=(EP x).map fun y=>y.args.getD (nX (fun y=>a==y) A).toNat 0
def akC(b:Int)(l:List Int):Nat:=l.countP fun y=>y==b
def ae3(x:End)(b:Int):Bool:=if((akC b (dW x):Int)==1)=true then x.to==b else false
def G6(x:End)(b:Int):Int:=if ae3 x b=true then eS x else -1
def akD(y:b7)(r:Int):Bool:=(EP y).any fun z=>z.to==r
def nF(n:Nat)(b:Int):Bool:=if decide (0<=b)=true then decide (b<(n:Int)) else false
theorem ym{n:Nat}{b:Int}:nF n b=true↔0<=b/\b<n:=by unfold nF;split<;>simp_all;omega
end Go.Argus
namespace Go.Proofs.Tryz.K
theorem MY{l:List Int}{v:Int}:PCall prog 110 [au l,I v] (I (nX (fun y=>v==y) l)):=by
 refine mG Me.he (.cons (cL _) (.cons (.s _) .nil)) fun C=>?_;have hlen:=(C (au l) oS).sl.1;unfold maxLen at hlen;refine bg Me (.cons (cL _) (.cons (.s _) .nil)) (Tr.s _) ?_;rw[agI];refine ws (SS ?_);refine af (aB (az (aq ?_)))
 refine af (bR (fun s=>Ghost prog s ⟨aD [],fun _=>none,0⟩/\∀ (j:Nat) y,l[j]? =some y->(v==y)=false) (dV (α:=Nat) (fun k=>⟨aD [(0,au l),(1,I v),(7,I l.length),(8,I k)],fun _=>none,0⟩)
  (fun k=>k<=l.length/\∀ j y,j<k->l[j]? =some y->(v==y)=false) (fun k=>l.length - k) 0 (ap eH) ⟨oG,fun j y hj=>by omega⟩ ?_) ?_)
 .rintro k ⟨hk,hinv⟩;refine SS ?_;refine af ⟨_,rfl,fun h=>?_,fun h=>?_⟩
  .have ao:k<l.length:=by simpa using h
   have hx:l[k]? =some l[k]:=by simp[ao]
   generalize l[k]=x at hx;refine ws (ag ?_);refine er (bB ?_);refine af (aw rfl (fun hp=>?_) fun hp=>?_)
   .refine ws (ag ?_);refine af (aY (br (aR (av rfl ?_))));rw[Dz hx hp hinv];rfl
   .refine bS (ag ?_);refine af (aK (k+1) (ap eH) ⟨oG,fun j y hj hy=>?_⟩ oG);by_cases e:j=k
    .subst e;rw[hx] at hy;cases hy;exact hp
    .exact hinv j y oG hy
  .have M:¬ k<l.length:=by simpa using h
   exact⟨.forget _ _ _ _ fun _=>.inr rfl,fun j y hy=>hinv j y (by have:=(bw.1 hy).1;omega) hy⟩
 .rintro s ⟨hg,J⟩;refine⟨_,hg,aj ?_⟩;refine SS ?_;refine af (av rfl ?_);rw[DA J];rfl
theorem kY{l:List Int}{v:Int}:PCall prog 54 [au l,I v] (B (eQ l v)):=by
 have MY:=MY (l:=l) (v:=v);refine bg WY (.cons (cL _) (.cons (.s _) .nil)) (Tr.s _) ?_;rw[akE];refine ws (SS ?_);refine er (ag ?_);refine cl MY (ag ?_);refine af (av (d:=.s (.bool _)) rfl ?_);rw[eQ, <- DI]
section
variable{f:aG}{beh ahd:List (List Int)}{c:D}(hc:Tr c)(fY:c.one=true)
include hc fY
theorem qt{b:Int}:PCall prog 69 [.pt (bA f beh ahd c),I b] (B (nF f.blocks.length b)):=by
 have _:=fY;refine bg WZ (.cons (z8 hc) (.cons (.s _) .nil)) (Tr.s _) ?_;rw[akF];refine ws (SS ?_);refine er (aJ ?_);refine aP ?_;refine af (av (d:=.s (.bool _)) rfl ?_);simp[nF]
end
section
variable{f:aG}{beh ahd:List (List Int)}{c:D}(hc:Tr c)(fY:c.one=true)
include hc fY
end
end Go.Proofs.Tryz.K
namespace Go.Argus
def yY(l:List bE):List (List D):=(range l.length).map fun i=>[I ((l.length - 1 - i:Nat):Int),.agg (bu (l.getD (l.length - 1 - i) eB))]
@[simp] theorem aa2 (l : List bE) : (yY l).length = l.length := by simp [yY]
theorem aa3{l:List bE}{i:Nat}{x:bE}(hi:i<l.length)(hx:l[l.length - 1 - i]? =some x):(yY l)[i]? =some [I ((l.length - 1 - i:Nat):Int),.agg (bu x)]:=by
 unfold yY;rw[List.getElem?_map,List.getElem?_range hi];simp[bl,hx]
end Go.Argus
namespace Go.Proofs.Tryz.K
section
variable{f:aG}{beh ahd:List (List Int)}{c:D}(hc:Tr c)(fY:c.one=true)
include hc fY
end
theorem akG{l:List bE}(hlen:l.length<=100000):SeqA prog 176 [] [.pt [iF l]] (yY l):=by
 refine Le mixed U9 kr fun L J Stop m nx hI X h0=>?_;rw[agJ];refine az (aP ?_)
 refine af (cQ (α:=Nat×Mem×Nat) (fun k=>⟨aD [(0,.fn (.yield L) [] []),(1,.pt [iF l]),(3,I ((l.length:Int) - 1 - k.1))],k.2.1,k.2.2⟩)
  (fun k=>k.1<=l.length/\J k.1 k.2.1 k.2.2) (fun k=>l.length - k.1) (0,m,nx) (ap ⟨rfl,rfl,congrArg (fun z:Int=>I z) (show(l.length:Int) - 1=(l.length:Int) - 1 - ((0:Nat):Int) by omega),trivial⟩) ⟨oG,h0⟩ ?_)
 rintro⟨k,m,nx⟩ ⟨hk,C⟩;dsimp only at hk C ⊢;refine ag ?_;refine af ⟨_,rfl,fun h=>?_,fun h=>?_⟩
 .have ao:k<l.length:=by have h:(0:Int)<=(l.length:Int) - 1 - k:=by simpa using h
                         omega
  have hx:l[l.length - 1 - k]? =some l[l.length - 1 - k]:=aM oG;generalize l[l.length - 1 - k]=x at hx;have hy:=aa3 ao hx;have M:(l.length:Int) - 1 - k=((l.length - 1 - k:Nat):Int):=by omega
  rw[M];refine ws (bB ?_);refine MB rfl rfl cv ⟨rfl,k,hy,C,fun d m' nx' hp=>?_⟩;rcases hp with⟨rfl,hp⟩|⟨rfl,hp⟩
  .refine SS ?_;refine af (aw rfl (fun h=>oH) fun h=>bS (aq ?_));exact af (aK (k+1,m',nx') (ap ⟨rfl,rfl,congrArg (fun z:Int=>I z) (show((l.length - 1 - k:Nat):Int) - 1=(l.length:Int) - 1 - ((k+1:Nat):Int) by omega),trivial⟩) ⟨by simp only;omega,hp⟩ (by simp only;omega))
  .refine SS ?_;exact af (aw rfl (fun h=>aY (br (wE (.inr hp)))) fun h=>oH)
 .have a9:¬ k<l.length:=by
   intro ao;simp at h;omega
  have:k=l.length:=by omega
  subst this;exact qN (.inl (by rw[aa2];exact C))
end Go.Proofs.Tryz.K
end
