/- Part 3. -/
import Derived.Test.YtonoegleildfnaaGreatProofs2
import Derived.Below
import Derived.Carry
import Derived.ChangeOld
import Derived.OpenShut
set_option linter.all false
set_option maxHeartbeats 4000000
set_option maxRecDepth 10000
open List(range)
open List(replicate)
namespace Go.Abs
open Go.Argus
class V{α:Type}(x:α)(y:outParam α):Prop where h:x=y
section
variable{P:Program}{Y:YSpec}{ops:Array Oper}{dr:Bool}{cf:List (Nat×Nat)}{Q:Exit->St->Prop}{r:List Oper}{v:Env}{m:Mem}{n:Nat}{q:Tra}{x:Oper}{s:St}{e:List Nat×List Nat}
variable{t:Option Nat}{u:Nat}{ty:TypeId}{pos:String}{after:Array Edge}{j:Nat}{b c:Bool}{op:Op}
def SO(P:Program)(Y:YSpec)(ops:Array Oper)(dr:Bool)(o:Oper)(v:Env)(m:Mem)(n:Nat)(s:St)(e:List Nat×List Nat):Prop:=
 ∀ cf Q r q,AOps P Y ops dr cf Q r s (q++[e])->AOps P Y ops dr cf Q (o::r) ⟨v,m,n⟩ q
theorem ak{l:List Operand}(h:ja v l:=by repeat' (first|exact trivial|exact hc|exact rfl|refine And.intro ?_ ?_)):ja v l:=h
theorem z(K:∀ (x:D) rd,AOps P Y ops dr cf Q r (St.put ⟨v,m,n⟩ t (.opt false x)) (q++[(rd,[])]))(hj:(ops[j]?).bind (·.dst)=some u:=by exact rfl)(hg:guardC (v u) b=some false:=by exact rfl):
 AOps P Y ops dr cf Q (⟨t,op,ty,pos,after,some (j,b)⟩::r) ⟨v,m,n⟩ q:=Ut hj hg K
theorem cl{f:FuncId}{gs:List D}{d:D}{t:Nat}(h:PCall P f gs d)(K:AOps P Y ops dr cf Q r ⟨up v t d,m,n⟩ (q++[([],[])]))(hc:callD (rho v op) op=some (f,gs):=by exact rfl)(ha:ja v op.operands.toList:=by exact ak):
 AOps P Y ops dr cf Q (⟨some t,op,ty,pos,after,none⟩::r) ⟨v,m,n⟩ q:=afR h hc ha K
theorem gc{f:FuncId}{gs:List D}{d:D}{t:Nat}(h:PCall P f gs d)(K:AOps P Y ops dr cf Q r ⟨up v t (.opt c d),m,n⟩ (q++[([],[])]))(hj:(ops[j]?).bind (·.dst)=some u:=by exact rfl)(hg:guardC (v u) b=some c:=by exact rfl)(hl:callD (rho v op) op=some (f,gs):=by exact rfl)(ha:c=true->ja v op.operands.toList:=by exact fun hc=>ak):
 AOps P Y ops dr cf Q (⟨some t,op,ty,pos,after,some (j,b)⟩::r) ⟨v,m,n⟩ q:=B2 hj hg hl (fun hc=>⟨ha hc,h⟩) K
theorem X3(K:AOps P Y ops dr cf Q r s (q++[e]))(h:SO P Y ops dr x v m n s e:=by intro _ _ _ _ k;exact aI (te (v:=.s (.pointer none)) rfl rfl) ak (by first|decide|simp) k):AOps P Y ops dr cf Q (x::r) ⟨v,m,n⟩ q:=h _ _ _ _ K
theorem X4(K:AOps P Y ops dr cf Q r s (q++[e]))(h:SO P Y ops dr x v m n s e:=by intro _ _ _ _ k;exact aI (te (v:=.pt _) rfl rfl) ak (by first|decide|simp) k):AOps P Y ops dr cf Q (x::r) ⟨v,m,n⟩ q:=h _ _ _ _ K
theorem ak4(K:AOps P Y ops dr cf Q r s (q++[e]))(h:SO P Y ops dr x v m n s e:=by intro _ _ _ _ k;exact bt rfl rfl (LN rfl rfl) (fun hc=>⟨ak,rfl⟩) k):AOps P Y ops dr cf Q (x::r) ⟨v,m,n⟩ q:=h _ _ _ _ K
theorem Wb(K:AOps P Y ops dr cf Q r s (q++[e]))(h:SO P Y ops dr x v m n s e:=by intro _ _ _ _ k;exact aI (Tv rfl rfl xd) ak rfl k):AOps P Y ops dr cf Q (x::r) ⟨v,m,n⟩ q:=h _ _ _ _ K
theorem Wg(K:AOps P Y ops dr cf Q r s (q++[e]))(h:SO P Y ops dr x v m n s e:=by intro _ _ _ _ k;exact aI (oJ (v:=.pt _) rfl) ak trivial k):AOps P Y ops dr cf Q (x::r) ⟨v,m,n⟩ q:=h _ _ _ _ K
theorem V8(K:AOps P Y ops dr cf Q r s (q++[e]))(h:SO P Y ops dr x v m n s e:=by intro _ _ _ _ k;exact aI (afk rfl rfl V6) ak ⟨rfl,by omega⟩ k):AOps P Y ops dr cf Q (x::r) ⟨v,m,n⟩ q:=h _ _ _ _ K
theorem WA(K:AOps P Y ops dr cf Q r s (q++[e]))(h:SO P Y ops dr x v m n s e:=by intro _ _ _ _ k;exact bt rfl rfl (uL rfl ax V.h) (fun hc=>⟨ak,(sy V.h)⟩) k):AOps P Y ops dr cf Q (x::r) ⟨v,m,n⟩ q:=h _ _ _ _ K
theorem aoS(K:AOps P Y ops dr cf Q r s (q++[e]))(h:SO P Y ops dr x v m n s e:=by intro _ _ _ _ k;exact aI (ep rfl ax V.h V.h (nV (by first|rfl|exact bE rfl|(simp;done)|(simp;omega)|omega))) ak (ez V.h V.h (by first|rfl|exact bE rfl|(simp;done)|(simp;omega)|omega)) k):AOps P Y ops dr cf Q (x::r) ⟨v,m,n⟩ q:=h _ _ _ _ K
theorem WZ(K:AOps P Y ops dr cf Q r s (q++[e]))(h:SO P Y ops dr x v m n s e:=by intro _ _ _ _ k;exact bt rfl rfl (yJ rfl rfl V.h V.h (GH) (by assumption)) (fun hc=>⟨ak,(yK V.h (GH) (by assumption))⟩) k):AOps P Y ops dr cf Q (x::r) ⟨v,m,n⟩ q:=h _ _ _ _ K
theorem aoT(K:AOps P Y ops dr cf Q r s (q++[e]))(h:SO P Y ops dr x v m n s e:=by intro _ _ _ _ k;exact bt rfl rfl (mN rfl rfl di V.h V.h) (fun hc=>⟨ak,⟨V.h,by omega⟩⟩) k):AOps P Y ops dr cf Q (x::r) ⟨v,m,n⟩ q:=h _ _ _ _ K
theorem aoU(K:AOps P Y ops dr cf Q r s (q++[e]))(h:SO P Y ops dr x v m n s e:=by intro _ _ _ _ k;exact bt rfl rfl (gQ rfl di kd V.h) (fun hc=>⟨ak,(gR V.h V.h kd)⟩) k):AOps P Y ops dr cf Q (x::r) ⟨v,m,n⟩ q:=h _ _ _ _ K
theorem aoV(K:AOps P Y ops dr cf Q r s (q++[e]))(h:SO P Y ops dr x v m n s e:=by intro _ _ _ _ k;exact bt rfl rfl (mN rfl rfl gV V.h V.h) (fun hc=>⟨ak,⟨V.h,by omega⟩⟩) k):AOps P Y ops dr cf Q (x::r) ⟨v,m,n⟩ q:=h _ _ _ _ K
theorem aoW(K:AOps P Y ops dr cf Q r s (q++[e]))(h:SO P Y ops dr x v m n s e:=by intro _ _ _ _ k;exact bt rfl rfl (gQ rfl gV j3 V.h) (fun hc=>⟨ak,(gR V.h V.h j3)⟩) k):AOps P Y ops dr cf Q (x::r) ⟨v,m,n⟩ q:=h _ _ _ _ K
theorem V9(K:AOps P Y ops dr cf Q r s (q++[e]))(h:SO P Y ops dr x v m n s e:=by intro _ _ _ _ k;exact aI (afl rfl rfl V7) ak ⟨rfl,by omega⟩ k):AOps P Y ops dr cf Q (x::r) ⟨v,m,n⟩ q:=h _ _ _ _ K
theorem WN(K:AOps P Y ops dr cf Q r s (q++[e]))(h:SO P Y ops dr x v m n s e:=by intro _ _ _ _ k;exact aI (aeF rfl rfl) ak V.h k):AOps P Y ops dr cf Q (x::r) ⟨v,m,n⟩ q:=h _ _ _ _ K
theorem Wp(K:AOps P Y ops dr cf Q r s (q++[e]))(h:SO P Y ops dr x v m n s e:=by intro _ _ _ _ k;exact iB (DC V.h V.h V.h rfl rfl) ak ⟨rfl,by decide,V.h,by decide⟩ k):AOps P Y ops dr cf Q (x::r) ⟨v,m,n⟩ q:=h _ _ _ _ K
theorem WX(K:AOps P Y ops dr cf Q r s (q++[e]))(h:SO P Y ops dr x v m n s e:=by intro _ _ _ _ k;exact aI (ae3 rfl rfl V.h V.h (by assumption) (by assumption)) ak (ae4 V.h (by assumption) (by assumption) oG) k):AOps P Y ops dr cf Q (x::r) ⟨v,m,n⟩ q:=h _ _ _ _ K
theorem WY(K:AOps P Y ops dr cf Q r s (q++[e]))(h:SO P Y ops dr x v m n s e:=by intro _ _ _ _ k;exact aI (mK rfl V.h V.h (acB (by assumption))) ak (mL V.h V.h (by simp;omega)) k):AOps P Y ops dr cf Q (x::r) ⟨v,m,n⟩ q:=h _ _ _ _ K
theorem aoX(K:AOps P Y ops dr cf Q r s (q++[e]))(h:SO P Y ops dr x v m n s e:=by intro _ _ _ _ k;exact cA (jk rfl rfl rfl (aew (by first|rfl|exact bE rfl|(simp;done)|(simp;omega)|omega) (by first|rfl|exact bE rfl|(simp;done)|(simp;omega)|omega))) ak (adm (by first|rfl|exact bE rfl|(simp;done)|(simp;omega)|omega) (by first|rfl|exact bE rfl|(simp;done)|(simp;omega)|omega) (by first|rfl|exact me _|(simp[me];done)|exact Kl)) k):AOps P Y ops dr cf Q (x::r) ⟨v,m,n⟩ q:=h _ _ _ _ K
theorem aoY(K:AOps P Y ops dr cf Q r s (q++[e]))(h:SO P Y ops dr x v m n s e:=by intro _ _ _ _ k;exact cA (jk rfl rfl ax (aew (by first|rfl|exact bE rfl|(simp;done)|(simp;omega)|omega) (by first|rfl|exact bE rfl|(simp;done)|(simp;omega)|omega))) ak (adm (by first|rfl|exact bE rfl|(simp;done)|(simp;omega)|omega) (by first|rfl|exact bE rfl|(simp;done)|(simp;omega)|omega) (by first|rfl|exact me _|(simp[me];done)|exact Kl)) k):AOps P Y ops dr cf Q (x::r) ⟨v,m,n⟩ q:=h _ _ _ _ K
theorem Wo(K:AOps P Y ops dr cf Q r s (q++[e]))(h:SO P Y ops dr x v m n s e:=by intro _ _ _ _ k;exact bt rfl rfl (kL (v:=.z) rfl) (fun hc=>⟨ak,trivial⟩) k):AOps P Y ops dr cf Q (x::r) ⟨v,m,n⟩ q:=h _ _ _ _ K
theorem aoZ(K:AOps P Y ops dr cf Q r s (q++[e]))(h:SO P Y ops dr x v m n s e:=by intro _ _ _ _ k;exact aI (yJ rfl rfl V.h V.h (abN) (by assumption)) ak (yK V.h (abN) (by assumption)) k):AOps P Y ops dr cf Q (x::r) ⟨v,m,n⟩ q:=h _ _ _ _ K
theorem WO(K:AOps P Y ops dr cf Q r s (q++[e]))(h:SO P Y ops dr x v m n s e:=by intro _ _ _ _ k;exact aI (LL rfl rfl) ak rfl k):AOps P Y ops dr cf Q (x::r) ⟨v,m,n⟩ q:=h _ _ _ _ K
theorem W5(K:AOps P Y ops dr cf Q r s (q++[e]))(h:SO P Y ops dr x v m n s e:=by intro _ _ _ _ k;exact aI (G3 (cs:=bq _ _ _) V.h V.h V.h rfl rfl) ak ⟨V.h,V.h⟩ k):AOps P Y ops dr cf Q (x::r) ⟨v,m,n⟩ q:=h _ _ _ _ K
theorem Wr(K:AOps P Y ops dr cf Q r s (q++[e]))(h:SO P Y ops dr x v m n s e:=by intro _ _ _ _ k;exact cA (fI (d:=.s (.int _ _)) (cs':=[_]) rfl rfl rfl rfl rfl) ak (du V.h V.h (by first|(simp;done)|exact⟨rfl,bE rfl⟩|(simp;omega)) rfl) k):AOps P Y ops dr cf Q (x::r) ⟨v,m,n⟩ q:=h _ _ _ _ K
theorem Xr(K:AOps P Y ops dr cf Q r s (q++[e]))(h:SO P Y ops dr x v m n s e:=by intro _ _ _ _ k;exact cA (jk (cs':=bh _) rfl rfl rfl rfl) ak (du V.h V.h (by first|(simp;done)|exact⟨rfl,bE rfl⟩|(simp;omega)) (by rfl)) k):AOps P Y ops dr cf Q (x::r) ⟨v,m,n⟩ q:=h _ _ _ _ K
theorem Wa(K:AOps P Y ops dr cf Q r s (q++[e]))(h:SO P Y ops dr x v m n s e:=by intro _ _ _ _ k;exact aI (afE rfl rfl) ak rfl k):AOps P Y ops dr cf Q (x::r) ⟨v,m,n⟩ q:=h _ _ _ _ K
theorem ajQ(K:AOps P Y ops dr cf Q r s (q++[e]))(h:SO P Y ops dr x v m n s e:=by intro _ _ _ _ k;exact aI (afF rfl rfl) ak oG k):AOps P Y ops dr cf Q (x::r) ⟨v,m,n⟩ q:=h _ _ _ _ K
theorem ajR(K:AOps P Y ops dr cf Q r s (q++[e]))(h:SO P Y ops dr x v m n s e:=by intro _ _ _ _ k;exact aI (ai6 rfl rfl) ak rfl k):AOps P Y ops dr cf Q (x::r) ⟨v,m,n⟩ q:=h _ _ _ _ K
theorem Wd(K:AOps P Y ops dr cf Q r s (q++[e]))(h:SO P Y ops dr x v m n s e:=by intro _ _ _ _ k;exact aI (gQ rfl (up_same _ _ _) rfl V.h) ak (gR V.h V.h rfl) k):AOps P Y ops dr cf Q (x::r) ⟨v,m,n⟩ q:=h _ _ _ _ K
theorem Ws(K:AOps P Y ops dr cf Q r s (q++[e]))(h:SO P Y ops dr x v m n s e:=by intro _ _ _ _ k;exact cA (fI (d:=.rs _ _ _) (cs':=[_]) rfl rfl (aC oG (aC oG (aC oG ax))) rfl rfl) ak (du V.h V.h (by first|(simp;done)|exact⟨rfl,bE rfl⟩|(simp;omega)) rfl) k):AOps P Y ops dr cf Q (x::r) ⟨v,m,n⟩ q:=h _ _ _ _ K
theorem W9(K:AOps P Y ops dr cf Q r s (q++[e]))(h:SO P Y ops dr x v m n s e:=by intro _ _ _ _ k;exact cA (fI (d:=.rs _ _ _) (cs':=[_]) rfl rfl rfl rfl rfl) ak (du V.h V.h (by first|(simp;done)|exact⟨rfl,bE rfl⟩|(simp;omega)) rfl) k):AOps P Y ops dr cf Q (x::r) ⟨v,m,n⟩ q:=h _ _ _ _ K
theorem aki(K:AOps P Y ops dr cf Q r s (q++[e]))(h:SO P Y ops dr x v m n s e:=by intro _ _ _ _ k;exact cA (fI (d:=.s (.pointer none)) (cs':=[_]) rfl rfl rfl rfl rfl) ak (du V.h V.h (by first|(simp;done)|exact⟨rfl,bE rfl⟩|(simp;omega)) rfl) k):AOps P Y ops dr cf Q (x::r) ⟨v,m,n⟩ q:=h _ _ _ _ K
theorem akm(K:AOps P Y ops dr cf Q r s (q++[e]))(h:SO P Y ops dr x v m n s e:=by intro _ _ _ _ k;exact cA (fI (d:=.pt _) (cs':=[_]) rfl rfl rfl rfl rfl) ak (du V.h V.h (by first|(simp;done)|exact⟨rfl,bE rfl⟩|(simp;omega)) rfl) k):AOps P Y ops dr cf Q (x::r) ⟨v,m,n⟩ q:=h _ _ _ _ K
theorem ao0(K:AOps P Y ops dr cf Q r s (q++[e]))(h:SO P Y ops dr x v m n s e:=by intro _ _ _ _ k;exact aI (uL rfl (aC oG (aC oG (aC oG ax))) V.h) ak (sy V.h) k):AOps P Y ops dr cf Q (x::r) ⟨v,m,n⟩ q:=h _ _ _ _ K
theorem ald(K:AOps P Y ops dr cf Q r s (q++[e]))(h:SO P Y ops dr x v m n s e:=by intro _ _ _ _ k;exact bt rfl rfl (S' rfl rfl) (fun hc=>⟨ak,V.h⟩) k):AOps P Y ops dr cf Q (x::r) ⟨v,m,n⟩ q:=h _ _ _ _ K
variable{rf:Bool}{W:Exit->St->Prop}{o:Array Oper}{B:Code}{i:Nat}{k:St}
theorem ws[eC Y](h:AOps P Y o false [] (gM fun k=>AW P Y rf B W k) o.toList k []):AW P Y rf (.seq (.region i o false) B) W k:=aj h
theorem er[eC Y](h:AOps P Y o false [] (gM fun k=>AW P Y rf B W k) o.toList k []):AOps P Y ops dr [] (gM fun k=>AW P Y rf (.seq (.region i o false) B) W k) [] k q:=af (aj h)
end
end Go.Abs
theorem eH{p:Prop}(h:p:=by repeat' (first|exact trivial|exact rfl|refine And.intro ?_ ?_)):p:=h
namespace Go.Proofs.Tryz.K
open Go.Abs
theorem kR{α:Sort _}{a b:α}(h:a=b:=by kernel_rfl):a=b:=h
instance:V (prog.cellsOf 1) 1:=⟨kR⟩
instance:V (aggP prog 1) false:=⟨a1⟩
instance:V (tyOk prog 1) true:=⟨kR⟩
instance:V (prog.bytesOf 1) 8:=⟨b1⟩
instance:V (prog.cellsOf 2) 1:=⟨kR⟩
instance:V (prog.bytesOf 2) 8:=⟨b2⟩
instance:V (aggP prog 2) false:=⟨a2⟩
instance:V (tyOk prog 2) true:=⟨kR⟩
instance:V (prog.cellsOf 3) 1:=⟨c3⟩
instance:V (prog.bytesOf 3) 8:=⟨b3⟩
instance:V (aggP prog 3) false:=⟨a3⟩
instance:V (tyOk prog 3) true:=⟨kR⟩
instance:V (zeroP prog 3) [.s (.int .i64 0)]:=⟨kR⟩
instance:V (prog.cellsOf 4) 1:=⟨c4⟩
instance:V (prog.bytesOf 4) 1:=⟨b4⟩
instance:V (aggP prog 4) false:=⟨a4⟩
instance:V (tyOk prog 4) true:=⟨kR⟩
instance:V (zeroP prog 4) [.s (.bool false)]:=⟨kR⟩
instance:V (boT prog 4) true:=⟨kR⟩
instance:V (prog.cellsOf 5) 1:=⟨c5⟩
instance:V (prog.bytesOf 5) 1:=⟨b5⟩
instance:V (aggP prog 5) false:=⟨a5⟩
instance:V (tyOk prog 5) true:=⟨kR⟩
instance:V (zeroP prog 5) [.s (.int .u8 0)]:=⟨kR⟩
instance:V (prog.bytesOf 6) 1:=⟨b6⟩
instance:V (aggP prog 6) false:=⟨a6⟩
instance:V (prog.cellsOf 9) 1:=⟨kR⟩
instance:V (aggP prog 9) false:=⟨kR⟩
instance:V (tyOk prog 9) true:=⟨kR⟩
instance:V (stT prog 9) true:=⟨kR⟩
instance:V (elemP prog 15) 275:=⟨Gd⟩
instance:V (elemP prog 16) 278:=⟨Ge⟩
instance:V (elemP prog 17) 287:=⟨Gc⟩
instance:V (prog.cellsOf 22) 1:=⟨kR⟩
instance:V (aggP prog 22) false:=⟨kR⟩
instance:V (tyOk prog 22) true:=⟨kR⟩
instance:V (elemP prog 22) 5:=⟨Yl⟩
instance:V (slT prog 22) true:=⟨W3⟩
instance:V (prog.cellsOf 23) 1:=⟨kR⟩
instance:V (aggP prog 23) false:=⟨kR⟩
instance:V (tyOk prog 23) true:=⟨kR⟩
instance:V (elemP prog 23) 9:=⟨kR⟩
instance:V (slT prog 23) true:=⟨kR⟩
instance:V (prog.cellsOf 24) 1:=⟨kR⟩
instance:V (aggP prog 24) false:=⟨kR⟩
instance:V (tyOk prog 24) true:=⟨kR⟩
instance:V (elemP prog 24) 72:=⟨kR⟩
instance:V (slT prog 24) true:=⟨kR⟩
instance:V (prog.cellsOf 26) 8:=⟨kR⟩
instance:V (aggP prog 26) true:=⟨kR⟩
instance:V (tyOk prog 26) true:=⟨kR⟩
instance:V (zeroP prog 26) [.s (.string "".toUTF8),.s (.bool false),.s (.int .i64 0),.s (.int .u8 0),.z,.z,.z,.z]:=⟨kR⟩
instance:V (fieldP prog 26 0) (some (0,9)):=⟨kR⟩
instance:V (fieldP prog 26 1) (some (1,4)):=⟨kR⟩
instance:V (fieldP prog 26 2) (some (2,3)):=⟨kR⟩
instance:V (fieldP prog 26 3) (some (3,5)):=⟨kR⟩
instance:V (fieldP prog 26 4) (some (4,22)):=⟨kR⟩
instance:V (fieldP prog 26 5) (some (5,22)):=⟨kR⟩
instance:V (fieldP prog 26 6) (some (6,23)):=⟨kR⟩
instance:V (fieldP prog 26 7) (some (7,24)):=⟨kR⟩
instance:V (prog.cellsOf 27) 1:=⟨Bh⟩
instance:V (prog.bytesOf 27) 24:=⟨X2⟩
instance:V (aggP prog 27) false:=⟨kR⟩
instance:V (tyOk prog 27) true:=⟨kR⟩
instance:V (zeroP prog 27) [.z]:=⟨kR⟩
instance:V (elemP prog 27) 3:=⟨vV⟩
instance:V (slT prog 27) true:=⟨vp⟩
instance:V (prog.cellsOf 28) 1:=⟨kR⟩
instance:V (aggP prog 28) false:=⟨kR⟩
instance:V (tyOk prog 28) true:=⟨kR⟩
instance:V (elemP prog 28) 27:=⟨kR⟩
instance:V (slT prog 28) true:=⟨kR⟩
instance:V (prog.cellsOf 30) 3:=⟨Oh⟩
instance:V (aggP prog 30) true:=⟨Og⟩
instance:V (tyOk prog 30) true:=⟨t30⟩
instance:V (zeroP prog 30) [.z,.z,.z]:=⟨kR⟩
instance:V (fieldP prog 30 0) (some (0,27)):=⟨kR⟩
instance:V (fieldP prog 30 1) (some (1,28)):=⟨kR⟩
instance:V (fieldP prog 30 2) (some (2,28)):=⟨kR⟩
instance:V (prog.cellsOf 52) 1:=⟨YO⟩
instance:V (prog.bytesOf 52) 24:=⟨YN⟩
instance:V (aggP prog 52) false:=⟨kR⟩
instance:V (tyOk prog 52) true:=⟨kR⟩
instance:V (zeroP prog 52) [.z]:=⟨kR⟩
instance:V (elemP prog 52) 4:=⟨kR⟩
instance:V (slT prog 52) true:=⟨kR⟩
instance:V (prog.cellsOf 66) 6:=⟨kR⟩
instance:V (aggP prog 66) true:=⟨kR⟩
instance:V (tyOk prog 66) true:=⟨kR⟩
instance:V (zeroP prog 66) [.s (.int .u8 0),.s (.int .i64 0),.s (.int .i64 0),.s (.int .i64 0),.s (.int .i64 0),.z]:=⟨kR⟩
instance:V (fieldP prog 66 0) (some (0,5)):=⟨kR⟩
instance:V (fieldP prog 66 1) (some (1,3)):=⟨kR⟩
instance:V (fieldP prog 66 2) (some (2,3)):=⟨kR⟩
instance:V (fieldP prog 66 3) (some (3,3)):=⟨kR⟩
instance:V (fieldP prog 66 4) (some (4,3)):=⟨kR⟩
instance:V (fieldP prog 66 5) (some (5,27)):=⟨kR⟩
instance:V (prog.cellsOf 67) 1:=⟨kR⟩
instance:V (aggP prog 67) false:=⟨kR⟩
instance:V (tyOk prog 67) true:=⟨kR⟩
instance:V (elemP prog 67) 199:=⟨kR⟩
instance:V (slT prog 67) true:=⟨kR⟩
instance:V (prog.cellsOf 69) 15:=⟨kR⟩
instance:V (aggP prog 69) true:=⟨kR⟩
instance:V (tyOk prog 69) true:=⟨kR⟩
instance:V (zeroP prog 69) [.s (.int .u8 0),.s (.int .i64 0),.s (.int .i64 0),.s (.int .i64 0),.s (.int .i64 0),.s (.string "".toUTF8),.s (.int .u8 0),.s (.int .i64 0),.s (.int .i64 0),.s (.int .i64 0),.s (.int .i64 0),.z,.z,.z,.s (.int .i64 0)]:=⟨kR⟩
instance:V (fieldP prog 69 0) (some (0,5)):=⟨kR⟩
instance:V (fieldP prog 69 1) (some (1,3)):=⟨kR⟩
instance:V (fieldP prog 69 2) (some (2,3)):=⟨kR⟩
instance:V (fieldP prog 69 3) (some (3,3)):=⟨kR⟩
instance:V (fieldP prog 69 4) (some (4,3)):=⟨kR⟩
instance:V (fieldP prog 69 5) (some (5,9)):=⟨kR⟩
instance:V (fieldP prog 69 6) (some (6,66)):=⟨kR⟩
instance:V (fieldP prog 69 7) (some (12,27)):=⟨kR⟩
instance:V (fieldP prog 69 8) (some (13,67)):=⟨kR⟩
instance:V (fieldP prog 69 9) (some (14,3)):=⟨kR⟩
instance:V (prog.cellsOf 70) 1:=⟨kR⟩
instance:V (aggP prog 70) false:=⟨kR⟩
instance:V (tyOk prog 70) true:=⟨kR⟩
instance:V (elemP prog 70) 66:=⟨kR⟩
instance:V (slT prog 70) true:=⟨kR⟩
instance:V (prog.cellsOf 72) 16:=⟨kR⟩
instance:V (aggP prog 72) true:=⟨kR⟩
instance:V (tyOk prog 72) true:=⟨kR⟩
instance:V (zeroP prog 72) [.z,.s (.int .u8 0),.s (.int .i64 0),.s (.int .i64 0),.s (.int .i64 0),.s (.int .i64 0),.s (.string "".toUTF8),.s (.int .u8 0),.s (.int .i64 0),.s (.int .i64 0),.s (.int .i64 0),.s (.int .i64 0),.z,.z,.z,.s (.int .i64 0)]:=⟨kR⟩
instance:V (fieldP prog 72 0) (some (0,70)):=⟨kR⟩
instance:V (fieldP prog 72 1) (some (1,69)):=⟨kR⟩
instance:V (prog.cellsOf 79) 1:=⟨kR⟩
instance:V (aggP prog 79) false:=⟨kR⟩
instance:V (tyOk prog 79) true:=⟨kR⟩
instance:V (zeroP prog 79) [.s (.pointer none)]:=⟨kR⟩
instance:V (tyOk prog 89) true:=⟨kR⟩
instance:V (zeroP prog 89) [.s (.string "".toUTF8),.s (.bool false),.s (.int .i64 0),.s (.int .u8 0),.z,.z,.z,.z,.z,.z,.z]:=⟨kR⟩
instance:V (fieldP prog 89 0) (some (0,26)):=⟨kR⟩
instance:V (fieldP prog 89 1) (some (8,28)):=⟨kR⟩
instance:V (fieldP prog 89 2) (some (9,28)):=⟨kR⟩
instance:V (fieldP prog 89 3) (some (10,52)):=⟨kR⟩
instance:V (prog.cellsOf 98) 1:=⟨kR⟩
instance:V (aggP prog 98) false:=⟨kR⟩
instance:V (tyOk prog 98) true:=⟨kR⟩
instance:V (elemP prog 102) 52:=⟨kR⟩
instance:V (slT prog 102) true:=⟨kR⟩
instance:V (prog.cellsOf 128) 1:=⟨kR⟩
instance:V (aggP prog 128) false:=⟨kR⟩
instance:V (tyOk prog 128) true:=⟨kR⟩
instance:V (zeroP prog 128) [.s .nilFunc]:=⟨kR⟩
instance:V (prog.cellsOf 131) 1:=⟨kR⟩
instance:V (aggP prog 131) false:=⟨kR⟩
instance:V (tyOk prog 131) true:=⟨kR⟩
instance:V (prog.cellsOf 133) 10:=⟨Xq⟩
instance:V (aggP prog 133) true:=⟨Xp⟩
instance:V (tyOk prog 133) true:=⟨t133⟩
instance:V (zeroP prog 133) [.s (.string "".toUTF8),.s (.bool false),.s (.int .i64 0),.s (.int .u8 0),.z,.z,.z,.z,.s (.map none),.s (.map none)]:=⟨kR⟩
instance:V (fieldP prog 133 0) (some (0,26)):=⟨kR⟩
instance:V (fieldP prog 133 1) (some (8,131)):=⟨kR⟩
instance:V (fieldP prog 133 2) (some (9,131)):=⟨kR⟩
instance:V (elemP prog 155) 158:=⟨kR⟩
instance:V (slT prog 155) true:=⟨kR⟩
instance:V (prog.cellsOf 158) 2:=⟨nj⟩
instance:V (prog.bytesOf 158) 32:=⟨Xs⟩
instance:V (aggP prog 158) true:=⟨uf⟩
instance:V (tyOk prog 158) true:=⟨t158⟩
instance:V (zeroP prog 158) [.s (.bool false),.z]:=⟨kR⟩
instance:V (fieldP prog 158 0) (some (0,4)):=⟨kR⟩
instance:V (fieldP prog 158 1) (some (1,52)):=⟨kR⟩
instance:V (prog.cellsOf 165) 1:=⟨kR⟩
instance:V (aggP prog 165) false:=⟨kR⟩
instance:V (tyOk prog 165) true:=⟨kR⟩
instance:V (zeroP prog 165) [.s (.map none)]:=⟨kR⟩
instance:V (prog.cellsOf 166) 1:=⟨kR⟩
instance:V (aggP prog 166) false:=⟨kR⟩
instance:V (tyOk prog 166) true:=⟨kR⟩
instance:V (zeroP prog 166) [.s (.map none)]:=⟨kR⟩
instance:V (prog.cellsOf 168) 2:=⟨zb⟩
instance:V (prog.bytesOf 168) 16:=⟨Wq⟩
instance:V (aggP prog 168) true:=⟨Wz⟩
instance:V (tyOk prog 168) true:=⟨t168⟩
instance:V (zeroP prog 168) [.s (.int .i64 0),.s (.bool false)]:=⟨kR⟩
instance:V (fieldP prog 168 0) (some (0,3)):=⟨kR⟩
instance:V (fieldP prog 168 1) (some (1,4)):=⟨kR⟩
instance:V (prog.cellsOf 169) 1:=⟨kR⟩
instance:V (aggP prog 169) false:=⟨kR⟩
instance:V (tyOk prog 169) true:=⟨kR⟩
instance:V (zeroP prog 169) [.z]:=⟨kR⟩
instance:V (elemP prog 169) 168:=⟨Ij⟩
instance:V (slT prog 169) true:=⟨HW⟩
instance:V (tyOk prog 172) true:=⟨kR⟩
instance:V (zeroP prog 172) [.s (.int .i64 0),.s (.bool false),.s (.int .i64 0),.s (.bool false)]:=⟨kR⟩
instance:V (tyOk prog 174) true:=⟨kR⟩
instance:V (zeroP prog 174) [.z,.z]:=⟨kR⟩
instance:V (elemP prog 174) 27:=⟨kR⟩
instance:V (arT prog 174) true:=⟨kR⟩
instance:V (lenP prog 174) 2:=⟨kR⟩
instance:V (prog.cellsOf 199) 2:=⟨kR⟩
instance:V (aggP prog 199) true:=⟨kR⟩
instance:V (tyOk prog 199) true:=⟨kR⟩
instance:V (zeroP prog 199) [.s (.string "".toUTF8),.s (.int .i64 0)]:=⟨kR⟩
instance:V (fieldP prog 199 0) (some (0,9)):=⟨kR⟩
instance:V (fieldP prog 199 1) (some (1,3)):=⟨kR⟩
instance:V (prog.cellsOf 205) 6:=⟨kR⟩
instance:V (aggP prog 205) true:=⟨Nc⟩
instance:V (tyOk prog 205) true:=⟨kR⟩
instance:V (zeroP prog 205) [.s (.int .i64 0),.s (.int .i64 0),.s (.int .i64 0),.s (.int .i64 0),.s (.int .i64 0),.s (.int .i64 0)]:=⟨Nd⟩
instance:V (fieldP prog 205 0) (some (0,3)):=⟨kR⟩
instance:V (fieldP prog 205 1) (some (1,3)):=⟨kR⟩
instance:V (fieldP prog 205 2) (some (2,3)):=⟨kR⟩
instance:V (fieldP prog 205 3) (some (3,3)):=⟨kR⟩
instance:V (fieldP prog 205 4) (some (4,3)):=⟨kR⟩
instance:V (fieldP prog 205 5) (some (5,3)):=⟨kR⟩
instance:V (prog.cellsOf 208) 9:=⟨kR⟩
instance:V (aggP prog 208) true:=⟨kR⟩
instance:V (tyOk prog 208) true:=⟨kR⟩
instance:V (zeroP prog 208) [.s (.string "".toUTF8),.s (.bool false),.s (.int .i64 0),.s (.int .u8 0),.z,.z,.z,.z,.z]:=⟨kR⟩
instance:V (fieldP prog 208 0) (some (0,26)):=⟨kR⟩
instance:V (fieldP prog 208 1) (some (8,28)):=⟨kR⟩
instance:V (elemP prog 227) 231:=⟨kR⟩
instance:V (slT prog 227) true:=⟨kR⟩
instance:V (prog.cellsOf 231) 20:=⟨tY⟩
instance:V (prog.bytesOf 231) 160:=⟨WS⟩
instance:V (aggP prog 231) true:=⟨xg⟩
instance:V (tyOk prog 231) true:=⟨t231⟩
instance:V (zeroP prog 231) [.s (.int .u64 0),.s (.int .u64 0),.s (.int .u64 0),.s (.int .u64 0),.s (.int .u64 0),.s (.int .u64 0),.s (.int .u64 0),.s (.int .u64 0),.s (.int .u64 0),.s (.int .u64 0),.s (.int .u64 0),.s (.int .u64 0),.s (.int .u64 0),.s (.int .u64 0),.s (.int .u64 0),.s (.int .u64 0),.s (.int .u64 0),.s (.int .u64 0),.s (.int .u64 0),.s (.int .u64 0)]:=⟨WR⟩
instance:V (elemP prog 231) 98:=⟨kR⟩
instance:V (arT prog 231) true:=⟨kR⟩
instance:V (lenP prog 231) 20:=⟨kR⟩
instance:V (prog.underlying 8) (some (.struct (gS prog 8))):=⟨u8⟩
instance:V (prog.underlying 22) (some (.slice 5)):=⟨kR⟩
instance:V (prog.underlying 30) (some (.struct (gS prog 30))):=⟨kR⟩
instance:V (((gS prog 30).toList.map fun f=>(f.offset,prog.cellsOf f.type))) [(0,1),(1,1),(2,1)]:=⟨kR⟩
instance:V (((gS prog 30).toList.all fun f=>(prog.info? f.type).isSome)) true:=⟨kR⟩
instance:V (prog.underlying 66) (some (.struct (gS prog 66))):=⟨kR⟩
instance:V (((gS prog 66).toList.map fun f=>(f.offset,prog.cellsOf f.type))) [(0,1),(1,1),(2,1),(3,1),(4,1),(5,1)]:=⟨kR⟩
instance:V (((gS prog 66).toList.all fun f=>(prog.info? f.type).isSome)) true:=⟨kR⟩
instance:V (prog.underlying 89) (some (.struct (gS prog 89))):=⟨kR⟩
instance:V (((gS prog 89).toList.map fun f=>(f.offset,prog.cellsOf f.type))) [(0,8),(8,1),(9,1),(10,1)]:=⟨kR⟩
instance:V (((gS prog 89).toList.all fun f=>(prog.info? f.type).isSome)) true:=⟨kR⟩
instance:V (mkeyP prog 127) 3:=⟨Me⟩
instance:V (mapT prog 127) true:=⟨Mf⟩
instance:V (mkeyP prog 131) 5:=⟨kR⟩
instance:V (mapT prog 131) true:=⟨kR⟩
instance:V (melP prog 131) 205:=⟨Mo⟩
instance:V (prog.underlying 133) (some (.struct (gS prog 133))):=⟨kR⟩
instance:V (((gS prog 133).toList.map fun f=>(f.offset,prog.cellsOf f.type))) [(0,8),(8,1),(9,1)]:=⟨kR⟩
instance:V (((gS prog 133).toList.all fun f=>(prog.info? f.type).isSome)) true:=⟨kR⟩
instance:V (prog.underlying 158) (some (.struct (gS prog 158))):=⟨kR⟩
instance:V (((gS prog 158).toList.map fun f=>(f.offset,prog.cellsOf f.type))) [(0,1),(1,1)]:=⟨kR⟩
instance:V (((gS prog 158).toList.all fun f=>(prog.info? f.type).isSome)) true:=⟨kR⟩
instance:V (mkeyP prog 165) 172:=⟨wR⟩
instance:V (mapT prog 165) true:=⟨wS⟩
instance:V (mkeyP prog 166) 168:=⟨Ci⟩
instance:V (mapT prog 166) true:=⟨Cj⟩
instance:V (prog.underlying 168) (some (.struct (gS prog 168))):=⟨kR⟩
instance:V (((gS prog 168).toList.map fun f=>(f.offset,prog.cellsOf f.type))) [(0,1),(1,1)]:=⟨kR⟩
instance:V (((gS prog 168).toList.all fun f=>(prog.info? f.type).isSome)) true:=⟨kR⟩
instance:V (prog.underlying 172) (some (.struct (gS prog 172))):=⟨kR⟩
instance:V (((gS prog 172).toList.map fun f=>(f.offset,prog.cellsOf f.type))) [(0,2),(2,2)]:=⟨kR⟩
instance:V (((gS prog 172).toList.all fun f=>(prog.info? f.type).isSome)) true:=⟨kR⟩
instance:V (prog.underlying 205) (some (.struct (gS prog 205))):=⟨kR⟩
instance:V (((gS prog 205).toList.map fun f=>(f.offset,prog.cellsOf f.type))) [(0,1),(1,1),(2,1),(3,1),(4,1),(5,1)]:=⟨kR⟩
instance:V (((gS prog 205).toList.all fun f=>(prog.info? f.type).isSome)) true:=⟨kR⟩
instance:V (prog.underlying 208) (some (.struct (gS prog 208))):=⟨kR⟩
instance:V (((gS prog 208).toList.map fun f=>(f.offset,prog.cellsOf f.type))) [(0,8),(8,1)]:=⟨kR⟩
instance:V (((gS prog 208).toList.all fun f=>(prog.info? f.type).isSome)) true:=⟨kR⟩
instance:V (prog.underlying 2) (some (.int .i64)):=⟨u2⟩
instance:V (prog.underlying 3) (some (.int .i64)):=⟨u3⟩
instance:V (prog.underlying 5) (some (.int .u8)):=⟨u5⟩
instance:V (prog.underlying 189) (some (.int .u64)):=⟨kR⟩
end Go.Proofs.Tryz.K
namespace Go.Abs
open Go.Argus
section
variable{P:Program}{Y:YSpec}{ops:Array Oper}{dr:Bool}{cf:List (Nat×Nat)}{Q:Exit->St->Prop}{r:List Oper}{v:Env}{m:Mem}{n:Nat}{q:Tra}{x:Oper}{s:St}{e:List Nat×List Nat}
theorem mA{p:Prop}(h:p:=by first|rfl|exact bE rfl|(simp;done)|(simp;omega)|omega):p:=h
theorem FG{p:Prop}(h:p:=by first|omega|exact bE rfl|(simp;done)|(simp;omega)):p:=h
theorem py{p:Prop}(h:p:=by first|(simp;done)|exact⟨rfl,bE rfl⟩|(simp;omega)):p:=h
theorem NO{p:Prop}(h:p:=by first|rfl|exact me _|(simp[me];done)|exact Kl):p:=h
theorem xP{p:Prop}(h:p:=by first|(simp;done)|omega|exact bE rfl):p:=h
theorem FH{p:Prop}(h:p:=by unfold maxLen;first|omega|(simp;omega)):p:=h
theorem IY{p:Prop}(h:p:=by first|rfl|(simp;done)|(simp;omega)):p:=h
theorem IZ{p:Prop}(h:p:=by first|(simp;done)|(simp;omega)):p:=h
theorem rI{p:Prop}(h:p:=by first|(simp;done)|fail):p:=h
theorem FI{p:Prop}(h:p:=by first|decide|simp):p:=h
def oT(x:Oper):Nat:=2*(match x.op with
 | .move ..=>1
 | .assign ..=>2
 | .pick ..=>3
 | .alloc ..=>4
 | .box ..=>5
 | .build ..=>6
 | .buildSlice ..=>7
 | .insert ..=>8
 | .load ..=>9
 | .store ..=>10
 | .nilCheck ..=>11
 | .unOp ..=>12
 | .convert ..=>13
 | .makeFunc ..=>14
 | .makeMap ..=>15
 | .makeSlice ..=>16
 | .slice ..=>17
 | .fieldAddr ..=>18
 | .field ..=>19
 | .indexAddr ..=>20
 | .index ..=>21
 | .lookup ..=>22
 | .mapUpdate ..=>23
 | .extract ..=>24
 | .call ..=>25
 | .binOp .add ..=>26
 | .binOp .sub ..=>27
 | .binOp .mul ..=>28
 | .binOp .quo ..=>29
 | .binOp .rem ..=>30
 | .binOp .and ..=>31
 | .binOp .or ..=>32
 | .binOp .xor ..=>33
 | .binOp .shl ..=>34
 | .binOp .shr ..=>35
 | .binOp .andNot ..=>36
 | .binOp .eql ..=>37
 | .binOp .neq ..=>38
 | .binOp .lss ..=>39
 | .binOp .leq ..=>40
 | .binOp .gtr ..=>41
 | .binOp .geq ..=>42
 |_=>0)+(match x.guard with
 |none=>0
 |_=>1)
theorem SS2(ht:oT x=2:=by exact rfl)(h:SO P Y ops dr x v m n s e:=by intro _ _ _ _ k;first|exact aI (kL (v:=.s (.int _ _)) rfl) ak trivial k|exact aI (kL (v:=.s (.bool _)) rfl) ak trivial k|exact aI (kL (v:=.sl _ _) rfl) ak trivial k|exact aI (kL (v:=.rs _ _ _) rfl) ak trivial k|exact aI (kL (v:=.pt _) rfl) ak trivial k|exact aI (kL (v:=.fn _ _ _) rfl) ak trivial k|exact aI (kL (v:=.s (.string _)) rfl) ak trivial k|exact aI (kL (v:=.mp _) rfl) ak trivial k|exact aI (kL (v:=.rp _ _) rfl) ak trivial k|exact aI (kL (v:=_) rfl) ak trivial k|fail):SO P Y ops dr x v m n s e:=h
theorem SS4(ht:oT x=4:=by exact rfl)(h:SO P Y ops dr x v m n s e:=by intro _ _ _ _ k;first|exact aI (oJ (v:=.s (.bool _)) rfl) ak trivial k|exact aI (oJ (v:=.s (.int _ _)) rfl) ak trivial k|exact aI (oJ (v:=.sl _ _) rfl) ak trivial k|exact aI (oJ (v:=.rs _ _ _) rfl) ak trivial k|exact aI (oJ (v:=.z) rfl) ak trivial k|exact aI (oJ (v:=.s (.pointer none)) rfl) ak trivial k|exact aI (oJ (v:=.mp _) rfl) ak trivial k|exact aI (oJ (v:=.fn _ _ _) rfl) ak trivial k|fail):SO P Y ops dr x v m n s e:=h
theorem ajb(ht:oT x=18:=by exact rfl)(h:SO P Y ops dr x v m n s e:=by intro _ _ _ _ k;first|exact aI (mK (vs:=aH _) rfl V.h V.h rfl) ak (mL V.h V.h rI) k|exact aI (mK (vs:=bu _) rfl V.h V.h rfl) ak (mL V.h V.h rI) k|exact aI (mK (vs:=bh _) rfl V.h V.h rfl) ak (mL V.h V.h rI) k|exact aI (mK (vs:=bq _ _ _) rfl V.h V.h rfl) ak (mL V.h V.h rI) k|exact aI (mK (vs:=fJ _) rfl V.h V.h rfl) ak (mL V.h V.h rI) k|exact aI (ep rfl rfl V.h V.h (nV mA)) ak (ez V.h V.h mA) k|exact aI (mK rfl V.h V.h rfl) ak (mL V.h V.h rI) k|exact aI (mK (vs:=bW _ _) rfl V.h V.h rfl) ak (mL V.h V.h rI) k|exact aI (ep (vs:=aH _) rfl rfl V.h V.h rfl) ak (ez V.h V.h xP) k|exact aI (ep (vs:=bh _) rfl rfl V.h V.h rfl) ak (ez V.h V.h xP) k|exact aI (ep (vs:=bu _) rfl (up_same _ _ _) V.h V.h rfl) ak (ez V.h V.h xP) k|exact aI (mK (vs:=mM _) rfl V.h V.h rfl) ak (mL V.h V.h rI) k|exact aI (ep rfl rfl V.h V.h rfl) ak (ez V.h V.h xP) k|exact aI (ep rfl ax V.h V.h rfl) ak (ez V.h V.h xP) k|exact aI (ep rfl di V.h V.h rfl) ak (ez V.h V.h xP) k|exact aI (ep rfl gV V.h V.h rfl) ak (ez V.h V.h xP) k|exact aI (ep rfl (up_same _ _ _) V.h V.h rfl) ak (ez V.h V.h xP) k|exact aI (ep rfl (aC oG rfl) V.h V.h (nV mA)) ak (ez V.h V.h mA) k|exact aI (Ta rfl V.h) ak (Ti V.h V.h) k|exact aI (gQ rfl rfl kd V.h) ak (gR V.h V.h kd) k|exact aI (gQ rfl ax kd V.h) ak (gR V.h V.h kd) k|exact aI (gQ rfl di kd V.h) ak (gR V.h V.h kd) k|exact aI (gQ rfl (up_same _ _ _) kd V.h) ak (gR V.h V.h kd) k|exact aI (gQ rfl rfl rfl V.h) ak (gR V.h V.h rfl) k|exact aI (gQ rfl ax rfl V.h) ak (gR V.h V.h rfl) k|exact aI (gQ rfl di rfl V.h) ak (gR V.h V.h rfl) k|exact aI (gQ rfl gV rfl V.h) ak (gR V.h V.h rfl) k|fail):SO P Y ops dr x v m n s e:=h
theorem ajc(ht:oT x=19:=by exact rfl)(h:SO P Y ops dr x v m n s e:=by intro _ _ _ _ k;first|exact bt rfl rfl (Ta rfl V.h) (fun hc=>⟨ak,(Ti V.h V.h)⟩) k|exact bt rfl rfl (mK (vs:=bW _ _) rfl V.h V.h rfl) (fun hc=>⟨ak,(mL V.h V.h rI)⟩) k|exact bt rfl rfl (mK (vs:=bq _ _ _) rfl V.h V.h rfl) (fun hc=>⟨ak,(mL V.h V.h rI)⟩) k|exact bt rfl rfl (mK (vs:=aH _) rfl V.h V.h rfl) (fun hc=>⟨ak,(mL V.h V.h rI)⟩) k|exact bt rfl rfl (mK (vs:=bh _) rfl V.h V.h rfl) (fun hc=>⟨ak,(mL V.h V.h rI)⟩) k|exact bt rfl rfl (mK (vs:=bu _) rfl V.h V.h rfl) (fun hc=>⟨ak,(mL V.h V.h rI)⟩) k|exact bt rfl rfl (gQ rfl rfl rfl V.h) (fun hc=>⟨ak,(gR V.h V.h rfl)⟩) k|exact bt rfl rfl (gQ rfl ax rfl V.h) (fun hc=>⟨ak,(gR V.h V.h rfl)⟩) k|exact bt rfl rfl (gQ rfl (up_same _ _ _) rfl V.h) (fun hc=>⟨ak,(gR V.h V.h rfl)⟩) k|exact bt rfl rfl (ep rfl rfl V.h V.h rfl) (fun hc=>⟨ak,(ez V.h V.h xP)⟩) k|exact bt rfl rfl (ep rfl (aC oG rfl) V.h V.h (nV mA)) (fun hc=>⟨ak,(ez V.h V.h mA)⟩) k|fail):SO P Y ops dr x v m n s e:=h
theorem SS6(ht:oT x=6:=by exact rfl)(h:SO P Y ops dr x v m n s e:=by intro _ _ _ _ k;first|exact ab6 rfl rfl (by first|exact trivial|exact rfl) k|exact ab7 rfl rfl (by first|exact trivial|exact rfl) k|exact adE rfl rfl rfl (fun h=>by first|exact trivial|exact rfl|exact h|(show Eq _ _;rw[h];rfl)|(show Eq _ _;simp[h];done)|(show Eq _ _;simp_all;done)|fail) (fun h=>by first|exact trivial|exact rfl|exact h|(show Eq _ _;rw[h];rfl)|(show Eq _ _;simp[h];done)|(show Eq _ _;simp_all;done)|fail) k|fail):SO P Y ops dr x v m n s e:=h
theorem ajd(ht:oT x=36:=by exact rfl)(h:SO P Y ops dr x v m n s e:=by intro _ _ _ _ k;first|exact aI (RJ rfl V.h) ak (sy V.h) k|exact aI (uL rfl rfl V.h) ak (sy V.h) k|exact aI (uL rfl ax V.h) ak (sy V.h) k|exact aI (uL rfl di V.h) ak (sy V.h) k|exact aI (uL rfl (up_same _ _ _) V.h) ak (sy V.h) k|fail):SO P Y ops dr x v m n s e:=h
theorem SS3(ht:oT x=3:=by exact rfl)(h:SO P Y ops dr x v m n s e:=by intro _ _ _ _ k;first|exact bt rfl rfl (kL (v:=.s (.int _ _)) rfl) (fun hc=>⟨ak,trivial⟩) k|exact bt rfl rfl (kL (v:=.sl _ _) rfl) (fun hc=>⟨ak,trivial⟩) k|exact bt rfl rfl (kL (v:=.s (.bool _)) rfl) (fun hc=>⟨ak,trivial⟩) k|exact bt rfl rfl (kL (v:=.pt _) rfl) (fun hc=>⟨ak,trivial⟩) k|exact bt rfl rfl (kL (v:=.fn _ _ _) rfl) (fun hc=>⟨ak,trivial⟩) k|exact bt rfl rfl (kL (v:=.rs _ _ _) rfl) (fun hc=>⟨ak,trivial⟩) k|exact bt rfl rfl (kL (v:=.s (.string _)) rfl) (fun hc=>⟨ak,trivial⟩) k|fail):SO P Y ops dr x v m n s e:=h
theorem aje(ht:oT x=37:=by exact rfl)(h:SO P Y ops dr x v m n s e:=by intro _ _ _ _ k;first|exact bt rfl rfl (RJ rfl V.h) (fun hc=>⟨ak,(sy V.h)⟩) k|exact bt rfl rfl (uL rfl rfl V.h) (fun hc=>⟨ak,(sy V.h)⟩) k|exact bt rfl rfl (uL rfl (up_same _ _ _) V.h) (fun hc=>⟨ak,(sy V.h)⟩) k|fail):SO P Y ops dr x v m n s e:=h
theorem ajf(ht:oT x=74:=by exact rfl)(h:SO P Y ops dr x v m n s e:=by intro _ _ _ _ k;first|exact aI (Lm rfl rfl dY) ak rfl k|exact aI (LO rfl rfl) ak rfl k|fail):SO P Y ops dr x v m n s e:=h
theorem ajg(ht:oT x=40:=by exact rfl)(h:SO P Y ops dr x v m n s e:=by intro _ _ _ _ k;first|exact aI (Tg rfl rfl V.h V.h (by assumption)) ak (Th V.h (by assumption)) k|exact aI (yJ rfl rfl V.h V.h (GH) (by assumption)) ak (yK V.h (GH) (by assumption)) k|exact aI (yJ rfl rfl V.h V.h (GI) (by assumption)) ak (yK V.h (GI) (by assumption)) k|exact aI (adG rfl rfl rfl V.h V.h V.h) ak ⟨V.h,by omega⟩ k|exact aI (yJ rfl rfl V.h V.h (DA) (by assumption)) ak (yK V.h (DA) (by assumption)) k|exact aI (yJ rfl rfl V.h V.h (PJ) (by assumption)) ak (yK V.h (PJ) (by assumption)) k|exact aI (mN rfl rfl rfl V.h V.h) ak ⟨V.h,by omega⟩ k|exact aI (mN rfl rfl ax V.h V.h) ak ⟨V.h,by omega⟩ k|exact aI (Td rfl rfl ax V.h V.h V.h) ak ⟨V.h,by omega,by omega⟩ k|exact aI (mN rfl rfl (aC oG (aC oG ax)) V.h V.h) ak ⟨V.h,by omega⟩ k|exact aI (mN rfl rfl (aC oG (aC oG (aC oG ax))) V.h V.h) ak ⟨V.h,by omega⟩ k|exact aI (mN rfl rfl di V.h V.h) ak ⟨V.h,by omega⟩ k|exact aI (mN rfl rfl (up_same _ _ _) V.h V.h) ak ⟨V.h,by omega⟩ k|exact aI (DV rfl rfl rfl V.h V.h) ak ⟨V.h,by omega⟩ k|exact aI (adH rfl rfl (up_same _ _ _) V.h V.h) ak ⟨V.h,by omega⟩ k|fail):SO P Y ops dr x v m n s e:=h
theorem ajh(ht:oT x=50:=by exact rfl)(h:SO P Y ops dr x v m n s e:=by intro _ _ _ _ k;first|exact aI (Uj rfl) ak V.h k|exact aI (Lh rfl) ak V.h k|exact vo (uX rfl rfl rfl V.h V.h (QO tX) rfl) ak ⟨V.h,rfl,FG,(by decide),IY,FH,(by rw[b3];first|omega|(simp;omega)),IZ⟩ k|exact aI (BZ rfl rfl) ak V.h k|exact aI (BZ rfl ax) ak V.h k|exact vo (uX rfl rfl rfl V.h V.h (wm rfl rfl) rfl) ak ⟨V.h,rfl,FG,(by decide),IY,FH,(by rw[b3];first|omega|(simp;omega)),IZ⟩ k|exact vo (uX rfl (aC oG ax) rfl V.h V.h (wm (up_same _ _ _) rfl) rfl) ak ⟨V.h,rfl,FG,(by decide),IY,FH,(by rw[b3];first|omega|(simp;omega)),IZ⟩ k|exact vo (uX rfl (aC oG di) rfl V.h V.h (wm (up_same _ _ _) rfl) rfl) ak ⟨V.h,rfl,FG,(by decide),IY,FH,(by rw[b3];first|omega|(simp;omega)),IZ⟩ k|exact iB (aeH rfl rfl V.h V.h (wm (up_same _ _ _) rfl)) ak ⟨V.h,FG,(by decide),FH,(by rw[b3];first|omega|(simp;omega))⟩ k|fail):SO P Y ops dr x v m n s e:=h
theorem aji(ht:oT x=52:=by exact rfl)(h:SO P Y ops dr x v m n s e:=by intro _ _ _ _ k;first|exact aI (Ug rfl rfl oG) ak rfl k|fail):SO P Y ops dr x v m n s e:=h
theorem ajj(ht:oT x=20:=by exact rfl)(h:SO P Y ops dr x v m n s e:=by intro _ _ _ _ k;first|exact cA (jk (cs':=bu _) rfl rfl (up_same _ _ _) rfl) ak (du V.h V.h py (by rfl)) k|exact cA (fI (d:=.s (.bool _)) (cs':=_) rfl rfl rfl rfl rfl) ak (du V.h V.h py rfl) k|exact cA (fI (d:=.s (.string _)) (cs':=_) rfl rfl rfl rfl rfl) ak (du V.h V.h py rfl) k|exact cA (jk rfl rfl rfl (KR mA mA)) ak (DL mA mA NO) k|exact cA (jk (cs':=fJ _) rfl rfl (up_same _ _ _) rfl) ak (du V.h V.h py (by rfl)) k|exact cA (fI (d:=.s (.bool _)) (cs':=_) rfl rfl di rfl rfl) ak (du V.h V.h py rfl) k|exact cA (jk rfl rfl (up_same _ _ _) (KR mA mA)) ak (DL mA mA NO) k|exact cA (jk (cs':=mM _) rfl rfl (up_same _ _ _) rfl) ak (du V.h V.h py (by rfl)) k|exact cA (fI (d:=.s (.int _ _)) (cs':=_) rfl rfl rfl rfl rfl) ak (du V.h V.h py rfl) k|exact cA (fI (d:=.s (.int _ _)) (cs':=_) rfl rfl (up_same _ _ _) rfl rfl) ak (du V.h V.h py rfl) k|exact cA (jk rfl rfl rfl rfl) ak (du V.h V.h py (by rfl)) k|exact cA (jk rfl rfl (up_same _ _ _) rfl) ak (du V.h V.h py (by rfl)) k|exact cA (jk rfl rfl (aC oG rfl) (KR mA mA)) ak (DL mA mA NO) k|exact cA (jk rfl rfl rfl (Uu (by decide) (by assumption) (by assumption) (by first|assumption|(simp;omega)|(simp;done)|fail))) ak (DL (by first|(simp;omega)|(simp;done)|fail) (Aw (by assumption) (by assumption)) (me _)) k|exact cA (fI (d:=.rs _ _ _) (cs':=[_]) rfl rfl (aC oG (aC oG ax)) rfl rfl) ak (du V.h V.h py rfl) k|exact cA (fI (d:=.rs _ _ _) (cs':=_) rfl rfl rfl rfl rfl) ak (du V.h V.h py rfl) k|exact cA (fI (d:=.rs _ _ _) (cs':=_) rfl rfl (aC oG (aC oG ax)) rfl rfl) ak (du V.h V.h py rfl) k|exact cA (fI (d:=.rs _ _ _) (cs':=_) rfl rfl (aC oG (aC oG (aC oG ax))) rfl rfl) ak (du V.h V.h py rfl) k|exact cA (fI (d:=.z) (cs':=_) rfl rfl rfl rfl rfl) ak (du V.h V.h py rfl) k|fail):SO P Y ops dr x v m n s e:=h
theorem ajk(ht:oT x=78:=by exact rfl)(h:SO P Y ops dr x v m n s e:=by intro _ _ _ _ k;first|exact aI (Tp rfl rfl jU) ak rfl k|exact aI (LK rfl rfl) ak rfl k|fail):SO P Y ops dr x v m n s e:=h
theorem ajl(ht:oT x=75:=by exact rfl)(h:SO P Y ops dr x v m n s e:=by intro _ _ _ _ k;first|exact bt rfl rfl (Lm rfl rfl dY) (fun hc=>⟨ak,rfl⟩) k|exact bt rfl rfl (Lm rfl rfl Ax) (fun hc=>⟨ak,rfl⟩) k|exact bt rfl rfl (LO rfl rfl) (fun hc=>⟨ak,rfl⟩) k|exact bt rfl rfl (Lg rfl rfl) (fun hc=>⟨ak,trivial⟩) k|fail):SO P Y ops dr x v m n s e:=h
theorem ajm(ht:oT x=41:=by exact rfl)(h:SO P Y ops dr x v m n s e:=by intro _ _ _ _ k;first|exact bt rfl rfl (Tg rfl rfl V.h V.h (by assumption)) (fun hc=>⟨ak,(Th V.h (by assumption))⟩) k|exact bt rfl rfl (yJ rfl rfl V.h V.h (GI) (by assumption)) (fun hc=>⟨ak,(yK V.h (GI) (by assumption))⟩) k|fail):SO P Y ops dr x v m n s e:=h
theorem ajn(ht:oT x=10:=by exact rfl)(h:SO P Y ops dr x v m n s e:=by intro _ _ _ _ k;first|exact iB (uW (cs:=aH _) rfl) ak (by first|rfl|exact wq fP gO|exact me _|exact wO dP) k|exact iB (uW rfl) ak (by first|rfl|exact wq fP gO|exact me _|exact wO dP) k|exact iB (uW (cs:=bh _) rfl) ak (by first|rfl|exact wq fP gO|exact me _|exact wO dP) k|exact iB (uW (cs:=bu _) rfl) ak (by first|rfl|exact wq fP gO|exact me _|exact wO dP) k|exact iB (uW (cs:=bq _ _ _) rfl) ak (by first|rfl|exact wq fP gO|exact me _|exact wO dP) k|exact iB (uW (cs:=bW _ _) rfl) ak (by first|rfl|exact wq fP gO|exact me _|exact wO dP) k|exact iB (HA (d:=.s (.int _ _)) rfl rfl) ak rfl k|fail):SO P Y ops dr x v m n s e:=h
theorem ajo(ht:oT x=51:=by exact rfl)(h:SO P Y ops dr x v m n s e:=by intro _ _ _ _ k;first|exact bt rfl rfl (Uj rfl) (fun hc=>⟨ak,V.h⟩) k|exact bt rfl rfl (aeG rfl) (fun hc=>⟨ak,V.h⟩) k|fail):SO P Y ops dr x v m n s e:=h
theorem SS8(ht:oT x=8:=by exact rfl)(h:SO P Y ops dr x v m n s e:=by intro _ _ _ _ k;first|exact iB (adt V.h) ak V.h k|fail):SO P Y ops dr x v m n s e:=h
theorem ajp(ht:oT x=76:=by exact rfl)(h:SO P Y ops dr x v m n s e:=by intro _ _ _ _ k;first|exact aI (Tq rfl rfl dv) ak rfl k|exact aI (LP rfl rfl) ak rfl k|fail):SO P Y ops dr x v m n s e:=h
theorem ajq(ht:oT x=25:=by exact rfl)(h:SO P Y ops dr x v m n s e:=by intro _ _ _ _ k;first|exact bt rfl rfl (Uh rfl) (fun hc=>⟨ak,trivial⟩) k|fail):SO P Y ops dr x v m n s e:=h
theorem ajr(ht:oT x=24:=by exact rfl)(h:SO P Y ops dr x v m n s e:=by intro _ _ _ _ k;first|exact aI (Uh rfl) ak trivial k|fail):SO P Y ops dr x v m n s e:=h
theorem ajs(ht:oT x=83:=by exact rfl)(h:SO P Y ops dr x v m n s e:=by intro _ _ _ _ k;first|exact bt rfl rfl (Ts rfl rfl eM) (fun hc=>⟨ak,rfl⟩) k|exact bt rfl rfl (LM rfl rfl) (fun hc=>⟨ak,rfl⟩) k|fail):SO P Y ops dr x v m n s e:=h
theorem ajt(ht:oT x=48:=by exact rfl)(h:SO P Y ops dr x v m n s e:=by intro _ _ _ _ k;first|exact aI (te (v:=.s (.int _ _)) rfl rfl) ak FI k|exact aI (te (v:=.s (.bool _)) rfl rfl) ak FI k|exact aI (te (v:=.sl _ _) rfl rfl) ak FI k|exact aI (te (v:=.z) rfl rfl) ak FI k|exact aI (te (v:=.agg _) rfl rfl) ak FI k|fail):SO P Y ops dr x v m n s e:=h
theorem aju(ht:oT x=12:=by exact rfl)(h:SO P Y ops dr x v m n s e:=by intro _ _ _ _ k;first|exact aI (G3 V.h V.h V.h rfl rfl) ak ⟨V.h,V.h⟩ k|fail):SO P Y ops dr x v m n s e:=h
theorem ajv(ht:oT x=14:=by exact rfl)(h:SO P Y ops dr x v m n s e:=by intro _ _ _ _ k;first|exact iB (DC (cs:=[_]) V.h V.h V.h rfl rfl) ak ⟨rfl,by decide,V.h,by decide⟩ k|exact iB (DC (cs:=[_,_]) V.h V.h V.h rfl rfl) ak ⟨rfl,by decide,V.h,by decide⟩ k|exact iB (DC (cs:=[]) V.h V.h V.h rfl rfl) ak ⟨rfl,by decide,V.h,by decide⟩ k|fail):SO P Y ops dr x v m n s e:=h
theorem SS7(ht:oT x=7:=by exact rfl)(h:SO P Y ops dr x v m n s e:=by intro _ _ _ _ k;first|exact aaB rfl rfl rfl rfl (by first|exact fun _=>trivial|exact fun _=>rfl|exact fun hc=>hc) (by first|exact fun _=>trivial|exact fun _=>rfl|exact fun hc=>hc) k|exact aaC rfl rfl rfl rfl (by first|exact fun _=>trivial|exact fun _=>rfl|exact fun hc=>hc) (by first|exact fun _=>trivial|exact fun _=>rfl|exact fun hc=>hc) k|exact ab8 rfl rfl rfl rfl rfl (by first|exact fun _=>trivial|exact fun _=>rfl|exact fun hc=>hc) (fun hc h=>by first|exact trivial|exact rfl|exact hc|(show Eq _ _;rw[hc,h];rfl)|(show Eq _ _;rw[h,hc];rfl)|(show Eq _ _;simp[hc,h];done)|(show Eq _ _;simp_all;done)|fail) (fun hc h=>by first|exact trivial|exact rfl|exact hc|(show Eq _ _;rw[hc,h];rfl)|(show Eq _ _;rw[h,hc];rfl)|(show Eq _ _;simp[hc,h];done)|(show Eq _ _;simp_all;done)|fail) k|fail):SO P Y ops dr x v m n s e:=h
theorem ajw(ht:oT x=82:=by exact rfl)(h:SO P Y ops dr x v m n s e:=by intro _ _ _ _ k;first|exact aI (Ts rfl rfl eM) ak rfl k|exact aI (LM rfl rfl) ak rfl k|fail):SO P Y ops dr x v m n s e:=h
theorem ajx(ht:oT x=77:=by exact rfl)(h:SO P Y ops dr x v m n s e:=by intro _ _ _ _ k;first|exact bt rfl rfl (Tq rfl rfl dv) (fun hc=>⟨ak,rfl⟩) k|exact bt rfl rfl (LP rfl rfl) (fun hc=>⟨ak,rfl⟩) k|fail):SO P Y ops dr x v m n s e:=h
theorem ajy(ht:oT x=22:=by exact rfl)(h:SO P Y ops dr x v m n s e:=by intro _ _ _ _ k;first|exact aI (Tb rfl) ak trivial k|exact aI (Tc rfl ax) ak trivial k|exact aI (Tc rfl di) ak trivial k|fail):SO P Y ops dr x v m n s e:=h
theorem ajz(ht:oT x=16:=by exact rfl)(h:SO P Y ops dr x v m n s e:=by intro _ _ _ _ k;first|exact cA (ab' rfl rfl rfl rfl V.h) ak ⟨V.h,by kernel_rfl,by kernel_rfl⟩ k|fail):SO P Y ops dr x v m n s e:=h
theorem ajA(ht:oT x=54:=by exact rfl)(h:SO P Y ops dr x v m n s e:=by intro _ _ _ _ k;first|exact aI (Tt rfl rfl nh) ak rfl k|exact aI (LQ rfl rfl oG) ak rfl k|fail):SO P Y ops dr x v m n s e:=h
theorem ajB(ht:oT x=79:=by exact rfl)(h:SO P Y ops dr x v m n s e:=by intro _ _ _ _ k;first|exact bt rfl rfl (Tp rfl rfl jU) (fun hc=>⟨ak,rfl⟩) k|exact bt rfl rfl (LK rfl rfl) (fun hc=>⟨ak,rfl⟩) k|fail):SO P Y ops dr x v m n s e:=h
theorem ajC(ht:oT x=32:=by exact rfl)(h:SO P Y ops dr x v m n s e:=by intro _ _ _ _ k;first|exact iB (BD rfl rfl V.h V.h) ak ⟨by omega,rfl,by omega,by rw[b4];omega,V.h⟩ k|exact iB (BD rfl rfl V.h V.h) ak ⟨by omega,rfl,by omega,by rw[X2];omega,V.h⟩ k|fail):SO P Y ops dr x v m n s e:=h
theorem ajD(ht:oT x=84:=by exact rfl)(h:SO P Y ops dr x v m n s e:=by intro _ _ _ _ k;first|exact aI (LN rfl rfl) ak rfl k|fail):SO P Y ops dr x v m n s e:=h
theorem ajE(ht:oT x=81:=by exact rfl)(h:SO P Y ops dr x v m n s e:=by intro _ _ _ _ k;first|exact bt rfl rfl (Tu rfl rfl E1) (fun hc=>⟨ak,rfl⟩) k|exact bt rfl rfl (LL rfl rfl) (fun hc=>⟨ak,rfl⟩) k|fail):SO P Y ops dr x v m n s e:=h
theorem ajF(ht:oT x=55:=by exact rfl)(h:SO P Y ops dr x v m n s e:=by intro _ _ _ _ k;first|exact bt rfl rfl (Tt rfl rfl nh) (fun hc=>⟨ak,rfl⟩) k|exact bt rfl rfl (LQ rfl rfl oG) (fun hc=>⟨ak,rfl⟩) k|fail):SO P Y ops dr x v m n s e:=h
theorem ajG(ht:oT x=28:=by exact rfl)(h:SO P Y ops dr x v m n s e:=by intro _ _ _ _ k;first|exact aI (Tf rfl rfl) ak trivial k|fail):SO P Y ops dr x v m n s e:=h
theorem ajH(ht:oT x=23:=by exact rfl)(h:SO P Y ops dr x v m n s e:=by intro _ _ _ _ k;first|exact bt rfl rfl (Tb rfl) (fun hc=>⟨ak,trivial⟩) k|fail):SO P Y ops dr x v m n s e:=h
theorem ajI(ht:oT x=85:=by exact rfl)(h:SO P Y ops dr x v m n s e:=by intro _ _ _ _ k;first|exact bt rfl rfl (Tv rfl rfl xd) (fun hc=>⟨ak,rfl⟩) k|fail):SO P Y ops dr x v m n s e:=h
theorem ajJ(ht:oT x=30:=by exact rfl)(h:SO P Y ops dr x v m n s e:=by intro _ _ _ _ k;first|exact iB afH ak trivial k|fail):SO P Y ops dr x v m n s e:=h
theorem ajK(ht:oT x=13:=by exact rfl)(h:SO P Y ops dr x v m n s e:=by intro _ _ _ _ k;first|exact bt rfl rfl (G3 V.h V.h V.h rfl rfl) (fun hc=>⟨ak,⟨V.h,V.h⟩⟩) k|fail):SO P Y ops dr x v m n s e:=h
theorem ajL(ht:oT x=42:=by exact rfl)(h:SO P Y ops dr x v m n s e:=by intro _ _ _ _ k;first|exact aI (Te rfl rfl) ak ⟨V.h,by omega,by omega⟩ k|fail):SO P Y ops dr x v m n s e:=h
theorem ajM(ht:oT x=43:=by exact rfl)(h:SO P Y ops dr x v m n s e:=by intro _ _ _ _ k;first|exact bt rfl rfl (Te rfl rfl) (fun hc=>⟨ak,⟨V.h,by omega,by omega⟩⟩) k|fail):SO P Y ops dr x v m n s e:=h
theorem ajN(ht:oT x=80:=by exact rfl)(h:SO P Y ops dr x v m n s e:=by intro _ _ _ _ k;first|exact aI (Tu rfl rfl E1) ak rfl k|fail):SO P Y ops dr x v m n s e:=h
theorem ajO(ht:oT x=15:=by exact rfl)(h:SO P Y ops dr x v m n s e:=by intro _ _ _ _ k;first|exact aeP rfl rfl (DC (cs:=[_]) V.h V.h V.h rfl rfl) ak ⟨rfl,by decide,V.h,by decide⟩ k|fail):SO P Y ops dr x v m n s e:=h
theorem ajP(ht:oT x=53:=by exact rfl)(h:SO P Y ops dr x v m n s e:=by intro _ _ _ _ k;first|exact bt rfl rfl (Ug rfl rfl oG) (fun hc=>⟨ak,rfl⟩) k|fail):SO P Y ops dr x v m n s e:=h
theorem SS(K:AOps P Y ops dr cf Q r s (q++[e]))(h:SO P Y ops dr x v m n s e:=by first|exact SS2|exact SS4|exact ajb|exact ajc|exact SS6|exact ajd|exact SS3|exact aje|exact ajf|exact ajg|exact ajh|exact aji|exact ajj|exact ajk|exact ajl|exact ajm|exact ajn|exact ajo|exact SS8|exact ajp|exact ajq|exact ajr|exact ajs|exact ajt|exact aju|exact ajv|exact SS7|exact ajw|exact ajx|exact ajy|exact ajz|exact ajA|exact ajB|exact ajC|exact ajD|exact ajE|exact ajF|exact ajG|exact ajH|exact ajI|exact ajJ|exact ajK|exact ajL|exact ajM|exact ajN|exact ajO|exact ajP):AOps P Y ops dr cf Q (x::r) ⟨v,m,n⟩ q:=h _ _ _ _ K
variable{x2 x3 x4 x5 x6 x7 x8 x9:Oper}{e2 e3 e4 e5 e6 e7 e8 e9:List Nat×List Nat}
theorem ag(K:AOps P Y ops dr cf Q r s (q++[e]++[e2]))(h:∀ cf Q r q,AOps P Y ops dr cf Q r s (q++[e]++[e2])->AOps P Y ops dr cf Q (x::x2::r) ⟨v,m,n⟩ q:=by intro _ _ _ _ k;(iterate 2 refine SS ?_);exact k):AOps P Y ops dr cf Q (x::x2::r) ⟨v,m,n⟩ q:=h _ _ _ _ K
theorem aq(K:AOps P Y ops dr cf Q r s (q++[e]++[e2]++[e3]))(h:∀ cf Q r q,AOps P Y ops dr cf Q r s (q++[e]++[e2]++[e3])->AOps P Y ops dr cf Q (x::x2::x3::r) ⟨v,m,n⟩ q:=by intro _ _ _ _ k;(iterate 3 refine SS ?_);exact k):AOps P Y ops dr cf Q (x::x2::x3::r) ⟨v,m,n⟩ q:=h _ _ _ _ K
theorem aP(K:AOps P Y ops dr cf Q r s (q++[e]++[e2]++[e3]++[e4]))(h:∀ cf Q r q,AOps P Y ops dr cf Q r s (q++[e]++[e2]++[e3]++[e4])->AOps P Y ops dr cf Q (x::x2::x3::x4::r) ⟨v,m,n⟩ q:=by intro _ _ _ _ k;(iterate 4 refine SS ?_);exact k):AOps P Y ops dr cf Q (x::x2::x3::x4::r) ⟨v,m,n⟩ q:=h _ _ _ _ K
theorem aO(K:AOps P Y ops dr cf Q r s (q++[e]++[e2]++[e3]++[e4]++[e5]))(h:∀ cf Q r q,AOps P Y ops dr cf Q r s (q++[e]++[e2]++[e3]++[e4]++[e5])->AOps P Y ops dr cf Q (x::x2::x3::x4::x5::r) ⟨v,m,n⟩ q:=by intro _ _ _ _ k;(iterate 5 refine SS ?_);exact k):AOps P Y ops dr cf Q (x::x2::x3::x4::x5::r) ⟨v,m,n⟩ q:=h _ _ _ _ K
theorem bB(K:AOps P Y ops dr cf Q r s (q++[e]++[e2]++[e3]++[e4]++[e5]++[e6]))(h:∀ cf Q r q,AOps P Y ops dr cf Q r s (q++[e]++[e2]++[e3]++[e4]++[e5]++[e6])->AOps P Y ops dr cf Q (x::x2::x3::x4::x5::x6::r) ⟨v,m,n⟩ q:=by intro _ _ _ _ k;(iterate 6 refine SS ?_);exact k):AOps P Y ops dr cf Q (x::x2::x3::x4::x5::x6::r) ⟨v,m,n⟩ q:=h _ _ _ _ K
theorem dA(K:AOps P Y ops dr cf Q r s (q++[e]++[e2]++[e3]++[e4]++[e5]++[e6]++[e7]))(h:∀ cf Q r q,AOps P Y ops dr cf Q r s (q++[e]++[e2]++[e3]++[e4]++[e5]++[e6]++[e7])->AOps P Y ops dr cf Q (x::x2::x3::x4::x5::x6::x7::r) ⟨v,m,n⟩ q:=by intro _ _ _ _ k;(iterate 7 refine SS ?_);exact k):AOps P Y ops dr cf Q (x::x2::x3::x4::x5::x6::x7::r) ⟨v,m,n⟩ q:=h _ _ _ _ K
theorem bK(K:AOps P Y ops dr cf Q r s (q++[e]++[e2]++[e3]++[e4]++[e5]++[e6]++[e7]++[e8]))(h:∀ cf Q r q,AOps P Y ops dr cf Q r s (q++[e]++[e2]++[e3]++[e4]++[e5]++[e6]++[e7]++[e8])->AOps P Y ops dr cf Q (x::x2::x3::x4::x5::x6::x7::x8::r) ⟨v,m,n⟩ q:=by intro _ _ _ _ k;(iterate 8 refine SS ?_);exact k):AOps P Y ops dr cf Q (x::x2::x3::x4::x5::x6::x7::x8::r) ⟨v,m,n⟩ q:=h _ _ _ _ K
theorem aJ(K:AOps P Y ops dr cf Q r s (q++[e]++[e2]++[e3]++[e4]++[e5]++[e6]++[e7]++[e8]++[e9]))(h:∀ cf Q r q,AOps P Y ops dr cf Q r s (q++[e]++[e2]++[e3]++[e4]++[e5]++[e6]++[e7]++[e8]++[e9])->AOps P Y ops dr cf Q (x::x2::x3::x4::x5::x6::x7::x8::x9::r) ⟨v,m,n⟩ q:=by intro _ _ _ _ k;(iterate 9 refine SS ?_);exact k):AOps P Y ops dr cf Q (x::x2::x3::x4::x5::x6::x7::x8::x9::r) ⟨v,m,n⟩ q:=h _ _ _ _ K
end
end Go.Abs
namespace Go.Abs
open Go.ChangeShapes Go.WideShapes
inductive B7:List Sh->List D->Prop
 |nil:B7 [] []
 |cons {s:Sh} {l:List Sh} {ds:List D} (x:s.val) (hx:s.ok x) (h:B7 l ds):B7 (s::l) (s.arg x::ds)
def zm(P:Program)(n:Nat):List TypeId->Option (List Sh)
 |[]=>some []
 |t::ts=>match shT P n t,zm P n ts with
  |some s,some l=>some (s::l)
  |_,_=>none
theorem abP{P:Program}{n:Nat}{t:TypeId}{ts:List TypeId}{l:List Sh}(h:zm P n (t::ts)=some l):∃ s l',shT P n t=some s/\zm P n ts=some l'/\l=s::l':=by
 simp only[zm] at h;split at h
 .rename_i s l' h1 h2;simp only[aV] at h;exact⟨s,l',h1,h2,h.symm⟩
 .cases h
section
variable{P:Program}{H:Type}{ec:TypeId×Value->H}{w w':World}{base b0:Nat}{r:Reach}
theorem Ud{n:Nat}:∀ {ts:List TypeId} {C:List Sh} {vs:List Value} {ds:List (DataW H)} {ps:List MemPlace},zm P n ts=some C->
 (∀ (j:Nat) t v,ts[j]? =some t->vs[j]? =some v->Value.okWide P w r b0 t v)->DataW.TrodAll ec P w base (fun _=>true) true ts vs ds ps->
 ∃ aS,B7 C aS/\aS.length=vs.length/\∀ (k:Nat) (d:D) (v:Value),aS[k]? =some d->vs[k]? =some v->R (fun _=>False) noRows w d v
 |[],C,[],[],_,hs,_,_=>by
  simp only[zm,aV] at hs;subst hs;exact⟨[],.nil,rfl,oS⟩
 |t::ts,C,v::vs,d::ds,ps,hs,bZ,h=>by
  obtain⟨p,q,h1,h2,_⟩:=h;obtain⟨s,l',J,M,rfl⟩:=abP hs;obtain⟨x,X,hx⟩:=arg_R J (bZ 0 t v rfl rfl) h1;obtain⟨aS,a1,a2,a3⟩:=Ud M (fun j t v hj hv=>bZ (j+1) t v (by simpa using hj) (by simpa using hv)) h2;refine⟨s.arg x::aS,.cons x X a1,by simp[a2],fun k d v hd hv=>?_⟩;cases k with
  |zero=>
   simp only[List.getElem?_cons_zero,aV] at hd hv;subst hd hv;exact hx
  |succ k=>exact a3 k d v (by simpa using hd) (by simpa using hv)
 |[],_,_::_,_,_,_,_,h=>by simp[DataW.TrodAll] at h
 |[],_,[],_::_,_,_,_,h=>by simp[DataW.TrodAll] at h
 |_::_,_,[],_,_,_,_,h=>by simp[DataW.TrodAll] at h
 |_::_,_,_::_,[],_,_,_,h=>by simp[DataW.TrodAll] at h
theorem Kept.same(h:Kept w w'){p:MemPlace}(hp:p.block<w.heap.size):w.sameAt w' p:=by
 cases p with
 |cell b o=>exact Go.World.cell?_of_block (w:=w) (h.2.1 b hp)
 |map b=>exact h.2.1 b hp
theorem Kept.frame(h:Kept w w')(C:MemPlace->Prop):w.keptBut w' C:=by
 refine⟨h.2.2.1,h.2.2.2,fun i hi=>?_⟩;rw[h.2.1 i hi];split<;>simp_all
theorem Pd(hl:laidOutB P=true)(h:Kept w w'):∀ {ts:List TypeId} {vs:List Value} {ds:List (DataW H)} {ps:List MemPlace},(ts.all fun t=>P.readableRec t&&decide (t<P.types.size))=true->
 DataW.TrodAll ec P w 0 (fun _=>true) true ts vs ds ps->DataW.TrodAll ec P w' 0 (fun b=>decide (b<w.heap.size)) true ts vs ds ps
 |[],[],[],_,_,h0=>h0
 |t::ts,v::vs,d::ds,ps,ht,h0=>by
  obtain⟨p,q,h1,h2,rfl⟩:=h0;simp only[List.all_cons,aM,decide_eq_true_eq] at ht;have ao:∀ x∈p,x.block<w.heap.size:=by obtain⟨m,hm⟩:=h1;exact DataW.trod_lt m _ _ _ hm
  exact⟨p,q,WideElems.Trod_stays hl ht.1.1 ht.1.2 h1 (fun x hx=>h.same (ao x hx)) (fun x hx=>by simpa using ao x hx),Pd hl h (by simpa using ht.2) h2,rfl⟩
 |[],_::_,_,_,_,h0=>by simp[DataW.TrodAll] at h0
 |[],[],_::_,_,_,h0=>by simp[DataW.TrodAll] at h0
 |_::_,[],_,_,_,h0=>by simp[DataW.TrodAll] at h0
 |_::_,_::_,[],_,_,h0=>by simp[DataW.TrodAll] at h0
theorem Pw:∀ {ts:List TypeId} {vs:List Value} {ds:List (DataW H)} {ps:List MemPlace},DataW.TrodAll ec P w 0 (fun _=>true) true ts vs ds ps->ds.length=ts.length
 |[],[],[],_,_=>rfl
 |t::ts,v::vs,d::ds,ps,h0=>by
  obtain⟨p,q,h1,h2,rfl⟩:=h0;simp[Pw h2]
 |[],_::_,_,_,h0=>by simp[DataW.TrodAll] at h0
 |[],[],_::_,_,h0=>by simp[DataW.TrodAll] at h0
 |_::_,[],_,_,h0=>by simp[DataW.TrodAll] at h0
 |_::_,_::_,[],_,h0=>by simp[DataW.TrodAll] at h0
end
theorem Zn{C:Checked}{f:FuncId}{fn:Func}{s:ChangeSpec}{H:Type}{ec:TypeId×Value->H}{n:Nat}{Bt:List Sh}{tb:TypeId}
 (VU:s.vars=[]) (hs:∀ ds:List (DataW H),ds.length=fn.params.size->s.fn H ds={ results:=[.lit (.bool true)],args:=ds })
 (J:laidOutB C.prog=true) (M:(fn.params.toList.all fun t=>C.prog.readableRec t&&decide (t<C.prog.types.size))=true) (fD:fn.resultTypes= #[tb]) (hb:C.prog.underlying tb=some .bool)
 (hsh:zm C.prog n fn.params.toList=some Bt) (h:∀ aS,B7 Bt aS->PCall C.prog f aS (.s (.bool true)))
 (W:World) (base:Nat) (args:Array Value) (ds gs:List (DataW H)) (before:List MemPlace)
 (Fm:∀ (j:Nat) t v,fn.params[j]? =some t->args[j]? =some v->Value.okWide C.prog W .any base t v)
 (hW:DataW.Whole ec C.prog fn.params.toList s.vars false W args.toList ds gs before):
 Calls C.prog f args W fun e W'=>∃ v,e=.returned v/\s.post ec C.prog fn false true false false W args v W':=by
 have hW':=hW;obtain⟨p,q,X,hV,rfl,hfz,cR⟩:=hW;rw[VU] at hV
 have hg:gs=[]/\q=[]:=by
  cases gs with
  |nil=>exact⟨rfl,hV⟩
  |cons g gs=>exact hV.elim
 obtain⟨rfl,rfl⟩:=hg;obtain⟨aS,a1,a2,a3⟩:=Ud hsh (fun j t v hj hv=>Fm j t v (by simpa using hj) (by simpa using hv)) X;refine((h aS a1).2.2 (fun _=>False) W args (fun _ hf=>hf.elim) ⟨by simpa using a2.symm,fun k d v hd hv=>a3 k d v hd (by simpa using hv)⟩).mono ?_;rintro e W' ⟨v,rfl,hv,hk⟩;obtain⟨rfl,_⟩:=hv.s_inv;have hlen:ds.length=fn.params.size:=by simpa using Pw X
 refine⟨_,rfl,ds,[],_,[],p,[],hW',?_,?_,?_,hk.frame _,fun h=>by cases h⟩
 .rw[List.append_nil,hs ds hlen,fD];exact⟨[],[],⟨1,by simp[DataW.trod,Value.cells,hb]⟩,rfl,rfl⟩
 .rw[List.append_nil,hs ds hlen];exact Pd J hk M X
 .rw[List.append_nil,hs ds hlen,VU];rfl
end Go.Abs
section
open Go Go.Abs Go.Proofs Go.Argus
namespace Go.Proofs.Tryz.K
theorem MG{l:List Int}{g:FuncId}{fs cs:List D}{p:Int->Bool}(ht:Tr (.fn (.func g) fs cs))(hg:∀ x∈l,PCall prog g (fs++[U8 x]++cs) (B (p x))):PCall prog 252 [lh l,.fn (.func g) fs cs] (I (oc p l)):=by
 refine mJ L2.he (.cons (r6 _) (.cons ht .nil)) fun C=>?_;have hlen:=(C (lh l) oS).sl.1;unfold maxLen at hlen;refine bg L2 (.cons (r6 _) (.cons ht .nil)) (Tr.s _) ?_;rw[afU];refine ws (SS ?_);refine af (aB (az (aq ?_)))
 refine af (bR (fun s=>Ghost prog s ⟨aD [],fun _=>none,0⟩/\∀ (j:Nat) y,l[j]? =some y->p y=false) (dV (α:=Nat) (fun k=>⟨aD [(0,lh l),(1,.fn (.func g) fs cs),(7,I l.length),(8,I k)],fun _=>none,0⟩)
  (fun k=>k<=l.length/\∀ j y,j<k->l[j]? =some y->p y=false) (fun k=>l.length - k) 0 (ap eH) ⟨oG,fun j y hj=>by omega⟩ ?_) ?_)
 .rintro k ⟨hk,hinv⟩;refine SS ?_;refine af ⟨_,rfl,fun h=>?_,fun h=>?_⟩
  .have ao:k<l.length:=by simpa using h
   have hx:l[k]? =some l[k]:=by simp[ao]
   generalize l[k]=x at hx;have M:=hg x (bU hx);refine ws (ag ?_);refine er (aO ?_);refine cl M (af (aw rfl (fun hp=>?_) fun hp=>?_))
   .refine ws (ag ?_);refine af (aY (br (aR (av rfl ?_))));rw[DD hx hp hinv];rfl
   .refine bS (ag ?_);refine af (aK (k+1) (ap eH) ⟨oG,fun j y hj hy=>?_⟩ oG);by_cases e:j=k
    .subst e;rw[hx] at hy;cases hy;exact hp
    .exact hinv j y oG hy
  .have X:¬ k<l.length:=by simpa using h
   exact⟨.forget _ _ _ _ fun _=>.inr rfl,fun j y hy=>hinv j y (by have:=(bw.1 hy).1;omega) hy⟩
 .rintro s ⟨hg,J⟩;refine⟨_,hg,aj ?_⟩;refine SS ?_;refine af (av rfl ?_);rw[DE J];rfl
theorem xf{l:List Int}{g:FuncId}{fs cs:List D}{p:Int->Bool}(ht:Tr (.fn (.func g) fs cs))(hg:∀ x∈l,PCall prog g (fs++[U8 x]++cs) (B (p x))):PCall prog 228 [lh l,.fn (.func g) fs cs] (B (l.any p)):=by
 have MG:=MG ht hg;refine bg Uv (.cons (r6 _) (.cons ht .nil)) (Tr.s _) ?_;rw[afV];refine ws (SS ?_);refine er (ag ?_);refine cl MG (ag ?_);refine af (av rfl ?_);rw[<- DM];rfl
theorem MH{l:List ByteArray}{g:FuncId}{fs cs:List D}{p:ByteArray->Bool}(ht:Tr (.fn (.func g) fs cs))(hg:∀ x∈l,PCall prog g (fs++[S x]++cs) (B (p x))):PCall prog 231 [r9 l,.fn (.func g) fs cs] (I (oc p l)):=by
 refine mJ L3.he (.cons (Ag _) (.cons ht .nil)) fun C=>?_;have hlen:=(C (r9 l) oS).sl.1;unfold maxLen at hlen;refine bg L3 (.cons (Ag _) (.cons ht .nil)) (Tr.s _) ?_;rw[afW];refine ws (SS ?_);refine af (aB (az (aq ?_)))
 refine af (bR (fun s=>Ghost prog s ⟨aD [],fun _=>none,0⟩/\∀ (j:Nat) y,l[j]? =some y->p y=false) (dV (α:=Nat) (fun k=>⟨aD [(0,r9 l),(1,.fn (.func g) fs cs),(7,I l.length),(8,I k)],fun _=>none,0⟩)
  (fun k=>k<=l.length/\∀ j y,j<k->l[j]? =some y->p y=false) (fun k=>l.length - k) 0 (ap eH) ⟨oG,fun j y hj=>by omega⟩ ?_) ?_)
 .rintro k ⟨hk,hinv⟩;refine SS ?_;refine af ⟨_,rfl,fun h=>?_,fun h=>?_⟩
  .have ao:k<l.length:=by simpa using h
   have hx:l[k]? =some l[k]:=by simp[ao]
   generalize l[k]=x at hx;have M:=hg x (bU hx);refine ws (ag ?_);refine er (aO ?_);refine cl M (af (aw rfl (fun hp=>?_) fun hp=>?_))
   .refine ws (ag ?_);refine af (aY (br (aR (av rfl ?_))));rw[DD hx hp hinv];rfl
   .refine bS (ag ?_);refine af (aK (k+1) (ap eH) ⟨oG,fun j y hj hy=>?_⟩ oG);by_cases e:j=k
    .subst e;rw[hx] at hy;cases hy;exact hp
    .exact hinv j y oG hy
  .have X:¬ k<l.length:=by simpa using h
   exact⟨.forget _ _ _ _ fun _=>.inr rfl,fun j y hy=>hinv j y (by have:=(bw.1 hy).1;omega) hy⟩
 .rintro s ⟨hg,J⟩;refine⟨_,hg,aj ?_⟩;refine SS ?_;refine af (av rfl ?_);rw[DE J];rfl
theorem Ie{l:List ByteArray}{g:FuncId}{fs cs:List D}{p:ByteArray->Bool}(ht:Tr (.fn (.func g) fs cs))(hg:∀ x∈l,PCall prog g (fs++[S x]++cs) (B (p x))):PCall prog 192 [r9 l,.fn (.func g) fs cs] (B (l.any p)):=by
 have MH:=MH ht hg;refine bg Uw (.cons (Ag _) (.cons ht .nil)) (Tr.s _) ?_;rw[afX];refine ws (SS ?_);refine er (ag ?_);refine cl MH (ag ?_);refine af (av rfl ?_);rw[<- DM];rfl
theorem MI{l:List kS}{g:FuncId}{fs cs:List D}{p:kS->Bool}(ht:Tr (.fn (.func g) fs cs))(hg:∀ x∈l,PCall prog g (fs++[.agg (mM x)]++cs) (B (p x))):PCall prog 260 [qJ l,.fn (.func g) fs cs] (I (oc p l)):=by
 refine mJ L4.he (.cons (kI _) (.cons ht .nil)) fun C=>?_;have hlen:=(C (qJ l) oS).sl.1;unfold maxLen at hlen;refine bg L4 (.cons (kI _) (.cons ht .nil)) (Tr.s _) ?_;rw[afY];refine ws (SS ?_);refine af (aB (az (aq ?_)))
 refine af (bR (fun s=>Ghost prog s ⟨aD [],fun _=>none,0⟩/\∀ (j:Nat) y,l[j]? =some y->p y=false) (dV (α:=Nat) (fun k=>⟨aD [(0,qJ l),(1,.fn (.func g) fs cs),(7,I l.length),(8,I k)],fun _=>none,0⟩)
  (fun k=>k<=l.length/\∀ j y,j<k->l[j]? =some y->p y=false) (fun k=>l.length - k) 0 (ap eH) ⟨oG,fun j y hj=>by omega⟩ ?_) ?_)
 .rintro k ⟨hk,hinv⟩;refine SS ?_;refine af ⟨_,rfl,fun h=>?_,fun h=>?_⟩
  .have ao:k<l.length:=by simpa using h
   have hx:l[k]? =some l[k]:=by simp[ao]
   generalize l[k]=x at hx;have M:=hg x (bU hx);refine ws (ag ?_);refine er (aO ?_);refine cl M (af (aw rfl (fun hp=>?_) fun hp=>?_))
   .refine ws (ag ?_);refine af (aY (br (aR (av rfl ?_))));rw[DD hx hp hinv];rfl
   .refine bS (ag ?_);refine af (aK (k+1) (ap eH) ⟨oG,fun j y hj hy=>?_⟩ oG);by_cases e:j=k
    .subst e;rw[hx] at hy;cases hy;exact hp
    .exact hinv j y oG hy
  .have X:¬ k<l.length:=by simpa using h
   exact⟨.forget _ _ _ _ fun _=>.inr rfl,fun j y hy=>hinv j y (by have:=(bw.1 hy).1;omega) hy⟩
 .rintro s ⟨hg,J⟩;refine⟨_,hg,aj ?_⟩;refine SS ?_;refine af (av rfl ?_);rw[DE J];rfl
theorem E2{l:List kS}{g:FuncId}{fs cs:List D}{p:kS->Bool}(ht:Tr (.fn (.func g) fs cs))(hg:∀ x∈l,PCall prog g (fs++[.agg (mM x)]++cs) (B (p x))):PCall prog 254 [qJ l,.fn (.func g) fs cs] (B (l.any p)):=by
 have MI:=MI ht hg;refine bg Ux (.cons (kI _) (.cons ht .nil)) (Tr.s _) ?_;rw[afZ];refine ws (SS ?_);refine er (ag ?_);refine cl MI (ag ?_);refine af (av rfl ?_);rw[<- DM];rfl
theorem AH{l:List Int}{g:FuncId}{fs cs:List D}{p:Int->Bool}(ht:Tr (.fn (.func g) fs cs))(hg:∀ x∈l,PCall prog g (fs++[I x]++cs) (B (p x))):PCall prog 130 [au l,.fn (.func g) fs cs] (I (oc p l)):=by
 refine mJ L5.he (.cons (cL _) (.cons ht .nil)) fun C=>?_;have hlen:=(C (au l) oS).sl.1;unfold maxLen at hlen;refine bg L5 (.cons (cL _) (.cons ht .nil)) (Tr.s _) ?_;rw[af0];refine ws (SS ?_);refine af (aB (az (aq ?_)))
 refine af (bR (fun s=>Ghost prog s ⟨aD [],fun _=>none,0⟩/\∀ (j:Nat) y,l[j]? =some y->p y=false) (dV (α:=Nat) (fun k=>⟨aD [(0,au l),(1,.fn (.func g) fs cs),(7,I l.length),(8,I k)],fun _=>none,0⟩)
  (fun k=>k<=l.length/\∀ j y,j<k->l[j]? =some y->p y=false) (fun k=>l.length - k) 0 (ap eH) ⟨oG,fun j y hj=>by omega⟩ ?_) ?_)
 .rintro k ⟨hk,hinv⟩;refine SS ?_;refine af ⟨_,rfl,fun h=>?_,fun h=>?_⟩
  .have ao:k<l.length:=by simpa using h
   have hx:l[k]? =some l[k]:=by simp[ao]
   generalize l[k]=x at hx;have M:=hg x (bU hx);refine ws (ag ?_);refine er (aO ?_);refine cl M (af (aw rfl (fun hp=>?_) fun hp=>?_))
   .refine ws (ag ?_);refine af (aY (br (aR (av rfl ?_))));rw[DD hx hp hinv];rfl
   .refine bS (ag ?_);refine af (aK (k+1) (ap eH) ⟨oG,fun j y hj hy=>?_⟩ oG);by_cases e:j=k
    .subst e;rw[hx] at hy;cases hy;exact hp
    .exact hinv j y oG hy
  .have X:¬ k<l.length:=by simpa using h
   exact⟨.forget _ _ _ _ fun _=>.inr rfl,fun j y hy=>hinv j y (by have:=(bw.1 hy).1;omega) hy⟩
 .rintro s ⟨hg,J⟩;refine⟨_,hg,aj ?_⟩;refine SS ?_;refine af (av rfl ?_);rw[DE J];rfl
theorem sF{l:List Int}{g:FuncId}{fs cs:List D}{p:Int->Bool}(ht:Tr (.fn (.func g) fs cs))(hg:∀ x∈l,PCall prog g (fs++[I x]++cs) (B (p x))):PCall prog 119 [au l,.fn (.func g) fs cs] (B (l.any p)):=by
 have AH:=AH ht hg;refine bg Uy (.cons (cL _) (.cons ht .nil)) (Tr.s _) ?_;rw[af1];refine ws (SS ?_);refine er (ag ?_);refine cl AH (ag ?_);refine af (av rfl ?_);rw[<- DM];rfl
theorem nz{n a b:Int}:PCall prog 96 [I n,I a,I b] (B (dg n a b)):=by
 refine bg WV (by simp[Tr.s]) (Tr.s _) ?_;rw[akA];refine ws (SS ?_);refine er (aJ ?_);refine af (av (d:=.s (.bool _)) rfl ?_);simp[dg]
theorem akB{b:Int}:PCall prog 229 [U8 b] (B (uM b)):=by
 refine bg U2 (by simp[Tr.s]) (Tr.s _) ?_;rw[agC];refine ws (SS ?_);refine er (dA ?_);refine af (av (d:=.s (.bool _)) rfl ?_);simp[uM]
theorem akC{b:Int}:PCall prog 232 [U8 b] (B (uN b)):=by
 refine bg U3 (by simp[Tr.s]) (Tr.s _) ?_;rw[agD];refine ws (SS ?_);refine er (aJ ?_);refine bB ?_;refine af (av (d:=.s (.bool _)) rfl ?_);simp[uN]
theorem ua{s:ByteArray}:PCall prog 190 [S s] (B (lZ s)):=by
 refine bg U4 (by simp[Tr.s]) (Tr.s _) ?_;have xf:=xf (l:=c7 s) (g:=229) (fs:=[]) (cs:=[]) (p:=uM) (.fn oS oS) (fun x _=>akB);rw[agE];refine ws (SS ?_);refine er (ag ?_);refine cl nz (ag ?_);refine bt rfl rfl (QP rfl V.h V.h) (fun hc=>⟨ak,⟨V.h,by have:=lk.1 (by simpa using hc);unfold maxLen;omega⟩⟩) ?_;refine gc xf (aq ?_);refine af (av (d:=.s (.bool _)) rfl ?_);simp[lZ]
theorem E7{s:ByteArray}:PCall prog 194 [S s] (B (isName s)):=by
 refine bg U5 (by simp[Tr.s]) (Tr.s _) ?_;have xf:=xf (l:=c7 s) (g:=232) (fs:=[]) (cs:=[]) (p:=uN) (.fn oS oS) (fun x _=>akC);rw[agF];refine ws (SS ?_);refine er (ag ?_);refine cl nz (ag ?_);refine bt rfl rfl (QP rfl V.h V.h) (fun hc=>⟨ak,⟨V.h,by have:=lk.1 (by simpa using hc);unfold maxLen;omega⟩⟩) ?_;refine gc xf (aq ?_);refine af (av (d:=.s (.bool _)) rfl ?_);simp[isName]
theorem akD{s:ByteArray}:PCall prog 193 [S s] (B !(isName s)):=by
 refine bg U6 (by simp[Tr.s]) (Tr.s _) ?_;rw[agG];refine ws (SS ?_);refine er (SS ?_);refine cl E7 (ag ?_);refine af (av rfl rfl)
theorem akE{b m:Int}:PCall prog 230 [U8 b,.pt [U8 m]] (B (nE m b)):=by
 refine bg U7 (.cons (.s _) (.cons (.pt (by simp[Tr.s])) .nil)) (Tr.s _) ?_;rw[agH];refine ws (SS ?_);refine er (bK ?_);refine af (av (d:=.s (.bool _)) rfl ?_);simp[nE]
theorem MY{l:List Int}{m:Int}:PCall prog 191 [lh l,U8 m] (B (fy l m)):=by
 refine bg U9 (.cons (r6 _) (.cons (.s _) .nil)) (Tr.s _) ?_;have xf:=xf (l:=l) (g:=230) (fs:=[]) (cs:=[.pt [U8 m]]) (p:=nE m) (.fn oS (.cons (.pt (by simp[Tr.s])) .nil)) (fun x _=>akE);rw[agI];refine az (ag ?_);refine af (aW (bG [(0,[U8 m],5)] eH (l:=[(0,lh l),(3,.pt [U8 m])]) eH) (aj (ag ?_)));refine cl xf (ag ?_);refine af (av rfl rfl)
theorem J2{p q:D}{f:aG}(h:Real (.agg (bq p q f))):f.al.length<=maxLen/\f.aZ.length<=maxLen/\f.ac.length<=maxLen/\f.ab.length<=maxLen:=
 ⟨(h.agg (lh f.al) (by simp[bq])).sl.1,(h.agg (lh f.aZ) (by simp[bq])).sl.1,(h.agg (r9 f.ac) (by simp[bq])).sl.1,(h.agg (gz f.ab) (by simp[bq])).sl.1⟩
section
variable{p q:D}{f:aG}(hp:Tr p)(hq:Tr q)(fP:p.one=true)(gO:q.one=true)
include hp hq fP gO
theorem kq{n:Int}:PCall prog 233 [.agg (bq p q f),I n] (B (dg n 0 (f.ab.length - 1))):=by
 have C:∀ a∈[D.agg (bq p q f),I n],Tr a:=.cons (nJ hp hq f) (.cons (.s _) .nil);refine mJ Mj.he C fun J=>?_;obtain⟨M,X,l3,l4⟩:=J2 (J _ (List.mem_cons_self ..));unfold maxLen at*
 refine bg Mj C (Tr.s _) ?_;rw[agR];refine ws (ag ?_);refine er (bB ?_);refine cl nz (SS ?_);refine af (av rfl rfl)
theorem fX{r:Int}:PCall prog 234 [.agg (bq p q f),I r] (U8 (cG f.al r)):=by
 have C:∀ a∈[D.agg (bq p q f),I r],Tr a:=.cons (nJ hp hq f) (.cons (.s _) .nil);refine mJ Mk.he C fun M=>?_;obtain⟨X,l2,l3,l4⟩:=J2 (M _ (List.mem_cons_self ..));unfold maxLen at*
 refine bg Mk C (Tr.s _) ?_;rw[agS];refine ws (ag ?_);refine af (aB (aj (bB ?_)));refine cl nz (SS ?_);refine af (cx rfl (fun h=>?_) fun h=>?_)
 .refine aB (aj (SS ?_));refine af (bX (av rfl ?_));rw[JZ (fun J=>by simp[dg] at h;omega)];rfl
 .have J:0<=r/\r<f.al.length:=by simp[dg] at h;omega
  obtain⟨i,rfl⟩:=cU J.1;have ao:i<f.al.length:=by omega
  have hx:f.al[i]? =some f.al[i]:=by simp[ao]
  generalize f.al[i]=x at hx;refine bP (aj (dA ?_));refine af (av rfl ?_);rw[uP hx];rfl
theorem akO{r:Int}:PCall prog 256 [I r,.pt (bq p q f)] (B !(eY f.al r)):=by
 have C:∀ a∈[I r,D.pt (bq p q f)],Tr a:=.cons (.s _) (.cons (.pt (DO hp hq f)) .nil);have fX:=fX (f:=f) (r:=r) hp hq fP gO;refine bg Vg C (Tr.s _) ?_;rw[agT];refine ws (SS ?_);refine er (ag ?_);refine cl fX (aP ?_);refine gc fX (aq ?_);refine af (av (d:=.s (.bool _)) rfl ?_);unfold eY;generalize cG f.al r=k;show D.s (.bool _)=D.s (.bool _);simp only[bne];cases (k==1)<;>cases (k==2)<;>rfl
theorem jb{l:List Int}:PCall prog 237 [.agg (bq p q f),au l] (B (gZ f.al l)):=by
 have C:∀ a∈[D.agg (bq p q f),au l],Tr a:=.cons (nJ hp hq f) (.cons (cL _) .nil);have sF:=sF (l:=l) (g:=256) (fs:=[]) (cs:=[.pt (bq p q f)]) (p:=fun r=> !(eY f.al r)) (.fn oS (.cons (.pt (DO hp hq f)) .nil)) (fun x _=>akO hp hq fP gO);refine bg Vh C (Tr.s _) ?_;rw[agU];refine az (ag ?_);refine af (aW (bG [(0,bq p q f,133)] eH (l:=[(1,au l),(2,.pt (bq p q f))]) eH) (aj (ag ?_)));refine cl sF (ag ?_);refine af (av (d:=.s (.bool _)) rfl ?_);simp[gZ,List.all_eq_not_any_not]
theorem Is{r n:Int}:PCall prog 239 [.agg (bq p q f),I r,I n] (B (mW f.al f.aZ r n)):=by
 have J:∀ a∈[D.agg (bq p q f),I r,I n],Tr a:=.cons (nJ hp hq f) (.cons (.s _) (.cons (.s _) .nil));refine mJ Ml.he J fun M=>?_;obtain⟨l1,l2,l3,l4⟩:=J2 (M _ (List.mem_cons_self ..));unfold maxLen at*
 have fX:=fX (f:=f) (r:=r) hp hq fP gO;refine bg Ml J (Tr.s _) ?_;rw[agV];have nz:=nz (n:=n) (a:=0) (b:=f.aZ.length - 1);by_cases X:0<=n/\n<f.aZ.length
 .obtain⟨i,rfl⟩:=cU X.1;have ao:i<f.aZ.length:=by omega
  have hx:f.aZ[i]? =some f.aZ[i]:=by simp[ao]
  generalize f.aZ[i]=x at hx;have C:dg (i:Int) 0 (f.aZ.length - 1)=true:=lk.2 oG;rw[C] at nz;refine ws (ag ?_);refine af (dF Qm (bB ?_));refine cl nz (SS ?_);refine bt rfl rfl (ep (vs:=bq _ _ _) rfl rfl V.h V.h rfl) (fun hc=>⟨ak,(ez V.h V.h (by first|(simp;done)|omega|exact bE rfl))⟩) ?_;refine SS ?_;refine gc fX (aJ ?_);refine a8 bc (av (d:=.s (.bool _)) rfl ?_);simp[mW,C,uP hx]
 .have C:dg n 0 (f.aZ.length - 1)=false:=aa'.2 oG;rw[C] at nz;refine ws (ag ?_);refine af (dF Qm (bB ?_));refine cl nz (SS ?_);(iterate 10 refine z fun _ _=>?_);refine ag ?_;refine a8 bc (av (d:=.s (.bool _)) rfl ?_);simp[mW,C]
end
section
variable{p q:D}{f:aG}(hp:Tr p)(hq:Tr q)(fP:p.one=true)(gO:q.one=true)
include hp hq fP gO
theorem Ff{r want kd:Int}:PCall prog 253 [.agg (bq p q f),I r,I want,U8 kd] (B (mS f.al r want kd)):=by
 have C:∀ a∈[D.agg (bq p q f),I r,I want,U8 kd],Tr a:=.cons (nJ hp hq f) (.cons (.s _) (.cons (.s _) (.cons (.s _) .nil)));have fX:=fX (f:=f) (r:=r) hp hq fP gO;refine bg Vk C (Tr.s _) ?_;rw[agY];refine ws ?_;refine ag ?_;refine er ?_;refine aI (ep (vs:=bq _ _ _) rfl rfl V.h V.h rfl) ak (ez V.h V.h (by first|(simp;done)|omega|exact bE rfl)) ?_;refine SS ?_;refine cl fX ?_;refine SS ?_;refine af (aB (aj ?_));refine SS ?_;refine af (oI (aj ?_));refine ag ?_;refine af (aw rfl (fun h0=>?_) fun h0=>?_)
 .have h0:want=0:=by simpa using h0
  refine ws ?_;refine aq ?_;refine af (aY (bO (aR (av (d:=.s (.bool _)) rfl ?_))));simp[mS,h0]
 have h0:¬ want=0:=by simpa using h0
 refine ws ?_;refine ag ?_;refine af (aw rfl (fun h1=>?_) fun h1=>?_)
 .have h1:want=1:=by simpa using h1
  refine ws ?_;refine aq ?_;refine af (aY (bO (aR (av (d:=.s (.bool _)) rfl ?_))));simp[mS,h1]
 have h1:¬ want=1:=by simpa using h1
 refine ws ?_;refine ag ?_;refine af (aw rfl (fun h2=>?_) fun h2=>?_)
 .have h2:want=2:=by simpa using h2
  refine ws ?_;refine aq ?_;refine af (aY (bO (aR (av (d:=.s (.bool _)) rfl ?_))));simp[mS,h2]
 have h2:¬ want=2:=by simpa using h2
 refine ws ?_;refine ag ?_;refine af (aw rfl (fun h3=>?_) fun h3=>?_)
 .have h3:want=3:=by simpa using h3
  refine ws ?_;refine dA ?_;refine af (aY (bO (aR (av (d:=.s (.bool _)) rfl ?_))));simp[mS,h3,eY,ib]
 have h3:¬ want=3:=by simpa using h3
 refine nL (aj ?_);refine bK ?_;refine af (av (d:=.s (.bool _)) rfl ?_);simp[mS,h0,h1,h2,h3,ib,bne]
theorem CG{x:bC}{s:Shape}:PCall prog 235 [.agg (bq p q f),.agg (bu x),.agg (j7 s)] (B (qL f.al x s)):=by
 have J:∀ a∈[D.agg (bq p q f),.agg (bu x),.agg (j7 s)],Tr a:=.cons (nJ hp hq f) (.cons (.agg (sc x)) (.cons (.agg (Qp s)) .nil));have fX:=fun r=>fX (f:=f) (r:=r) hp hq fP gO;have Ff:= @Ff p q f hp hq fP gO;have jb:=jb (f:=f) hp hq fP gO (l:=x.args);have M:=nz (n:=x.n) (a:=s.low) (b:=s.high);refine bg Vl J (Tr.s _) ?_;rw[agZ];refine az ?_;refine ag ?_;refine iB (uW (cs:=j7 _) rfl) ak (by first|rfl|exact wq fP gO|exact me _|exact wO dP) ?_;refine SS ?_;refine af (aW (bG [(0,bq p q f,133),(1,bu x,66),(2,j7 s,205)] eH (l:=[(3,.pt (bq p q f)),(4,.pt (bu x)),(5,.pt (j7 s))]) eH) (aj ?_));have C:=fX;have fX:=fX x.to;refine aq ?_;refine cl fX ?_;refine SS ?_;refine af ?_;refine eI (fun s'=>Ghost prog s' ⟨aD [(3,.pt (bq p q f)),(4,.pt (bu x)),(5,.pt (j7 s)),(7,U8 (r8 f.al x s))],fun _=>none,3⟩) (aj ?_) fun s' hg=>⟨_,hg,?_⟩
 .refine bK ?_;refine af (aw rfl (fun h=>lx ?_) fun h=>bd ?_)
  .have h:s.to=0\/s.to=1:=by simpa[ib] using h
   have fX:=C x.a;refine aq ?_;refine cl fX ?_;refine SS ?_;refine af ?_;show Ghost _ _ _;refine ap (l:=[(3,_),(4,_),(5,_),(7,_)]) ⟨rfl,rfl,rfl,?_,trivial⟩;simp only[r8,if_pos h];rfl
  .have h:¬ (s.to=0\/s.to=1):=by simpa[ib] using h
   show Ghost _ _ _;refine ap (l:=[(3,_),(4,_),(5,_),(7,_)]) ⟨rfl,rfl,rfl,?_,trivial⟩;simp only[r8,if_neg h];rfl
 refine ws ?_;refine aO ?_;refine af ?_;refine eI (fun s'=>Ghost prog s' ⟨aD [(3,.pt (bq p q f)),(4,.pt (bu x)),(5,.pt (j7 s)),(7,U8 (r8 f.al x s)),(8,B (rZ f.al x s))],fun _=>none,3⟩) (aj ?_) fun s' hg=>⟨_,hg,?_⟩
 .refine ag ?_;refine af (oL (aj ?_));refine ag ?_;refine af (aw rfl (fun h=>nH ?_) fun h=>aj ?_)
  .have h:s.args=5:=by simpa using h
   have nz:=nz (n:=x.args.length) (a:=1) (b:=6);refine aq ?_;refine cl nz ?_;refine aP ?_;refine gc jb ?_;refine ag ?_;refine af ?_;refine ap ⟨rfl,rfl,rfl,rfl,?_,trivial⟩;show D.s (.bool _)=_;simp[rZ,h]
  .have h5:¬ s.args=5:=by simpa using h
   refine ag ?_;refine af (aw rfl (fun h=>nH ?_) fun h=>Ki ?_)
   .have h:s.args=6:=by simpa using h
    refine bK ?_;refine gc jb ?_;refine ag ?_;refine af ?_;refine ap ⟨rfl,rfl,rfl,rfl,?_,trivial⟩;show D.s (.bool _)=_;simp[rZ,h,ib]
   .have X:¬ s.args=6:=by simpa using h
    refine ap ⟨rfl,rfl,rfl,rfl,?_,trivial⟩;show D.s (.bool _)=_;simp[rZ,h5,X,ib]
 refine ws ?_;refine aO ?_;refine cl Ff ?_;refine dA ?_;refine gc Ff ?_;refine bK ?_;refine gc Ff ?_;refine aJ ?_;refine ag ?_;refine gc nz ?_;refine ag ?_;refine af (av (d:=.s (.bool _)) rfl ?_);simp[qL,Bool.and_assoc]
end
theorem Na{x:bC}:PCall prog 257 [.agg (bu x)] (B (EB x)):=by
 have C:∀ a∈[D.agg (bu x)],Tr a:=.cons (.agg (sc x)) .nil;refine bg Vq C (Tr.s _) ?_;rw[ag3];refine ws ?_;refine ag ?_;refine er ?_;refine aJ ?_;refine aJ ?_;refine aJ ?_;refine aq ?_;refine af (av (d:=.s (.bool _)) rfl ?_);simp only[EB,ib];cases decide (x.op=0)<;>cases decide (x.to=0)<;>cases decide (x.a=0)<;>cases decide (x.b=0)<;>cases decide (x.n=0)<;>rfl
theorem Nb{x:Argus.End}:PCall prog 238 [.agg (bh x)] (B (AA x)):=by
 have C:∀ a∈[D.agg (bh x)],Tr a:=.cons (.agg (lT x)) .nil;have Na:=Na (x:=x.ins);refine bg Vr C (Tr.s _) ?_;rw[ag4];refine ws ?_;refine ag ?_;refine er ?_;refine aJ ?_;refine aJ ?_;refine aJ ?_;refine aJ ?_;refine aJ ?_;refine ag ?_;refine bt rfl rfl (ep (vs:=bu _) rfl rfl V.h V.h rfl) (fun hc=>⟨ak,(ez V.h V.h (by first|(simp;done)|omega|exact bE rfl))⟩) ?_;refine gc Na ?_;refine ag ?_;refine af (av (d:=.s (.bool _)) rfl ?_);have:decide (x.name.toList=[])=x.name.toList.isEmpty:=by cases x.name.toList<;>rfl
 simp[AA,ib,Bool.and_assoc,this]
theorem ak0{w v:kS}:PCall prog 255 [.agg (mM v),.pt (mM w)] (B (v.name.toList==w.name.toList)):=by
 have C:∀ a∈[D.agg (mM v),.pt (mM w)],Tr a:=.cons (.agg (Hd v)) (.cons (.pt (Hd w)) .nil);refine bg Vs C (Tr.s _) ?_;rw[ag5];refine ws ?_;refine iB (uW (cs:=mM _) rfl) ak (by first|rfl|exact wq fP gO|exact me _|exact wO dP) ?_;refine SS ?_;refine er ?_;refine aP ?_;refine aI (Lg rfl rfl) ak trivial ?_;refine SS ?_;exact af (av rfl rfl)
section
variable{p q:D}{f:aG}(hp:Tr p)(hq:Tr q)(fP:p.one=true)(gO:q.one=true)
include hp hq fP gO
theorem vB{x:Argus.End}:PCall prog 236 [.agg (bq p q f),.agg (bh x)] (B (nG f x)):=by
 have J:∀ a∈[D.agg (bq p q f),.agg (bh x)],Tr a:=.cons (nJ hp hq f) (.cons (.agg (lT x)) .nil);refine mJ Mm.he J fun X=>?_;have hlen:x.aL.length<=maxLen:=((X _ (List.mem_cons_of_mem _ (List.mem_cons_self ..))).agg (qJ x.aL) (by simp[bh])).sl.1;unfold maxLen at hlen;have kq:= @kq p q f hp hq fP gO;refine bg Mm J (Tr.s _) ?_;rw[ag6];refine az ?_;refine aq ?_;refine af (aW (bG [(0,bq p q f,133),(1,bh x,69)] eH (l:=[(2,.pt (bq p q f)),(3,.pt (bh x))]) eH) (aB (az ?_)));refine aP ?_
 refine af (bR (fun s=>∃ n,Ghost prog s ⟨aD [(2,.pt (bq p q f)),(3,.pt (bh x))],fun _=>none,n⟩/\∀ (j:Nat) y,x.aL[j]? =some y->qc f x.aL j y=true) (dV (α:=Nat) (fun k=>⟨aD [(2,.pt (bq p q f)),(3,.pt (bh x)),(8,qJ x.aL),(9,I x.aL.length),(10,I k)],fun _=>none,2+k⟩)
  (fun k=>k<=x.aL.length/\∀ j y,j<k->x.aL[j]? =some y->qc f x.aL j y=true) (fun k=>x.aL.length - k) 0 (ap eH) ⟨oG,fun j y hj=>by omega⟩ ?_) ?_)
 .rintro k ⟨hk,hinv⟩;refine SS ?_;refine af ⟨_,rfl,fun h=>?_,fun h=>?_⟩
  .have ao:k<x.aL.length:=by simpa using h
   have hx:x.aL[k]? =some x.aL[k]:=by simp[ao]
   generalize x.aL[k]=w at hx;refine az ?_;refine bB ?_;refine af (aW (bG [(2+k,mM w,199)] ⟨up_same _ _ _,trivial⟩ (l:=[(2,.pt (bq p q f)),(3,.pt (bh x)),(5,I k),(6,.pt (mM w)),(8,qJ x.aL),(9,I x.aL.length),(10,I k)]) ⟨rfl,rfl,rfl,oZ (sz:=prog.cellsOf 199),rfl,rfl,rfl,trivial⟩) (aj ?_));have E7:=E7 (s:=w.name);have E2:=E2 (l:=x.aL.take k) (g:=255) (fs:=[]) (cs:=[.pt (mM w)]) (p:=fun v=>v.name.toList==w.name.toList) (.fn oS (.cons (.pt (Hd w)) .nil)) (fun v _=>ak0);unfold qJ at E2;rw[<- ad3 DA hk] at E2;refine ag ?_;refine cl E7 ?_;refine aO ?_;refine gc kq ?_;refine bB ?_;refine bt rfl rfl (ww rfl V.h V.h rfl rfl rfl) (fun hc=>⟨ak,⟨V.h,oG,oG,oG⟩⟩) ?_;refine bt rfl rfl (Tf rfl rfl) (fun hc=>⟨ak,trivial⟩) ?_;refine gc E2 ?_;refine SS ?_;have hb:((isName w.name&&(cu f w.to&& !(x.aL.take k).any fun v=>v.name.toList==w.name.toList)))=qc f x.aL k w:=rfl;refine af (aw rfl (fun hp=>?_) fun hp=>?_)
   .refine ws ?_;refine SS ?_;refine af (aY (br (aR (av (d:=.s (.bool _)) rfl ?_))))
    have C:qc f x.aL k w=false:=by
     rw[<- hb];simp only[cu];revert hp;generalize isName w.name=a;generalize dg w.to 0 (f.ab.length - 1)=b;generalize (List.any _ _)=c;cases a<;>cases b<;>cases c<;>simp
    simp[nG,Jx hx C]
   .refine bS ?_
    have C:qc f x.aL k w=true:=by
     rw[<- hb];simp only[cu];revert hp;generalize isName w.name=a;generalize dg w.to 0 (f.ab.length - 1)=b;generalize (List.any _ _)=c;cases a<;>cases b<;>cases c<;>simp
    refine ag ?_;refine af (aK (k+1) (ap eH) ⟨oG,fun j y hj hy=>?_⟩ oG);by_cases e:j=k
    .subst e;rw[hx] at hy;cases hy;exact C
    .exact hinv j y oG hy
  .have a9:¬ k<x.aL.length:=by simpa using h
   exact⟨2+k,.forget _ _ _ _ fun t=>pN (l:=[(2,.pt (bq p q f)),(3,.pt (bh x))]) ⟨rfl,rfl,trivial⟩ t,fun j y hy=>hinv j y (by have:=(bw.1 hy).1;omega) hy⟩
 .rintro s ⟨n,hg,M⟩;refine⟨_,hg,aj ?_⟩;refine aq ?_;refine WO ?_;refine bK ?_;refine gc kq ?_;refine aq ?_;refine af (av (d:=.s (.bool _)) rfl ?_);have ou:=Pu M;simp[nG,cu,ou,ib]
end
abbrev P0:D:=.im (sN pW)
abbrev Q0:D:=.im (sN ke)
theorem ak3:PCall prog 166 [] (.tup [P0,Q0]):=by
 refine bg Vt Tr.nil (.tup (.cons (Cp _) (.cons (Cp _) .nil))) ?_;rw[ag7];refine ws (aI (oJ (v:=.s (.map none)) rfl) ak trivial (aI (oJ (v:=.s (.map none)) rfl) ak trivial (er (aJ ?_))));refine aJ ?_;refine aJ ?_;refine bB ?_;refine er (aJ ?_);refine aJ ?_;refine aq ?_;refine af (az (aP ?_));exact af (aW (acL [(0,sN pW),(1,sN ke)] eH (l:=[(0,P0),(1,Q0)]) eH) (fk rfl rfl rfl))
abbrev tS(f:aG):D:=.agg (bq P0 Q0 f)
theorem M7{f:aG}:PCall prog 189 [.agg (aH f)] (tS f):=by
 have C:∀ a∈[D.agg (aH f)],Tr a:=.cons (.agg (iu f)) .nil;refine bg Vu C (nJ (Cp _) (Cp _) f) ?_;rw[ag8];refine ws (ag ?_);refine er (cl ak3 (SS ?_));refine aI (te (v:=.im _) rfl rfl) ak (by first|decide|simp) ?_;refine aI (te (v:=.im _) rfl rfl) ak (by first|decide|simp) ?_;refine aI (oJ (v:=.im _) rfl) ak trivial (aI (oJ (v:=.im _) rfl) ak trivial (er (SS ?_)));refine aI (kL (v:=.im _) rfl) ak trivial (aI (kL (v:=.im _) rfl) ak trivial (W5 ?_));refine cA (jk (cs':=bq _ _ _) rfl rfl rfl rfl) ak (du V.h V.h (by first|(simp;done)|exact⟨rfl,bE rfl⟩|(simp;omega)) (by rfl)) ?_;refine af (nK (mI rfl rfl Xp Xq rfl t133 oS) ?_);rfl
theorem mX:Tr P0:=Cp _
theorem mY:Tr Q0:=Cp _
section
variable{p q:D}{f:aG}(hp:Tr p)(hq:Tr q)(fP:p.one=true)(gO:q.one=true)
include hp hq fP gO
theorem ak5{r kd:Int}:PCall prog 240 [I r,.pt (bq p q f),.pt [U8 kd]] (B !(aX (cG f.al r) kd)):=by
 have C:∀ a∈[I r,.pt (bq p q f),.pt [U8 kd]],Tr a:=.cons (.s _) (.cons (.pt (DO hp hq f)) (.cons (.pt (.cons (.s _) .nil)) .nil));have fX:=fX (f:=f) (r:=r) hp hq fP gO;refine bg Vx C (Tr.s _) ?_;rw[aho];refine ws ?_;refine SS ?_;refine af (dF abk ?_);refine ag ?_;refine cl fX ?_;refine aq ?_;refine a8 bc ?_;refine av (d:=.s (.bool _)) rfl ?_;rfl
end
theorem Iq{f:aG}{b ahead:Int}{x:bC}{phis:Bool}:PCall prog 196 [tS f,I b,.agg (bu x),B phis,I ahead] (B (jO f b x phis ahead)):=by
 have M:∀ a∈[tS f,I b,.agg (bu x),B phis,I ahead],Tr a:=.cons (nJ mX mY f) (.cons (.s _) (.cons (.agg (sc x)) (.cons (.s _) (.cons (.s _) .nil))));have fX:= @fX P0 Q0 f mX mY rfl rfl;have Is:= @Is P0 Q0 f mX mY rfl rfl;have jb:= @jb P0 Q0 f mX mY rfl rfl;have CG:= @CG P0 Q0 f mX mY rfl rfl;refine bg Vy M (Tr.s _) ?_;rw[ahp];refine az ?_;refine aq ?_;refine af (aW (bG [(0,bq P0 Q0 f,133),(1,bu x,66)] eH (l:=[(1,I b),(3,B phis),(4,I ahead),(5,.pt (bq P0 Q0 f)),(7,.pt (bu x))]) eH) (aB (aj ?_)));refine ag ?_;refine af (oI (aj ?_));refine ag ?_;refine af (aw rfl (fun h0=>?_) fun h0=>?_)
 .have h0:x.op=16:=by simpa using h0
  refine ws ?_;refine dA ?_;refine gc fX ?_;refine aJ ?_;refine bK ?_;refine ag ?_;refine af (aY (bO (aR (av (d:=.s (.bool _)) rfl ?_))));simp[jO,h0,aX,kf,ib,Bool.and_assoc]
 have h0:¬ x.op=16:=by simpa using h0
 refine ws ?_;refine ag ?_;refine af (aw rfl (fun h1=>?_) fun h1=>?_)
 .have h1:x.op=17:=by simpa using h1
  refine ws ?_;refine aJ ?_;refine aJ ?_;refine ag ?_;refine gc Is ?_;refine ag ?_;refine af (aY (bO (aR (av (d:=.s (.bool _)) rfl ?_))));simp[jO,h1,aX,kf,ib,Bool.and_assoc]
 have h1:¬ x.op=17:=by simpa using h1
 refine ws ?_;refine ag ?_;refine af (aw rfl (fun h2=>?_) fun h2=>?_)
 .have h2:x.op=18:=by simpa using h2
  refine ws ?_;refine aJ ?_;refine aJ ?_;refine ag ?_;refine gc Is ?_;refine ag ?_;refine af (aY (bO (aR (av (d:=.s (.bool _)) rfl ?_))));simp[jO,h2,aX,kf,ib,Bool.and_assoc]
 have h2:¬ x.op=18:=by simpa using h2
 refine ws ?_;refine ag ?_;refine af (aw rfl (fun h3=>?_) fun h3=>?_)
 .have h3:x.op=19:=by simpa using h3
  refine az ?_;refine aq ?_;refine cl fX ?_;refine SS ?_;refine Wr ?_;refine af (aW (bG [(2,[U8 (cG f.al x.to)],5)] eH (l:=[(1,I b),(3,B phis),(4,I ahead),(5,.pt (bq P0 Q0 f)),(7,.pt (bu x)),(11,.pt [U8 (cG f.al x.to)])]) eH) (aj ?_));have sF:=sF (l:=x.args) (g:=240) (fs:=[]) (cs:=[.pt (bq P0 Q0 f),.pt [U8 (cG f.al x.to)]]) (p:=fun r=> !(aX (cG f.al r) (cG f.al x.to))) (.fn oS (.cons (.pt (DO mX mY f)) (.cons (.pt (.cons (.s _) .nil)) .nil))) (fun r _=>ak5 mX mY rfl rfl);refine aq ?_;refine cl sF ?_;refine SS ?_;refine er ?_;by_cases hb:phis=true/\0<b
  .obtain⟨rfl,hb⟩:=hb;have eM:decide (0<b)=true:=by simpa using hb
   have jb:=jb (l:=[x.to]);have C:∀ {m:Mem},m 3=some (.cells [I x.to] 3)->Sns prog [3] m [tS f,.rs 3 0 1] [tS f,au [x.to]]:=fun hm=>⟨c8 (nJ mX mY f),L1 hm oS (by rw[c3];rfl) (.cons (.s _) .nil),trivial⟩
   refine bK ?_;refine ag ?_;refine HE jb rfl rfl rfl rfl (C rfl) ak ?_;refine aJ ?_;refine aJ ?_;refine bK ?_;refine ag ?_;refine af (aY (bO (aR (av (d:=.s (.bool _)) rfl ?_))));simp[jO,h3,hb,aX,kf,ib,Bool.and_assoc,gZ]
  .have hf:jO f b x phis ahead=false:=by
    cases phis with
    |false=>simp[jO,h3]
    |true=>simp[jO,h3,show ¬ 0<b by simpa using hb]
   have hf:D.s (.bool false)=B (jO f b x phis ahead):=by rw[hf]
   cases phis with
   |false=>
    refine ag ?_;(iterate 2 refine z fun _ _=>?_);refine ag ?_;(iterate 5 refine z fun _ _=>?_);refine ag ?_;(iterate 3 refine z fun _ _=>?_);refine ag ?_;(iterate 3 refine z fun _ _=>?_);refine ag ?_;(iterate 3 refine z fun _ _=>?_);refine ag ?_;(iterate 5 refine z fun _ _=>?_);refine ag ?_;(iterate 2 refine z fun _ _=>?_);refine ag ?_;exact af (aY (bO (aR (av (d:=.s (.bool _)) rfl hf))))
   |true=>
    have eM:decide (0<b)=false:=by simpa using hb
    refine bB ?_;(iterate 5 refine z fun _ _=>?_);refine ag ?_;(iterate 3 refine z fun _ _=>?_);refine ag ?_;(iterate 3 refine z fun _ _=>?_);refine ag ?_;(iterate 3 refine z fun _ _=>?_);refine ag ?_;(iterate 5 refine z fun _ _=>?_);refine ag ?_;(iterate 2 refine z fun _ _=>?_);refine ag ?_;exact af (aY (bO (aR (av (d:=.s (.bool _)) rfl hf))))
 have h3:¬ x.op=19:=by simpa using h3
 refine nL (aj ?_);have X:gotD prog 131 true (lookD (.int .u8 x.op) (sN pW))=.tup [.agg (j7 ((gA pW x.op).getD Ah)),.s (.bool (gA pW x.op).isSome)]:=TJ rfl _ _ (by rw[Mo];unfold zeroD;rw[Nc,Nd];rfl);have J:=R6 (P:=prog) (kt:=5) u5 pW;refine aP ?_;refine aI (GC rfl rfl V.h X) ak ⟨V.h,by kernel_rfl,J⟩ ?_;refine SS ?_;refine aI (te (v:=.agg (j7 _)) rfl rfl) ak (by first|decide|simp) ?_;refine ag ?_;refine cA (jk (cs':=j7 _) rfl rfl rfl rfl) ak (du V.h V.h (by first|(simp;done)|exact⟨rfl,bE rfl⟩|(simp;omega)) (by rfl)) ?_;refine SS ?_;refine er ?_;refine aP ?_;refine bt rfl rfl (ep (vs:=j7 _) rfl rfl V.h V.h rfl) (fun hc=>⟨ak,(ez V.h V.h (by first|(simp;done)|omega|exact bE rfl))⟩) ?_;refine gc CG ?_;refine ag ?_;refine af (av (d:=.s (.bool _)) rfl ?_);simp[jO,h0,h1,h2,h3]
def VG(f:aG)(x:Argus.End)(s:St):Prop:=∃ cells n,Ghost prog s ⟨aD [(2,.pt (bq P0 Q0 f)),(3,.pt (bh x)),(5,.rp 2 0),(6,B (gK f x).1)],up (fun _=>none) 2 (some (.cells cells 69)),n⟩/\cells.length=15/\∀ m,Sns prog [2] m cells (bh (gK f x).2)
theorem vR{l:List Int}{r:Int}:gZ l [r]=eY l r:=by simp[gZ]
theorem og{f:aG}{x r:Argus.End}{env:Env}{m:Mem}{nx:Nat}{cells:List D}{ok:Bool}(hr:gK f x=(ok,r))(he:jN [(2,.pt (bq P0 Q0 f)),(3,.pt (bh x)),(5,.rp 2 0),(6,B ok)] env)(hm:m 2=some (.cells cells 69))(hl:cells.length=15)
 (hs:∀ m,Sns prog [2] m cells (bh r)):VG f x ⟨env,m,nx⟩:=by
 refine⟨cells,nx,?_,hl,?_⟩
 .rw[hr];exact Re he (ab5 hm)
 .rw[hr];exact hs
theorem Ip{f:aG}{x:Argus.End}:PCall prog 195 [tS f,.agg (bh x)] (B (j9 f x)):=by
 have a7:∀ a∈[tS f,.agg (bh x)],Tr a:=.cons (nJ mX mY f) (.cons (.agg (lT x)) .nil);have kq:= @kq P0 Q0 f mX mY rfl rfl;have fX:= @fX P0 Q0 f mX mY rfl rfl;have jb:= @jb P0 Q0 f mX mY rfl rfl;have CG:= @CG P0 Q0 f mX mY rfl rfl;have vB:= @vB P0 Q0 f mX mY rfl rfl;refine bg VH a7 (Tr.s _) ?_;rw[ahW];refine az ?_;refine aq ?_;refine af (aW (bG [(0,bq P0 Q0 f,133),(1,bh x,69)] eH (l:=[(2,.pt (bq P0 Q0 f)),(3,.pt (bh x))]) eH) (aj ?_));refine ag ?_;refine Xr ?_;refine SS ?_;refine er ?_;refine ag ?_;refine af ?_;refine eI (VG f x) (aj ?_) fun s hs=>?_
 .refine ag ?_;refine af (oL (aj ?_));refine ag ?_;refine af (aw rfl (fun h=>?_) fun h=>?_)
  .have h:x.kind=1:=by simpa using h
   refine nH ?_;refine aq ?_;refine cl kq ?_;refine aq ?_;refine af ?_;exact og (r:={ x with kind:=0,to:=0 }) (by simp[gK,h,aX,ib,Bool.and_assoc,cu]) ⟨rfl,rfl,rfl,rfl,trivial⟩ rfl rfl (fun m=>by repeat' (first|exact trivial|exact c8 (Tr.s _)|exact c8 (cL _)|exact c8 (kI _)|exact oh|refine And.intro ?_ ?_))
  have h1:¬ x.kind=1:=by simpa using h
  clear h;refine ws ?_;refine ag ?_;refine af (aw rfl (fun h=>?_) fun h=>?_)
  .have h:x.kind=2:=by simpa using h
   refine nH ?_;refine aq ?_;refine cl fX ?_;refine aO ?_;refine gc kq ?_;refine aO ?_;refine gc kq ?_;refine bK ?_;refine af ?_;exact og (r:={ x with kind:=0,a:=0,to:=0,gF:=0 }) (by simp[gK,h,aX,ib,Bool.and_assoc,cu]) ⟨rfl,rfl,rfl,rfl,trivial⟩ rfl rfl (fun m=>by repeat' (first|exact trivial|exact c8 (Tr.s _)|exact c8 (cL _)|exact c8 (kI _)|exact oh|refine And.intro ?_ ?_))
  have h2:¬ x.kind=2:=by simpa using h
  clear h;refine ws ?_;refine ag ?_;refine af (aw rfl (fun h=>?_) fun h=>?_)
  .have h:x.kind=3:=by simpa using h
   refine ws ?_;refine bB ?_;refine er ?_;refine bK ?_;refine ag ?_;refine af (aw rfl (fun hr=>?_) fun hr=>?_)
   .have hr:f.result≠0/\f.iter=false:=by simpa[bne,ib] using hr
    refine Kk aaf ?_;refine aq ?_;refine cl fX ?_;refine aO ?_;refine a8 bc ?_;exact og (r:={ x with kind:=0,a:=0 }) (by simp[gK,h,aX,ib,Bool.and_assoc,hr.1,hr.2]) ⟨rfl,rfl,rfl,rfl,trivial⟩ rfl rfl (fun m=>by repeat' (first|exact trivial|exact c8 (Tr.s _)|exact c8 (cL _)|exact c8 (kI _)|exact oh|refine And.intro ?_ ?_))
   .have hr:¬ (f.result≠0/\f.iter=false):=by simpa[bne,ib] using hr
    refine Ki ?_;exact og (r:={ x with kind:=0,a:=0 }) (by simp only[gK,h];simp only[if_neg hr];simp[aX,ib]) ⟨rfl,rfl,rfl,rfl,trivial⟩ rfl rfl (fun m=>by repeat' (first|exact trivial|exact c8 (Tr.s _)|exact c8 (cL _)|exact c8 (kI _)|exact oh|refine And.intro ?_ ?_))
  have h3:¬ x.kind=3:=by simpa using h
  clear h;refine ws ?_;refine ag ?_;refine af (aw rfl (fun h=>?_) fun h=>?_)
  .have h:x.kind=4:=by simpa using h
   refine nH ?_;refine ag ?_;refine cl E7 ?_;refine aq ?_;refine af ?_;exact og (r:={ x with kind:=0,name:=.empty }) (by simp[gK,h,aX,ib,Bool.and_assoc]) ⟨rfl,rfl,rfl,rfl,trivial⟩ rfl rfl (fun m=>by repeat' (first|exact trivial|exact c8 (Tr.s _)|exact c8 (cL _)|exact c8 (kI _)|exact oh|refine And.intro ?_ ?_))
  have h4:¬ x.kind=4:=by simpa using h
  clear h;refine ws ?_;refine ag ?_;refine af (aw rfl (fun h=>?_) fun h=>?_)
  .have h:x.kind=5:=by simpa using h
   refine ws ?_;have kg:gotD prog 131 true (lookD (.int .u8 x.ins.op) (sN ke))=.tup [.agg (j7 ((gA ke x.ins.op).getD Ah)),.s (.bool (gA ke x.ins.op).isSome)]:=TJ rfl _ _ (by rw[Mo];unfold zeroD;rw[Nc,Nd];rfl);have OH:=R6 (P:=prog) (kt:=5) u5 ke;refine aO ?_;refine aI (GC rfl rfl V.h kg) ak ⟨V.h,by kernel_rfl,OH⟩ ?_;refine SS ?_;refine aI (te (v:=.agg (j7 _)) rfl rfl) ak (by first|decide|simp) ?_;refine ag ?_;refine cA (jk (cs':=j7 _) rfl rfl rfl rfl) ak (du V.h V.h (by first|(simp;done)|exact⟨rfl,bE rfl⟩|(simp;omega)) (by rfl)) ?_;refine SS ?_;refine er ?_;refine aO ?_;refine bt rfl rfl (ep (vs:=j7 _) rfl rfl V.h V.h rfl) (fun hc=>⟨ak,(ez V.h V.h (by first|(simp;done)|omega|exact bE rfl))⟩) ?_;refine gc CG ?_;refine aO ?_;refine gc kq ?_;refine aP ?_;refine gc vB ?_;refine ag ?_;refine af (nH ?_);refine aJ ?_;refine af ?_;exact og (r:={ x with kind:=0,ins:=eB,to:=0,aL:=[],cX:= -1 }) (by simp[gK,h,aX,ib,Bool.and_assoc,cu]) ⟨rfl,rfl,rfl,rfl,trivial⟩ rfl rfl (fun m=>by repeat' (first|exact trivial|exact c8 (Tr.s _)|exact c8 (cL _)|exact c8 (kI _)|exact oh|refine And.intro ?_ ?_))
  have h5:¬ x.kind=5:=by simpa using h
  clear h;refine ws ?_;refine ag ?_;refine af (aw rfl (fun h=>?_) fun h=>?_)
  .have h:x.kind=6:=by simpa using h
   refine ws ?_;have ua:=ua (s:=x.name);have ahX:=jb (l:=[x.a]);have jb:=jb (l:=x.args);have afd:∀ {m:Mem},m 3=some (.cells [I x.a] 3)->Sns prog [3] m [tS f,.rs 3 0 1] [tS f,au [x.a]]:=fun hm=>⟨c8 (nJ mX mY f),L1 hm oS (by rw[c3];rfl) (.cons (.s _) .nil),trivial⟩
   cases C:lZ x.name with
   |false=>
    rw[C] at ua;refine ag ?_;refine cl ua ?_;refine bK ?_;refine ag ?_;refine gc jb ?_;refine aJ ?_;(iterate 3 refine z fun _ _=>?_);refine aO ?_;refine gc kq ?_;refine aP ?_;refine gc vB ?_;refine ag ?_;refine af (nH ?_);refine aJ ?_;refine aq ?_;refine af ?_;exact og (r:={ x with kind:=0,name:=.empty,args:=[],a:=0,to:=0,aL:=[],cX:= -1 }) (by simp[gK,h,aX,ib,Bool.and_assoc,cu,C]) ⟨rfl,rfl,rfl,rfl,trivial⟩ rfl rfl (fun m=>by repeat' (first|exact trivial|exact c8 (Tr.s _)|exact c8 (cL _)|exact c8 (kI _)|exact oh|refine And.intro ?_ ?_))
   |true=>
    rw[C] at ua;by_cases J:(x.args.length:Int)<=6
    rotate_left
    .have E1:decide ((x.args.length:Int)<=6)=false:=by simpa using J
     refine ag ?_;refine cl ua ?_;refine bK ?_;refine ag ?_;refine gc jb ?_;refine aJ ?_;(iterate 3 refine z fun _ _=>?_);refine aO ?_;refine gc kq ?_;refine aP ?_;refine gc vB ?_;refine ag ?_;refine af (nH ?_);refine aJ ?_;refine aq ?_;refine af ?_;exact og (r:={ x with kind:=0,name:=.empty,args:=[],a:=0,to:=0,aL:=[],cX:= -1 }) (by simp[gK,h,aX,ib,Bool.and_assoc,cu,C,J]) ⟨rfl,rfl,rfl,rfl,trivial⟩ rfl rfl (fun m=>by repeat' (first|exact trivial|exact c8 (Tr.s _)|exact c8 (cL _)|exact c8 (kI _)|exact oh|refine And.intro ?_ ?_))
    have E1:decide ((x.args.length:Int)<=6)=true:=by simpa using J
    cases M:gZ f.al x.args with
    |false=>
     rw[M] at jb;refine ag ?_;refine cl ua ?_;refine bK ?_;refine ag ?_;refine gc jb ?_;refine aJ ?_;(iterate 3 refine z fun _ _=>?_);refine aO ?_;refine gc kq ?_;refine aP ?_;refine gc vB ?_;refine ag ?_;refine af (nH ?_);refine aJ ?_;refine aq ?_;refine af ?_;exact og (r:={ x with kind:=0,name:=.empty,args:=[],a:=0,to:=0,aL:=[],cX:= -1 }) (by simp[gK,h,aX,ib,Bool.and_assoc,cu,C,J,M]) ⟨rfl,rfl,rfl,rfl,trivial⟩ rfl rfl (fun m=>by repeat' (first|exact trivial|exact c8 (Tr.s _)|exact c8 (cL _)|exact c8 (kI _)|exact oh|refine And.intro ?_ ?_))
    |true=>
     rw[M] at jb;by_cases X:x.a= -1
     .have dY:(x.a== -1)=true:=by simpa using X
      refine ag ?_;refine cl ua ?_;refine bK ?_;refine ag ?_;refine gc jb ?_;refine aJ ?_;(iterate 2 refine z fun _ _=>?_);refine bB ?_;refine gc kq ?_;refine aP ?_;refine gc vB ?_;refine ag ?_;refine af (nH ?_);refine aJ ?_;refine aq ?_;refine af ?_;exact og (r:={ x with kind:=0,name:=.empty,args:=[],a:=0,to:=0,aL:=[],cX:= -1 }) (by simp[gK,h,aX,ib,Bool.and_assoc,cu,C,J,M,X]) ⟨rfl,rfl,rfl,rfl,trivial⟩ rfl rfl (fun m=>by repeat' (first|exact trivial|exact c8 (Tr.s _)|exact c8 (cL _)|exact c8 (kI _)|exact oh|refine And.intro ?_ ?_))
     .have dY:(x.a== -1)=false:=by simpa using X
      refine ag ?_;refine cl ua ?_;refine bK ?_;refine ag ?_;refine gc jb ?_;refine bK ?_;refine ag ?_;refine HE ahX rfl rfl rfl rfl (afd rfl) ak ?_;refine bB ?_;refine gc kq ?_;refine aP ?_;refine gc vB ?_;refine ag ?_;refine af (nH ?_);refine aJ ?_;refine aq ?_;refine af ?_;exact og (r:={ x with kind:=0,name:=.empty,args:=[],a:=0,to:=0,aL:=[],cX:= -1 }) (by simp[gK,h,aX,ib,Bool.and_assoc,cu,C,J,M,X,vR]) ⟨rfl,rfl,rfl,rfl,trivial⟩ rfl rfl (fun m=>by repeat' (first|exact trivial|exact c8 (Tr.s _)|exact c8 (cL _)|exact c8 (kI _)|exact oh|refine And.intro ?_ ?_))
  have h6:¬ x.kind=6:=by simpa using h
  clear h;refine ws ?_;refine ag ?_;refine af (aw rfl (fun h=>?_) fun h=>?_)
  .have h:x.kind=7:=by simpa using h
   refine ws ?_;refine ag ?_;refine cl ua ?_;refine bK ?_;refine ag ?_;refine gc jb ?_;refine aO ?_;refine gc fX ?_;refine bB ?_;refine gc kq ?_;refine ag ?_;refine af (nH ?_);refine bK ?_;refine af ?_;exact og (r:={ x with kind:=0,name:=.empty,args:=[],a:=0,to:=0 }) (by simp[gK,h,aX,ib,Bool.and_assoc,cu]) ⟨rfl,rfl,rfl,rfl,trivial⟩ rfl rfl (fun m=>by repeat' (first|exact trivial|exact c8 (Tr.s _)|exact c8 (cL _)|exact c8 (kI _)|exact oh|refine And.intro ?_ ?_))
  have h7:¬ x.kind=7:=by simpa using h
  clear h;refine ws ?_;refine ag ?_;refine af (aw rfl (fun h=>?_) fun h=>?_)
  .have h:x.kind=8:=by simpa using h
   refine ws ?_;have jb:=jb (l:=[x.b]);have Mn:∀ {m:Mem},m 3=some (.cells [I x.b] 3)->Sns prog [3] m [tS f,.rs 3 0 1] [tS f,au [x.b]]:=fun hm=>⟨c8 (nJ mX mY f),L1 hm oS (by rw[c3];rfl) (.cons (.s _) .nil),trivial⟩
   by_cases C:cG f.al x.a=3
   .have dY:(cG f.al x.a==3)=true:=by simpa using C
    refine aq ?_;refine cl fX ?_;refine bB ?_;refine HE jb rfl rfl rfl rfl (Mn rfl) ak ?_;refine aO ?_;refine gc kq ?_;refine aO ?_;refine gc kq ?_;refine aP ?_;refine gc vB ?_;refine ag ?_;refine af (nH ?_);refine aJ ?_;refine aq ?_;refine af ?_;exact og (r:={ x with kind:=0,a:=0,b:=0,to:=0,gF:=0,aL:=[],cX:= -1 }) (by simp[gK,h,aX,ib,Bool.and_assoc,cu,C,vR]) ⟨rfl,rfl,rfl,rfl,trivial⟩ rfl rfl (fun m=>by repeat' (first|exact trivial|exact c8 (Tr.s _)|exact c8 (cL _)|exact c8 (kI _)|exact oh|refine And.intro ?_ ?_))
   .have dY:(cG f.al x.a==3)=false:=by simpa using C
    refine aq ?_;refine cl fX ?_;refine aO ?_;(iterate 2 refine z fun _ _=>?_);refine aO ?_;refine gc kq ?_;refine aO ?_;refine gc kq ?_;refine aP ?_;refine gc vB ?_;refine ag ?_;refine af (nH ?_);refine aJ ?_;refine aq ?_;refine af ?_;exact og (r:={ x with kind:=0,a:=0,b:=0,to:=0,gF:=0,aL:=[],cX:= -1 }) (by simp[gK,h,aX,ib,Bool.and_assoc,cu,C]) ⟨rfl,rfl,rfl,rfl,trivial⟩ rfl rfl (fun m=>by repeat' (first|exact trivial|exact c8 (Tr.s _)|exact c8 (cL _)|exact c8 (kI _)|exact oh|refine And.intro ?_ ?_))
  have h8:¬ x.kind=8:=by simpa using h
  clear h;refine ws ?_;refine ag ?_;refine af (aw rfl (fun h=>?_) fun h=>?_)
  .have h:x.kind=9:=by simpa using h
   refine Kk aag ?_;refine dA ?_;refine gc fX ?_;refine aJ ?_;refine gc kq ?_;refine bB ?_;refine a8 bc ?_;exact og (r:={ x with kind:=0,a:=0,to:=0 }) (by simp[gK,h,aX,ib,Bool.and_assoc,cu]) ⟨rfl,rfl,rfl,rfl,trivial⟩ rfl rfl (fun m=>by repeat' (first|exact trivial|exact c8 (Tr.s _)|exact c8 (cL _)|exact c8 (kI _)|exact oh|refine And.intro ?_ ?_))
  .have h9:¬ x.kind=9:=by simpa using h
   refine Ki ?_;exact og (r:={ x with kind:=0 }) (by simp[gK,h1,h2,h3,h4,h5,h6,h7,h8,h9]) ⟨rfl,rfl,rfl,rfl,trivial⟩ rfl rfl (fun m=>by repeat' (first|exact trivial|exact c8 (Tr.s _)|exact c8 (cL _)|exact c8 (kI _)|exact oh|refine And.intro ?_ ?_))
 .obtain⟨cells,n,hg,hl,hs⟩:=hs;refine⟨_,hg,aj ?_⟩;have uq:(cells.drop 0).take 15=cells:=by rw[List.drop_zero,df oG]
  have Nb:=Nb (x:=(gK f x).2);have ahY:∀ {m:Mem},m 2=m 2->Sns prog [2] m [.agg ((cells.drop 0).take 15)] [.agg (bh (gK f x).2)]:=fun {m} _=>⟨afe (by rw[uq];exact hs m),trivial⟩
  have he:j9 f x=((gK f x).1&&AA (gK f x).2):=rfl;generalize (gK f x).1=ok at he;cases ok with
  |true=>
   refine aq ?_;refine HE Nb rfl rfl rfl rfl (ahY rfl) ak ?_;refine ag ?_;refine af (av (d:=.s (.bool _)) rfl ?_);rw[he];simp
  |false=>
   refine ag ?_;(iterate 2 refine z fun _ _=>?_);refine ag ?_;refine af (av (d:=.s (.bool _)) rfl ?_);rw[he];simp
theorem xh{n:Int}(hn: -1000000<=n/\n<=1000000):PCall prog 244 [I n] (I (ld n)):=by
 refine bg VJ (by simp[Tr.s]) (Tr.s _) ?_;rw[ah8];refine ws (SS ?_);refine er (aq ?_);exact af (av rfl rfl)
theorem Cy{x:bC}:PCall prog 139 [.agg (bu x)] (I (dL x)):=by
 have a7:∀ a∈[D.agg (bu x)],Tr a:=.cons (.agg (sc x)) .nil;refine bg VK a7 (Tr.s _) ?_;rw[ah9];refine az (ag ?_);refine af (aW (bG [(0,bu x,66)] eH (l:=[(1,.pt (bu x))]) eH) (aB (aj (ag ?_))));refine af (oI (eI (fun s=>Ghost prog s ⟨aD [(1,.pt (bu x)),(4,U8 x.op),(5,B (aU nF x.op))],fun _=>none,1⟩) (aj ?_) fun s hg=>⟨_,hg,?_⟩))
 .refine ag ?_;refine af (aw rfl (fun h=>bd ?_) fun e1=>aj ?_)
  .have h:x.op=1:=by simpa using h
   refine ap ⟨rfl,rfl,?_,trivial⟩;show D.s (.bool (x.op==1))=_;rw[h];rfl
  refine ag ?_;refine af (aw rfl (fun h=>bd ?_) fun e2=>aj ?_)
  .have h:x.op=2:=by simpa using h
   refine ap ⟨rfl,rfl,?_,trivial⟩;show D.s (.bool (x.op==2))=_;rw[h];rfl
  refine ag ?_;refine af (aw rfl (fun h=>bd ?_) fun e3=>aj ?_)
  .have h:x.op=3:=by simpa using h
   refine ap ⟨rfl,rfl,?_,trivial⟩;show D.s (.bool (x.op==3))=_;rw[h];rfl
  refine ag ?_;refine af (aw rfl (fun h=>bd ?_) fun e4=>aj ?_)
  .have h:x.op=4:=by simpa using h
   refine ap ⟨rfl,rfl,?_,trivial⟩;show D.s (.bool (x.op==4))=_;rw[h];rfl
  refine ag ?_;refine af (aw rfl (fun h=>bd ?_) fun e5=>aj ?_)
  .have h:x.op=5:=by simpa using h
   refine ap ⟨rfl,rfl,?_,trivial⟩;show D.s (.bool (x.op==5))=_;rw[h];rfl
  refine ag ?_;refine af (aw rfl (fun h=>bd ?_) fun e6=>aj ?_)
  .have h:x.op=6:=by simpa using h
   refine ap ⟨rfl,rfl,?_,trivial⟩;show D.s (.bool (x.op==6))=_;rw[h];rfl
  refine ag ?_;refine af (aw rfl (fun h=>bd ?_) fun e7=>aj ?_)
  .have h:x.op=7:=by simpa using h
   refine ap ⟨rfl,rfl,?_,trivial⟩;show D.s (.bool (x.op==7))=_;rw[h];rfl
  refine ag ?_;refine af (aw rfl (fun h=>bd ?_) fun e8=>aj ?_)
  .have h:x.op=8:=by simpa using h
   refine ap ⟨rfl,rfl,?_,trivial⟩;show D.s (.bool (x.op==8))=_;rw[h];rfl
  refine ag ?_;refine af (aw rfl (fun h=>bd ?_) fun e9=>aj ?_)
  .have h:x.op=9:=by simpa using h
   refine ap ⟨rfl,rfl,?_,trivial⟩;show D.s (.bool (x.op==9))=_;rw[h];rfl
  refine ag ?_;refine af (aw rfl (fun h=>bd ?_) fun M=>aj ?_)
  .have h:x.op=10:=by simpa using h
   refine ap ⟨rfl,rfl,?_,trivial⟩;show D.s (.bool (x.op==10))=_;rw[h];rfl
  refine ag ?_;refine af (aw rfl (fun h=>bd ?_) fun sZ=>aj ?_)
  .have h:x.op=11:=by simpa using h
   refine ap ⟨rfl,rfl,?_,trivial⟩;show D.s (.bool (x.op==11))=_;rw[h];rfl
  refine ag ?_;refine af (aw rfl (fun h=>bd ?_) fun yh=>aj ?_)
  .have h:x.op=13:=by simpa using h
   refine ap ⟨rfl,rfl,?_,trivial⟩;show D.s (.bool (x.op==13))=_;rw[h];rfl
  refine ag ?_;refine af (aw rfl (fun h=>bd ?_) fun C=>aj ?_)
  .have h:x.op=14:=by simpa using h
   refine ap ⟨rfl,rfl,?_,trivial⟩;show D.s (.bool (x.op==14))=_;rw[h];rfl
  refine ag ?_;refine af (aw rfl (fun h=>bd ?_) fun Gc=>lx ?_)
  .have h:x.op=17:=by simpa using h
   refine ap ⟨rfl,rfl,?_,trivial⟩;show D.s (.bool (x.op==17))=_;rw[h];rfl
  refine ag ?_;refine af (ap ⟨rfl,rfl,?_,trivial⟩);show D.s (.bool (x.op==19))=_;simp[aU,nF,e1,e2,e3,e4,e5,e6,e7,e8,e9,M,sZ,yh,C,Gc]
 refine aw rfl (fun h1=>?_) fun h1=>?_
 .refine ws (aq ?_);refine af (aY (bO (aR (av (d:=I x.to) rfl ?_))));simp[dL,h1]
 refine eI (fun s=>Ghost prog s ⟨aD [(1,.pt (bu x)),(4,U8 x.op),(23,B (aU pM x.op))],fun _=>none,1⟩) (aj ?_) fun s hg=>⟨_,hg,?_⟩
 .refine ag ?_;refine af (aw rfl (fun h=>bd ?_) fun yi=>aj ?_)
  .have h:x.op=30:=by simpa using h
   refine ap ⟨rfl,rfl,?_,trivial⟩;show D.s (.bool (x.op==30))=_;rw[h];rfl
  refine ag ?_;refine af (aw rfl (fun h=>bd ?_) fun yj=>aj ?_)
  .have h:x.op=31:=by simpa using h
   refine ap ⟨rfl,rfl,?_,trivial⟩;show D.s (.bool (x.op==31))=_;rw[h];rfl
  refine ag ?_;refine af (aw rfl (fun h=>bd ?_) fun ym=>aj ?_)
  .have h:x.op=32:=by simpa using h
   refine ap ⟨rfl,rfl,?_,trivial⟩;show D.s (.bool (x.op==32))=_;rw[h];rfl
  refine ag ?_;refine af (aw rfl (fun h=>bd ?_) fun yp=>aj ?_)
  .have h:x.op=33:=by simpa using h
   refine ap ⟨rfl,rfl,?_,trivial⟩;show D.s (.bool (x.op==33))=_;rw[h];rfl
  refine ag ?_;refine af (aw rfl (fun h=>bd ?_) fun J=>aj ?_)
  .have h:x.op=34:=by simpa using h
   refine ap ⟨rfl,rfl,?_,trivial⟩;show D.s (.bool (x.op==34))=_;rw[h];rfl
  refine ag ?_;refine af (aw rfl (fun h=>bd ?_) fun X=>lx ?_)
  .have h:x.op=36:=by simpa using h
   refine ap ⟨rfl,rfl,?_,trivial⟩;show D.s (.bool (x.op==36))=_;rw[h];rfl
  refine ag ?_;refine af (ap ⟨rfl,rfl,?_,trivial⟩);show D.s (.bool (x.op==37))=_;simp[aU,pM,yi,yj,ym,yp,J,X]
 refine aw rfl (fun h2=>?_) fun h2=>?_
 .refine ws (aq ?_);refine af (aY (bO (aR (av (d:=I x.to) rfl ?_))));simp[dL,h2]
 refine nL (aj (SS ?_));refine af (av (d:=I (-1)) rfl ?_);simp[dL,h1,h2]
theorem MV{x:Argus.End}:PCall prog 175 [.agg (bh x)] (I (eT x)):=by
 have C:∀ a∈[D.agg (bh x)],Tr a:=.cons (.agg (lT x)) .nil;have Cy:=Cy (x:=x.ins);refine bg VL C (Tr.s _) ?_;rw[ah'];refine az (ag ?_);refine af (aW (bG [(0,bh x,69)] eH (l:=[(1,.pt (bh x))]) eH) (aB (aj (ag ?_))));refine af (oI (aj (ag ?_)));refine af (aw rfl (fun h1=>?_) fun h1=>?_)
 .have h1:x.kind=5:=by simpa using h1
  refine ws (ag ?_);refine cl Cy (SS ?_);refine af (aY (bO (aR (av (d:=I (dL x.ins)) rfl ?_))));simp[eT,h1]
 have h1:¬ x.kind=5:=by simpa using h1
 refine eI (fun s=>Ghost prog s ⟨aD [(1,.pt (bh x)),(4,U8 x.kind),(10,B (aU [6,7] x.kind))],fun _=>none,1⟩) (aj ?_) fun s hg=>⟨_,hg,?_⟩
 .refine ag ?_;refine af (aw rfl (fun h=>bd ?_) fun e6=>lx ?_)
  .have h:x.kind=6:=by simpa using h
   refine ap ⟨rfl,rfl,?_,trivial⟩;show D.s (.bool (x.kind==6))=_;rw[h];rfl
  refine ag ?_;refine af (ap ⟨rfl,rfl,?_,trivial⟩);show D.s (.bool (x.kind==7))=_;simp[aU,e6]
 refine aw rfl (fun h2=>?_) fun h2=>?_
 .refine ws (aq ?_);refine af (aY (bO (aR (av (d:=I x.a) rfl ?_))));simp[eT,h1,h2]
 refine ws (ag ?_);refine af (aw rfl (fun h3=>?_) fun h3=>?_)
 .have h3:x.kind=8:=by simpa using h3
  refine ws (aq ?_);refine af (aY (bO (aR (av (d:=I x.b) rfl ?_))));simp[eT,h2,h3];simp[aU]
 have h3:¬ x.kind=8:=by simpa using h3
 refine nL (aj (SS ?_));refine af (av (d:=I (-1)) rfl ?_);simp[eT,h1,h2,h3]
theorem CT{l:List Int}(hl:l.length<=100000):PCall prog 105 [au l] (au l):=by
 have J:∀ a∈[au l],Tr a:=.cons (cL _) .nil;refine bg VM J (cL _) ?_;rw[aia];have tX:(l.map I).take (l.length*1)=l.map I:=df oS
 have last:AW prog noY true (.seq (.region 3 (Z yE 3) false) .ret) (retQ prog [.tmp 2] fun d x=>d=au l) ⟨aD [(0,au l)],fun _=>none,0⟩:=by
  refine az (aP ?_);refine af (aW (bG [(1,l.map I,3)] eH (l:=[(2,au l)]) ⟨?_,trivial⟩) (av rfl rfl));show uj _ [(1,l.map I,3)] (.rs 1 0 (0+l.length))=.sl (l.map I) l.length;rw[Nat.zero_add];exact lA c3 (df oS)
 refine ws (SS ?_);refine af (eI (fun s=>Ghost prog s ⟨aD [(0,au l)],fun _=>none,0⟩) (aj ?_) fun s hg=>⟨_,hg,last⟩)
 cases l with
 |nil=>
  refine SS ?_;refine aI (afi rfl) ak V.h (af (adF rfl (az (SS ?_)) (bd (ap eH))));exact af (aW (z9 (n0:=2) rfl) (aY (aR (av rfl rfl))))
 |cons a l=>
  have C:(a::l).length≠0:=by simp
  refine SS ?_;exact aI (afj rfl C) ak V.h (af (aw rfl (fun h=>oH) fun h=>bd (ap eH)))
theorem CD{x:bC}(hx:x.op=10\/x.op=38->x.args.length<=1000):PCall prog 140 [.agg (bu x)] (au (cP x)):=by
 have a7:∀ a∈[D.agg (bu x)],Tr a:=.cons (.agg (sc x)) .nil;refine bg VN a7 (cL _) ?_;rw[aib];refine az (ag ?_);refine af (aW (bG [(0,bu x,66)] eH (l:=[(1,.pt (bu x))]) eH) (aB (aj (ag ?_))));refine af (oI (eI (fun s=>Ghost prog s ⟨aD [(1,.pt (bu x)),(4,U8 x.op),(5,B (aU pP x.op))],fun _=>none,1⟩) (aj ?_) fun s hg=>⟨_,hg,?_⟩))
 .refine ag ?_;refine af (aw rfl (fun h=>bd ?_) fun e2=>aj ?_)
  .have h:x.op=2:=by simpa using h
   refine ap ⟨rfl,rfl,?_,trivial⟩;show D.s (.bool (x.op==2))=_;rw[h];rfl
  refine ag ?_;refine af (aw rfl (fun h=>bd ?_) fun e8=>aj ?_)
  .have h:x.op=8:=by simpa using h
   refine ap ⟨rfl,rfl,?_,trivial⟩;show D.s (.bool (x.op==8))=_;rw[h];rfl
  refine ag ?_;refine af (aw rfl (fun h=>bd ?_) fun sZ=>aj ?_)
  .have h:x.op=11:=by simpa using h
   refine ap ⟨rfl,rfl,?_,trivial⟩;show D.s (.bool (x.op==11))=_;rw[h];rfl
  refine ag ?_;refine af (aw rfl (fun h=>bd ?_) fun yh=>aj ?_)
  .have h:x.op=13:=by simpa using h
   refine ap ⟨rfl,rfl,?_,trivial⟩;show D.s (.bool (x.op==13))=_;rw[h];rfl
  refine ag ?_;refine af (aw rfl (fun h=>bd ?_) fun C=>aj ?_)
  .have h:x.op=14:=by simpa using h
   refine ap ⟨rfl,rfl,?_,trivial⟩;show D.s (.bool (x.op==14))=_;rw[h];rfl
  refine ag ?_;refine af (aw rfl (fun h=>bd ?_) fun Gd=>aj ?_)
  .have h:x.op=15:=by simpa using h
   refine ap ⟨rfl,rfl,?_,trivial⟩;show D.s (.bool (x.op==15))=_;rw[h];rfl
  refine ag ?_;refine af (aw rfl (fun h=>bd ?_) fun Ge=>aj ?_)
  .have h:x.op=16:=by simpa using h
   refine ap ⟨rfl,rfl,?_,trivial⟩;show D.s (.bool (x.op==16))=_;rw[h];rfl
  refine ag ?_;refine af (aw rfl (fun h=>bd ?_) fun M=>lx ?_)
  .have h:x.op=18:=by simpa using h
   refine ap ⟨rfl,rfl,?_,trivial⟩;show D.s (.bool (x.op==18))=_;rw[h];rfl
  refine ag ?_;refine af (ap ⟨rfl,rfl,?_,trivial⟩);show D.s (.bool (x.op==36))=_;simp[aU,pP,e2,e8,sZ,yh,C,Gd,Ge,M]
 refine aw rfl (fun h1=>?_) fun h1=>?_
 .refine az (aP ?_);exact af (aW (bG [(1,([x.a]).map I,3)] eH (l:=[(2,au ([x.a]))]) ⟨lA c3 rfl,trivial⟩) (aY (bO (aR (av (d:=au ([x.a])) rfl (congrArg au (by unfold cP;rw[if_pos h1])))))))
 refine eI (fun s=>Ghost prog s ⟨aD [(1,.pt (bu x)),(4,U8 x.op),(18,B (aU tt x.op))],fun _=>none,1⟩) (aj ?_) fun s hg=>⟨_,hg,?_⟩
 .refine ag ?_;refine af (aw rfl (fun h=>bd ?_) fun e3=>aj ?_)
  .have h:x.op=3:=by simpa using h
   refine ap ⟨rfl,rfl,?_,trivial⟩;show D.s (.bool (x.op==3))=_;rw[h];rfl
  refine ag ?_;refine af (aw rfl (fun h=>bd ?_) fun e4=>aj ?_)
  .have h:x.op=4:=by simpa using h
   refine ap ⟨rfl,rfl,?_,trivial⟩;show D.s (.bool (x.op==4))=_;rw[h];rfl
  refine ag ?_;refine af (aw rfl (fun h=>bd ?_) fun e5=>aj ?_)
  .have h:x.op=5:=by simpa using h
   refine ap ⟨rfl,rfl,?_,trivial⟩;show D.s (.bool (x.op==5))=_;rw[h];rfl
  refine ag ?_;refine af (aw rfl (fun h=>bd ?_) fun e6=>aj ?_)
  .have h:x.op=6:=by simpa using h
   refine ap ⟨rfl,rfl,?_,trivial⟩;show D.s (.bool (x.op==6))=_;rw[h];rfl
  refine ag ?_;refine af (aw rfl (fun h=>bd ?_) fun e7=>aj ?_)
  .have h:x.op=7:=by simpa using h
   refine ap ⟨rfl,rfl,?_,trivial⟩;show D.s (.bool (x.op==7))=_;rw[h];rfl
  refine ag ?_;refine af (aw rfl (fun h=>bd ?_) fun X=>aj ?_)
  .have h:x.op=12:=by simpa using h
   refine ap ⟨rfl,rfl,?_,trivial⟩;show D.s (.bool (x.op==12))=_;rw[h];rfl
  refine ag ?_;refine af (aw rfl (fun h=>bd ?_) fun yi=>aj ?_)
  .have h:x.op=30:=by simpa using h
   refine ap ⟨rfl,rfl,?_,trivial⟩;show D.s (.bool (x.op==30))=_;rw[h];rfl
  refine ag ?_;refine af (aw rfl (fun h=>bd ?_) fun yj=>aj ?_)
  .have h:x.op=31:=by simpa using h
   refine ap ⟨rfl,rfl,?_,trivial⟩;show D.s (.bool (x.op==31))=_;rw[h];rfl
  refine ag ?_;refine af (aw rfl (fun h=>bd ?_) fun ym=>aj ?_)
  .have h:x.op=32:=by simpa using h
   refine ap ⟨rfl,rfl,?_,trivial⟩;show D.s (.bool (x.op==32))=_;rw[h];rfl
  refine ag ?_;refine af (aw rfl (fun h=>bd ?_) fun yp=>aj ?_)
  .have h:x.op=33:=by simpa using h
   refine ap ⟨rfl,rfl,?_,trivial⟩;show D.s (.bool (x.op==33))=_;rw[h];rfl
  refine ag ?_;refine af (aw rfl (fun h=>bd ?_) fun J=>aj ?_)
  .have h:x.op=34:=by simpa using h
   refine ap ⟨rfl,rfl,?_,trivial⟩;show D.s (.bool (x.op==34))=_;rw[h];rfl
  refine ag ?_;refine af (aw rfl (fun h=>bd ?_) fun OP=>lx ?_)
  .have h:x.op=35:=by simpa using h
   refine ap ⟨rfl,rfl,?_,trivial⟩;show D.s (.bool (x.op==35))=_;rw[h];rfl
  refine ag ?_;refine af (ap ⟨rfl,rfl,?_,trivial⟩);show D.s (.bool (x.op==37))=_;simp[aU,tt,e3,e4,e5,e6,e7,X,yi,yj,ym,yp,J,OP]
 refine aw rfl (fun h2=>?_) fun h2=>?_
 .refine az (bB ?_);exact af (aW (bG [(1,([x.a,x.b]).map I,3)] eH (l:=[(2,au ([x.a,x.b]))]) ⟨lA c3 rfl,trivial⟩) (aY (bO (aR (av (d:=au ([x.a,x.b])) rfl (congrArg au (by unfold cP;rw[if_neg (by simp[h1]),if_pos h2])))))))
 refine ws (ag ?_);refine af (aw rfl (fun h3=>?_) fun h3=>?_)
 .have h3:x.op=10:=by simpa using h3
  have CT:=CT (l:=x.args) (by have:=hx (.inl h3);omega);refine ws (ag ?_);refine cl CT (SS ?_);exact af (aY (bO (aR (av (d:=au x.args) rfl (congrArg au (by unfold cP;rw[if_neg (by simp[h1]),if_neg (by simp[h2]),if_pos h3]))))))
 have h3:¬ x.op=10:=by simpa using h3
 refine ws (ag ?_);refine af (aw rfl (fun h4=>?_) fun h4=>?_)
 .have h4:x.op=38:=by simpa using h4
  have hl:=hx (.inr h4);have tX:(x.args.map I).take (x.args.length*1)=x.args.map I:=df oS;refine az (aJ ?_);refine af (aW (bG [(2,(x.a::x.b::x.args).map I,3)] eH (l:=[(2,au (x.a::x.b::x.args))]) ⟨?_,trivial⟩) (aY (bO (aR (av (d:=au (x.a::x.b::x.args)) rfl ?_)))))
  .show uj _ [(2,_,3)] (.rs 2 0 (2+x.args.length))=_;refine(lA c3 (es:=(x.a::x.b::x.args).map I) (df oP)).trans ?_;rw[Nat.add_comm];rfl
  .exact congrArg au (by unfold cP;rw[if_neg (by simp[h1]),if_neg (by simp[h2]),if_neg h3,if_pos h4])
 have h4:¬ x.op=38:=by simpa using h4
 refine nL (az (SS ?_));exact af (aW (z9 (n0:=2) rfl) (av (d:=au []) rfl (congrArg au (by unfold cP;rw[if_neg (by simp[h1]),if_neg (by simp[h2]),if_neg h3,if_neg h4]))))
theorem MW{x:Argus.End}(hx:x.kind=5->x.ins.op=10\/x.ins.op=38->x.ins.args.length<=1000)(hy:x.kind=6\/x.kind=7->x.args.length<=1000):PCall prog 137 [.agg (bh x)] (au (cK x)):=by
 have C:∀ a∈[D.agg (bh x)],Tr a:=.cons (.agg (lT x)) .nil;refine bg VO C (cL _) ?_;rw[aic];refine az (ag ?_);refine af (aW (bG [(0,bh x,69)] eH (l:=[(1,.pt (bh x))]) eH) (aB (aj (ag ?_))));refine af (oI (eI (fun s=>Ghost prog s ⟨aD [(1,.pt (bh x)),(4,U8 x.kind),(5,B (aU [2,8,9] x.kind))],fun _=>none,1⟩) (aj ?_) fun s hg=>⟨_,hg,?_⟩))
 .refine ag ?_;refine af (aw rfl (fun h=>bd ?_) fun e2=>aj ?_)
  .have h:x.kind=2:=by simpa using h
   refine ap ⟨rfl,rfl,?_,trivial⟩;show D.s (.bool (x.kind==2))=_;rw[h];rfl
  refine ag ?_;refine af (aw rfl (fun h=>bd ?_) fun e8=>lx ?_)
  .have h:x.kind=8:=by simpa using h
   refine ap ⟨rfl,rfl,?_,trivial⟩;show D.s (.bool (x.kind==8))=_;rw[h];rfl
  refine ag ?_;refine af (ap ⟨rfl,rfl,?_,trivial⟩);show D.s (.bool (x.kind==9))=_;simp[aU,e2,e8]
 refine aw rfl (fun h1=>?_) fun h1=>?_
 .refine az (aP ?_);exact af (aW (bG [(1,([x.a]).map I,3)] eH (l:=[(2,au ([x.a]))]) ⟨lA c3 rfl,trivial⟩) (aY (bO (aR (av (d:=au ([x.a])) rfl (congrArg au (by unfold cK;rw[if_pos h1])))))))
 refine ws (ag ?_);refine af (aw rfl (fun h2=>?_) fun h2=>?_)
 .have h2:x.kind=3:=by simpa using h2
  refine ws (aq ?_);refine af (aw rfl (fun h3=>?_) fun h3=>?_)
  .have h3:¬ x.a= -1:=by simpa[bne,ib] using h3
   refine az (aP ?_);exact af (aW (bG [(1,([x.a]).map I,3)] eH (l:=[(2,au ([x.a]))]) ⟨lA c3 rfl,trivial⟩) (aY (bO (aR (av (d:=au ([x.a])) rfl (congrArg au (by unfold cK;rw[if_neg (by simp[h1]),if_pos h2,if_pos h3])))))))
  .have h3:x.a= -1:=by simpa[bne,ib] using h3
   refine nL (az (SS ?_));exact af (aW (z9 (n0:=2) rfl) (av (d:=au []) rfl (congrArg au (by unfold cK;rw[if_neg (by simp[h1]),if_pos h2,if_neg (by simp[h3])]))))
 have h2:¬ x.kind=3:=by simpa using h2
 refine ws (ag ?_);refine af (aw rfl (fun h3=>?_) fun h3=>?_)
 .have h3:x.kind=5:=by simpa using h3
  have CD:=CD (x:=x.ins) (hx h3);refine ws (ag ?_);refine cl CD (SS ?_);exact af (aY (bO (aR (av (d:=au (cP x.ins)) rfl (congrArg au (by unfold cK;rw[if_neg (by simp[h1]),if_neg h2,if_pos h3]))))))
 have h3:¬ x.kind=5:=by simpa using h3
 refine eI (fun s=>Ghost prog s ⟨aD [(1,.pt (bh x)),(4,U8 x.kind),(25,B (aU [6,7] x.kind))],fun _=>none,1⟩) (aj ?_) fun s hg=>⟨_,hg,?_⟩
 .refine ag ?_;refine af (aw rfl (fun h=>bd ?_) fun e6=>lx ?_)
  .have h:x.kind=6:=by simpa using h
   refine ap ⟨rfl,rfl,?_,trivial⟩;show D.s (.bool (x.kind==6))=_;rw[h];rfl
  refine ag ?_;refine af (ap ⟨rfl,rfl,?_,trivial⟩);show D.s (.bool (x.kind==7))=_;simp[aU,e6]
 refine aw rfl (fun h4=>?_) fun h4=>?_
 .have h5:x.kind=6\/x.kind=7:=by simpa[aU] using h4
  have CT:=CT (l:=x.args) (by have:=hy h5;omega);refine ws (ag ?_);refine cl CT (SS ?_);exact af (aY (bO (aR (av (d:=au x.args) rfl (congrArg au (by unfold cK;rw[if_neg (by simp[h1]),if_neg h2,if_neg h3,if_pos h4]))))))
 refine nL (az (SS ?_));exact af (aW (z9 (n0:=2) rfl) (av (d:=au []) rfl (congrArg au (by unfold cK;rw[if_neg (by simp[h1]),if_neg h2,if_neg h3,if_neg (by simp[h4])]))))
noncomputable def cx0:Ctx:=⟨fun f=>E3.get f,fun _ _ _=>none,fun _ _=>none⟩
theorem nM:cx0.Ok prog:=⟨mixed,Ln,fun _ _ _ _ h=>oH,fun _ _ _ h=>oH⟩
theorem DL{off:Nat}{vs cs:List D}(hv:vs.length=20)(hl:off+20<=cs.length)(C:vs.all D.one=true):tyOk prog 231=true/\vs.length=prog.cellsOf 231/\off+prog.cellsOf 231<=cs.length/\vs.all D.one=true:=by
 rw[tY];exact⟨t231,hv,hl,C⟩
theorem mf{w:List Int}{m:Nat}(J:w.length=20)(hm:m<1280):PCall prog 200 [iC w,I m] (B (kT w m)):=by
 have C:∀ a∈[iC w,I m],Tr a:=.cons (sG _) (.cons (.s _) .nil);have hi:w[m / 64]? =some w[m / 64]:=aN oG;have hg:w.getD (m / 64) 0=w[m / 64]:=by simp[bl,hi]
 have V6:=Uz (m:=m) oG;have V7:=UA m;have kd:=iG (f:=c6) hi;refine bg UB C (Tr.s _) ?_;rw[af2];refine ws (ag ?_);refine er (SS ?_);refine V8 ?_;refine aq ?_;refine V9 ?_;refine aI (afG rfl rfl) ak oG (Wa ?_);refine ag ?_;refine af (av (d:=.s (.bool _)) rfl ?_);unfold kT;rw[hg];rfl
theorem sH{w:List Int}{n:Int}(J:w.length=20)(hn: -1000000<=n/\n<1280):PCall prog 242 [iC w,I n] (iC (gC w n)):=by
 have C:∀ a∈[iC w,I n],Tr a:=.cons (sG _) (.cons (.s _) .nil);refine bg UC C (sG _) ?_;rw[af3];refine ws (ag ?_);refine af (aB (aj ?_));by_cases h0:0<=n
 .obtain⟨m,rfl⟩:=cU h0;have hm:m<1280:=by omega
  have hi:w[m / 64]? =some w[m / 64]:=aN oG;have hg:w.getD (m / 64) 0=w[m / 64]:=by simp[bl,hi]
  have V6:=Uz (m:=m) oG;have V7:=UA m;have kd:=iG (f:=c6) hi;have xd:decide (0<=(m:Int))=true:=by simp
  refine SS ?_;refine Wb ?_;refine af (dN (dF aaE (SS ?_)));refine V8 ?_;refine aq ?_;refine V9 ?_;refine ajQ ?_;refine ajR ?_;refine ag ?_;refine a8 bc (aj (ag ?_));refine af (nK (mI rfl rfl xg tY (nV (by first|rfl|simp;omega)) t231 oP) ?_);simp only[gC,h0,if_true,bN,wP,hg,iC,List.map_set];rfl
 .have xd:decide (0<=n)=false:=by simpa using h0
  refine SS ?_;refine Wb ?_;refine af (gU (bP (aj (ag ?_))));refine af (nK (mI rfl rfl xg tY (nV oP) t231 oP) ?_);simp only[gC,h0,if_false]
theorem Ig{w v:List Int}(M:w.length=20)(hv:v.length=20):PCall prog 243 [iC w,iC v] (iC (iJ w v)):=by
 have X:∀ a∈[iC w,iC v],Tr a:=.cons (sG _) (.cons (sG _) .nil);refine bg UD X (sG _) ?_;rw[af4];refine ws (aq ?_);refine af (aB (az (SS ?_)))
 refine af (bR (fun s=>Ghost prog s ⟨aD [(2,.rp 0 0),(3,.rp 1 0),(4,.rp 2 0)],bf [(0,.cells ((iJ w v).map c6) 231),(1,.cells (v.map c6) 231),(2,.cells (replicate 20 (c6 0)) 231)],3⟩) (dV (α:=Nat)
  (fun k=>⟨aD [(2,.rp 0 0),(3,.rp 1 0),(4,.rp 2 0),(6,I k)],bf [(0,.cells ((fM w v k).map c6) 231),(1,.cells (v.map c6) 231),(2,.cells (replicate 20 (c6 0)) 231)],3⟩)
  (fun k=>k<=20) (fun k=>20 - k) 0 (aQ eH eH) oG ?_) ?_)
 .intro k hk;refine SS ?_;refine af ⟨_,rfl,fun h=>?_,fun h=>?_⟩
  .have ao:k<20:=by have h:(k:Int)<20:=by simpa using h
                    omega
   have xB:(fM w v k).length=20:=by simp[M]
   have hi:(fM w v k)[k]? =some (fM w v k)[k]:=aN oG;have hj:v[k]? =some v[k]:=aN oG;have hg:(fM w v k).getD k 0=(fM w v k)[k]:=by simp[bl,hi]
   have C:v.getD k 0=v[k]:=by simp[bl,hj]
   have kd:=iG (f:=c6) hi;have j3:=iG (f:=c6) hj;refine ws (ag ?_);refine af (pO aaF (aO ?_));refine aI (gQ rfl rfl j3 V.h) ak (gR V.h V.h j3) (Wa ?_);refine ag ?_;refine a8 bc (ag ?_);refine af (aK (k+1) (aQ eH ⟨?_,rfl,rfl,trivial⟩) oG oG);rw[up_same];simp only[fM,hg,C,List.map_set];rfl
  .have a9:¬ k<20:=by intro hh;simp at h;omega
   have:k=20:=by omega
   subst this;exact .forget _ _ _ _ fun t=>pN (l:=[(2,.rp 0 0),(3,.rp 1 0),(4,.rp 2 0)]) ⟨rfl,rfl,rfl,trivial⟩ t
 .intro s hg;have J:(iJ w v).length=20:=by simp[M]
  generalize iJ w v=u at hg J ⊢;refine⟨_,hg,aj ?_⟩;refine ag ?_;refine af (nK (mI rfl rfl xg tY (nV oP) t231 oP) ?_);rfl
def ajS:Int:=18446744073709551615
theorem MJ:PCall prog 241 [] (iC (replicate 20 ajS)):=by
 exact lS nM 100 rfl kr
theorem E4{w:List Int}{x:bC}(C:w.length=20)(hn:x.op=18->0<=x.n/\x.n<80)(ht:x.op≠18-> -1000000<=dL x/\dL x<1280):PCall prog 245 [iC w,.agg (bu x)] (iC (gC w (if x.op=18 then ld x.n else dL x))):=by
 have J:∀ a∈[iC w,.agg (bu x)],Tr a:=.cons (sG _) (.cons (.agg (sc x)) .nil);refine bg UE J (sG _) ?_;rw[af5];refine ws (aq ?_);refine af (aB (aj (aq ?_)));refine af (cx rfl (fun h=>?_) fun h=>bP (dF aaG ?_))
 .have h:x.op=18:=by simpa using h
  have hx:=hn h;have xh:=xh (n:=x.n) oG;have sH:=sH (w:=w) (n:=ld x.n) C (by unfold ld;omega);refine aB (dF aaH (aq ?_));refine cl xh (cl sH (SS ?_));refine a8 bc (bX (nK (mI rfl rfl xg tY (nV oP) t231 oP) ?_));simp[h]
 .have h:x.op≠18:=by simpa using h
  have Cy:=Cy (x:=x);have sH:=sH (w:=w) (n:=dL x) C (ht h);refine SS ?_;refine aI (ep (vs:=bu _) rfl rfl V.h V.h rfl) ak (ez V.h V.h (by first|(simp;done)|omega|exact bE rfl)) ?_;refine cl Cy (cl sH (SS ?_));refine a8 bc (nK (mI rfl rfl xg tY (nV oP) t231 oP) ?_);simp[h]
end Go.Proofs.Tryz.K
namespace Go.Argus
def iP(x:End):Bool:=decide (0<=x.cX)&&aU [5,6,8] x.kind
def dp(x:End):List Int:=if aU [3,4] x.kind then [] else x.to::((if aU [2,8] x.kind then [x.gF] else [])++(x.aL.map (·.to)++(if iP x then [x.cX] else [])))
def rJ(x:End):Nat:=if aU [2,8] x.kind then 2 else 1
theorem acb{x:End}(h:aU [3,4] x.kind=false):(dp x)[0]? =some x.to/\(aU [2,8] x.kind=true->(dp x)[1]? =some x.gF)/\(∀ (j:Nat) w,x.aL[j]? =some w->(dp x)[rJ x+j]? =some w.to)/\
 (iP x=true->(dp x)[rJ x+x.aL.length]? =some x.cX)/\(dp x).length=rJ x+x.aL.length+(if iP x then 1 else 0):=by
 unfold dp rJ;generalize iP x=c;rw[if_neg (by simp[h])];cases h2:aU [2,8] x.kind with
 |true=>
  refine⟨rfl,fun _=>rfl,fun j w hj=>?_,fun hc=>?_,?_⟩
  .have:j<x.aL.length:=(bw.1 hj).1;simp only[if_true,List.singleton_append];rw[show 2+j=j+1+1 by omega,List.getElem?_cons_succ,List.getElem?_cons_succ,List.getElem?_append_left (by simpa using this)];simp[hj]
  .simp only[if_true,List.singleton_append];rw[show 2+x.aL.length=x.aL.length+1+1 by omega,List.getElem?_cons_succ,List.getElem?_cons_succ,List.getElem?_append_right oS];rw[if_pos hc];simp
  .cases c<;>simp<;>omega
 |false=>
  refine⟨rfl,fun h=>oH,fun j w hj=>?_,fun hc=>?_,?_⟩
  .have:j<x.aL.length:=(bw.1 hj).1;simp only[Bool.false_eq_true,if_false,List.nil_append];rw[show 1+j=j+1 by omega,List.getElem?_cons_succ,List.getElem?_append_left (by simpa using this)];simp[hj]
  .simp only[Bool.false_eq_true,if_false,List.nil_append];rw[show 1+x.aL.length=x.aL.length+1 by omega,List.getElem?_cons_succ,List.getElem?_append_right oS];rw[if_pos hc];simp
  .cases c<;>simp<;>omega
def B4(x:End)(b:Int):Bool:=aX x.to b&&aX ((dp x).count b:Nat) 1
theorem KS(x:End):(dp x).length<=x.aL.length+3:=by
 unfold dp;split
 .simp
 .simp only[List.length_cons,List.length_append,List.length_map];split<;>split<;>simp<;>omega
end Go.Argus
namespace Go.Abs
theorem gB{P:Program}{Y:YSpec}{rf:Bool}{Q:Exit->St->Prop}{st:St}[eC Y]{ops:Array Oper}{i:Nat}(h:AOps P Y ops false [] (gM (Q .normal)) ops.toList st []):AW P Y rf (.region i ops false) Q st:=qI (rf:=rf) (id:=i) (AOps.lC h fun _ h=>h)
section
variable{P:Program}{env:Env}{m:Mem}{nx:Nat}{x y:Operand}{t p:TypeId}{k:IntKind}{n n':Int}
theorem Tt(hx:(opd env x).core=.s (.int .i64 n))(hy:(opd env y).core=.s (.int .i64 n')){r:Int}(hd:n - n'=r/\ -9223372036854775808<=r/\r<=9223372036854775807):Ef P (.binOp .sub t x y p) env m nx ⟨IntKind.i64=IntKind.i64,.s (.int .i64 r),[],[],0⟩:=by
 obtain⟨rfl,h⟩:=hd;exact LQ hx hy h
theorem mN{j i l:Nat}{e:TypeId}{r:Row}(hx:(opd env x).core=.rs j 0 l)(hy:(opd env y).core=.s (.int k (i:Int)))(hm:m j=some r)(he:elemP P t=e)(hs:P.cellsOf e=1):
 Ef P (.indexAddr t x y) env m nx ⟨slT P t=true/\i<l,.rp j i,[],[j],0⟩:=by
 have h:=HB (P:=P) (env:=env) (m:=m) (nx:=nx) (t:=t) hx hy hm he hs;have h1:0+((i:Int)).toNat*1=i:=by simp
 have h2:(slT P t=true/\(0:Int)<=(i:Int)/\(i:Int)<l)=(slT P t=true/\i<l):=by
  apply propext;constructor
  .rintro⟨a,_,b⟩;exact⟨a,oG⟩
  .rintro⟨a,b⟩;exact⟨a,oG,oG⟩
 rw[h1,h2] at h;exact h
theorem p9{α:Type}(f:Nat->α)(i:Nat)(a b:α):up (up f i a) i b=up f i b:=by
 funext j;simp only[up];split<;>rfl
variable{Y:YSpec}{rf:Bool}{Q:Exit->St->Prop}{st:St}{id iF i1 i3:Nat}{rc ri:Array Oper}{body:Code}{α:Type}{cf:List (Nat×Nat)}{u:Nat}
theorem aeZ[eC Y](hi:drawInfo rc=some cf)(S:α->St)(J:α->Prop)(μ:α->Nat)(C:α)(hg:Ghost P st (S C))(M:J C)
 (h:∀ x,J x->AOps P Y rc true cf (gM fun s=>∃ g,opd s.env (.tmp u)=.s (.bool g)/\(g=true->AW P Y rf body (mT iF id (fun s=>AOps P Y ri false [] (gM (sA P S J μ x)) ri.toList s []) Q) s)/\(g=false->Q .normal s)) rc.toList (S x) []):
 ∃ st',Ghost P st st'/\AW P Y rf (.block id (.loop (.seq (.seq (.region i1 rc true) (.cond (.tmp u) .skip (.exit id))) (.seq (.block iF body) (.region i3 ri false))))) Q st':=by
 refine BK (Q:=blockQ id Q) S J μ C hg M (fun x hx=>aB (B0 (rf:=rf) (id:=i1) hi (AOps.lC (h x hx) fun s hs=>?_))) (a:=.skip) fun _ h=>h;obtain⟨g,h1,h2,h3⟩:=hs;refine⟨s,.refl s,cx h1 (fun X=>?_) fun xI=>?_⟩
 .exact bP (KO (h2 X))
 .refine jy ?_;simp only[seqQ,blockQ,if_true];exact h3 xI
theorem nC{l:List (Nat×D)}{m':Mem}(h:jN l env)(hm:m=m'):Ghost P ⟨env,m,nx⟩ ⟨aD l,m',nx⟩:=hm▸ap h
end
end Go.Abs
namespace Go.Proofs.Tryz.K
theorem xj{x:Argus.End}:PCall prog 156 [.agg (bh x)] (.fn (.func 202) [] [.pt (bh x)]):=by
 have C:∀ a∈[D.agg (bh x)],Tr a:=.cons (.agg (lT x)) .nil;refine bg UF C (.fn oS (.cons (.pt (lT x)) .nil)) ?_;rw[af6];refine az (SS ?_);refine aI (oJ (v:=.s .nilFunc) rfl) ak trivial (af (aW (bG [(0,bh x,69)] eH (l:=[(1,.pt (bh x))]) eH) (aj (ag ?_))));exact af (av rfl rfl)
def NP(l:Nat)(x:Argus.End)(C:Nat->Mem->Nat->Prop)(n:Nat)(s:St):Prop:=∃ m nx,Ghost prog s ⟨aD [(0,.fn (.yield l) [] []),(1,.pt (bh x))],m,nx⟩/\C n m nx
theorem Wc{x:Argus.End}(hlen:x.aL.length<=100000):SeqA prog 202 [] [.pt (bh x)] ((dp x).map fun n=>[I n]):=by
 refine Lj mixed UG kr fun l M Stop m nx hI HM h0=>?_;rw[af7];by_cases C:aU [3,4] x.kind=true
 .have kQ:((dp x).map fun n=>[I n]).length=0:=by simp[dp,C]
  rw[kQ];by_cases h3:x.kind=3
  .have dY:(x.kind==3)=true:=by simpa using h3
   refine aB (aj (aP ?_));(iterate 3 refine z fun _ _=>?_);refine ag ?_;(iterate 5 refine z fun _ _=>?_);refine SS ?_;refine af (cx rfl (fun h=>Tl (aY (aR (wH (.inl h0))))) fun h=>oH)
  .have h4:x.kind=4:=by simpa[aU,h3] using C
   have dY:(x.kind==3)=false:=by simpa using h3
   have Ax:(x.kind==4)=true:=by simpa using h4
   refine aB (aj (aJ ?_));(iterate 5 refine z fun _ _=>?_);refine SS ?_;refine af (cx rfl (fun h=>Tl (aY (aR (wH (.inl h0))))) fun h=>oH)
 have C:aU [3,4] x.kind=false:=by simpa using C
 obtain⟨x0,x1,xw,xo,xl⟩:=acb C;have J:∀ {k:Nat} {n:Int},(dp x)[k]? =some n->((dp x).map fun n=>[I n])[k]? =some [I n]:=fun h=>by simp[h]
 have tO:((dp x).map fun n=>[I n]).length=rJ x+x.aL.length+(if iP x then 1 else 0):=by simpa using xl
 have sU:x.kind≠3/\x.kind≠4:=by simpa[aU] using C
 refine eI (NP l x M 1) ?_ fun s hs=>?_
 .have dY:(x.kind==3)=false:=by simpa using sU.1
  have Ax:(x.kind==4)=false:=by simpa using sU.2
  refine ws (aJ ?_);refine aq ?_;refine HS rfl rfl rfl rfl cv ⟨rfl,0,J x0,h0,fun d m' nx' hp=>?_⟩;rcases hp with⟨rfl,hp⟩|⟨rfl,hp⟩
  .refine ag ?_;exact af (aw rfl (fun h=>oH) fun h=>bd ⟨m',nx',ap eH,hp⟩)
  .refine ag ?_;exact af (aw rfl (fun h=>aY (aR (wH (.inr hp)))) fun h=>oH)
 obtain⟨m1,XS,hg,h1⟩:=hs;refine⟨_,hg,?_⟩;clear hg h0;refine eI (NP l x M (rJ x)) ?_ fun s hs=>?_
 .have yes:aU [2,8] x.kind=true->(dp x)[1]? =some x.gF/\rJ x=2:=fun h=>⟨x1 h,by simp[rJ,h]⟩
  by_cases h2:x.kind=2
  .obtain⟨X,y2⟩:=yes (by rw[h2];rfl);have dY:(x.kind==2)=true:=by simpa using h2
   refine ws (aP ?_);(iterate 3 refine z fun _ _=>?_);refine aO ?_;refine HS rfl rfl rfl rfl cv ⟨rfl,1,J X,h1,fun d m' nx' hp=>?_⟩;rcases hp with⟨rfl,hp⟩|⟨rfl,hp⟩
   .refine ag ?_;exact af (aw rfl (fun h=>oH) fun h=>bd ⟨m',nx',ap eH,y2▸hp⟩)
   .refine ag ?_;exact af (aw rfl (fun h=>aY (aR (wH (.inr hp)))) fun h=>oH)
  .have dY:(x.kind==2)=false:=by simpa using h2
   by_cases h8:x.kind=8
   .obtain⟨X,y2⟩:=yes (by rw[h8];rfl);have Ax:(x.kind==8)=true:=by simpa using h8
    refine ws (aJ ?_);refine aq ?_;refine HS rfl rfl rfl rfl cv ⟨rfl,1,J X,h1,fun d m' nx' hp=>?_⟩;rcases hp with⟨rfl,hp⟩|⟨rfl,hp⟩
    .refine ag ?_;exact af (aw rfl (fun h=>oH) fun h=>bd ⟨m',nx',ap eH,y2▸hp⟩)
    .refine ag ?_;exact af (aw rfl (fun h=>aY (aR (wH (.inr hp)))) fun h=>oH)
   .have Ax:(x.kind==8)=false:=by simpa using h8
    have hb:rJ x=1:=by simp[rJ,aU,h2,h8]
    refine ws (aJ ?_);(iterate 5 refine z fun _ _=>?_);refine SS ?_;exact af (aw rfl (fun h=>oH) fun h=>bd ⟨m1,XS,ap eH,hb▸h1⟩)
 obtain⟨m2,cI,hg,h2⟩:=hs;refine⟨_,hg,?_⟩;clear hg;refine eI (NP l x M (rJ x+x.aL.length)) (az ?_) fun s hs=>?_
 .refine aP ?_
  refine af (dV (α:=Nat×Mem×Nat) (fun k=>⟨aD [(0,.fn (.yield l) [] []),(1,.pt (bh x)),(36,qJ x.aL),(37,I x.aL.length),(38,I k.1)],k.2.1,k.2.2⟩)
   (fun k=>k.1<=x.aL.length/\M (rJ x+k.1) k.2.1 k.2.2) (fun k=>x.aL.length - k.1) (0,m2,cI) (ap eH) ⟨oG,h2⟩ ?_)
  rintro⟨k,m3,jg⟩ ⟨hk,rD⟩;refine SS ?_;refine af ⟨_,rfl,fun h=>?_,fun h=>?_⟩
  .have ao:k<x.aL.length:=by simpa using h
   have hx:x.aL[k]? =some x.aL[k]:=by simp[ao]
   generalize x.aL[k]=w at hx;refine ws (aP ?_);refine er (ag ?_);refine Wd ?_;refine MF rfl rfl cv ⟨rfl,rJ x+k,J (xw k w hx),hI _ _ _ _ _ rD oG (fun i hi=>aC oG (aC oG rfl)),fun d m' nx' hp=>?_⟩;rcases hp with⟨rfl,hp⟩|⟨rfl,hp⟩
   .refine SS ?_;refine af (aw rfl (fun h=>oH) fun h=>bS (ag ?_));exact af (aK (k+1,m',nx') (ap eH) ⟨by simp only;omega,hp⟩ (by simp only;omega))
   .refine SS ?_;exact af (aw rfl (fun h=>aY (br (aR (wH (.inr hp))))) fun h=>oH)
  .have a9:¬ k<x.aL.length:=by simpa using h
   have:k=x.aL.length:=by simp only at hk;omega
   subst this;exact⟨m3,jg,.forget _ _ _ _ fun t=>pN (l:=[(0,.fn (.yield l) [] []),(1,.pt (bh x))]) ⟨rfl,rfl,trivial⟩ t,rD⟩
 obtain⟨m3,jg,hg,h3⟩:=hs;refine⟨_,hg,aj ?_⟩;refine aJ ?_;refine aJ ?_;refine af (aw rfl (fun h=>?_) fun h=>?_)
 .have hc:iP x=true:=by
   revert h;unfold iP aU;simp[ib,or_assoc]
  refine gB (aq ?_);refine MF rfl rfl cv ⟨rfl,_,J (xo hc),h3,fun d m' nx' hp=>af (qP ?_)⟩;rcases hp with⟨rfl,hp⟩|⟨rfl,hp⟩
  .left;rw[tO,if_pos hc];exact hp
  .exact .inr hp
 .have hc:iP x=false:=by
   revert h;unfold iP aU;simp[ib,and_assoc]
  refine bS (qP (.inl ?_));rw[tO,hc];exact h3
theorem MN{x:Argus.End}{b:Int}(hlen:x.aL.length<=1000):PCall prog 246 [.agg (bh x),I b] (B (B4 x b)):=by
 have J:∀ a∈[D.agg (bh x),I b],Tr a:=.cons (.agg (lT x)) (.cons (.s _) .nil);have xj:=xj (x:=x);have hl:=KS x;refine bg UM J (Tr.s _) ?_;rw[agd];refine az (aq ?_);refine af (aW (bG [(0,bh x,69),(1,[I b],3)] eH (l:=[(2,.pt (bh x)),(3,.pt [I b])]) eH) (aj (SS ?_)));refine Wr ?_;refine af (eI (fun s=>∃ n',Ghost prog s ⟨aD [(2,.pt (bh x)),(3,.pt [I b]),(5,.rp 2 0)],bf [(2,.cells [I ((dp x).count b:Nat)] 3)],n'⟩) (aj ?_) fun s hs=>?_)
 .refine SS ?_;refine cl xj (af (oL ?_));refine⟨rfl,trivial,202,[],[.pt (bh x)],(dp x).map (fun n=>[I n]),fun k m nx=>m 2=some (.cells [I (((dp x).take k).count b:Nat)] 3)/\3<=nx,rfl,Wc oG,?_,⟨rfl,oS⟩,?_,?_⟩
  .intro y hy;obtain⟨n,_,rfl⟩:=List.mem_map.1 hy;exact⟨rfl,.cons (.s _) .nil⟩
  .rintro k m nx y hy ⟨ax,M⟩;simp only[List.getElem?_map,dx] at hy;obtain⟨n,hn,rfl⟩:=hy;have hk:k<(dp x).length:=(bw.1 hn).1
   have hc:((dp x).take (k+1)).count b=((dp x).take k).count b+(if n=b then 1 else 0):=by
    rw[List.take_add_one,hn,List.count_append];by_cases e:n=b
    .subst e;simp
    .simp[e]
   have C:((dp x).take k).count b<=k:=Nat.le_trans List.count_le_length oP;generalize ((dp x).take k).count b=c at ax hc C;refine gB (SS ?_);refine af (show AW _ _ _ _ _ _ from oL (aj (aq ?_)));refine af (aw rfl (fun h=>?_) fun h=>?_)
   .have h:n=b:=by simpa using h
    refine gB (ag ?_);refine cA (fI (d:=.s (.int _ _)) (cs':=[_]) rfl rfl ax rfl rfl) ak (du V.h V.h (by first|(simp;done)|exact⟨rfl,bE rfl⟩|(simp;omega)) rfl) ?_;refine af ?_;refine⟨?_,oM⟩;dsimp only;refine(up_same _ _ _).trans ?_;rw[hc,if_pos h];simp
   .have h:¬ n=b:=by simpa using h
    exact bS ⟨by rw[hc,if_neg h];exact ax,M⟩
  .rintro m nx ⟨h1,h2⟩;refine⟨nx,aQ eH ⟨?_,trivial⟩⟩;rw[h1,List.length_map,List.take_length]
 obtain⟨n',hg⟩:=hs;refine⟨_,hg,aj ?_⟩;refine aJ ?_;refine af (av (d:=.s (.bool _)) rfl ?_);simp[B4,aX,ib]
theorem MO{f:FuncId}{cs:List D}{xs:List Int}(hs:SeqA prog f [] cs (xs.map fun n=>[I n]))(ht:Tr (.fn (.func f) [] cs))(hlen:xs.length<=100000):OCall prog 258 [.z,.fn (.func f) [] cs] (xs.map I) xs.length 3:=by
 have a7:∀ a∈[D.z,.fn (.func f) [] cs],Tr a:=.cons .z (.cons ht .nil);refine zK UN a7 (.map fun _=>.s _) ?_;rw[age];refine ws (iB (HA (d:=.z) rfl rfl) ak rfl (SS ?_));refine af (eI (fun s=>(xs=[]/\∃ n',Ghost prog s ⟨aD [(2,.rp 0 0)],bf [(0,.cells [.z] 27)],n'⟩)\/∃ r n',0<r/\Ghost prog s ⟨aD [(2,.rp 0 0)],bf [(0,.cells [.rs r 0 xs.length] 27),(r,.cells (xs.map I) 3)],n'⟩) (aj ?_) fun s hs=>?_)
 .refine SS ?_;refine af (oL ?_);refine⟨rfl,trivial,f,[],cs,xs.map (fun n=>[I n]),fun k m nx=>1<=nx/\((k=0/\m 0=some (.cells [.z] 27))\/(0<k/\∃ r,0<r/\r<nx/\m 0=some (.cells [.rs r 0 k] 27)/\m r=some (.cells ((xs.take k).map I) 3))),rfl,hs,?_,⟨oS,.inl ⟨rfl,rfl⟩⟩,?_,?_⟩
  .intro y hy;obtain⟨n,_,rfl⟩:=List.mem_map.1 hy;exact⟨rfl,.cons (.s _) .nil⟩
  .rintro k m nx y hy ⟨fO,C⟩;simp only[List.getElem?_map,dx] at hy;obtain⟨n,hn,rfl⟩:=hy;have hk:k<xs.length:=(bw.1 hn).1
   have X:(xs.take (k+1)).map I=(xs.take k).map I++[I n]:=by
    rw[List.take_add_one,hn];simp
   refine gB (SS ?_);refine af (show AW _ _ _ _ _ _ from oL (gB ?_));rcases C with⟨rfl,ax⟩|⟨dT,r,M,J,ax,di⟩
   .refine aO ?_;refine af ?_;refine⟨oM,.inr ⟨oG,nx+1,oG,oM,?_,?_⟩⟩
    .dsimp only;exact(up_same _ _ _).trans rfl
    .dsimp only;exact(aC oG (up_same _ _ _)).trans (by rw[X];rfl)
   .have rO:((xs.take k).map I).length=k:=by simp;omega
    refine aP ?_;refine Ws ?_;refine af ?_;refine⟨oM,.inr ⟨oG,nx+1,oG,oM,?_,?_⟩⟩
    .dsimp only;exact(up_same _ _ _).trans rfl
    .dsimp only;exact(aC oG (up_same _ _ _)).trans (by rw[X];rfl)
  .rintro m nx ⟨fO,C⟩;rw[List.length_map] at C;rcases C with⟨h0,ax⟩|⟨dT,r,M,J,ax,di⟩
   .exact .inl ⟨List.length_eq_zero_iff.1 h0,nx,aQ eH ⟨ax,trivial⟩⟩
   .refine .inr ⟨r,nx,M,aQ eH ⟨ax,?_,trivial⟩⟩;rw[di,List.take_length]
 rcases hs with⟨rfl,n',hg⟩|⟨r,n',hr,hg⟩
 .refine⟨_,hg,az ?_⟩;refine ag ?_;refine af ⟨_,.nilrow _ _ _ 4 3 rfl,av rfl ⟨n',?_,up_same _ _ _⟩⟩;rfl
 .refine⟨_,hg,aj ?_⟩;refine ag ?_;refine af (av rfl ⟨r,rfl,?_⟩);simp[bf];omega
theorem MP{f:FuncId}{cs:List D}{xs:List Int}(hs:SeqA prog f [] cs (xs.map fun n=>[I n]))(ht:Tr (.fn (.func f) [] cs))(hlen:xs.length<=100000):OCall prog 247 [.fn (.func f) [] cs] (xs.map I) xs.length 3:=by
 have C:∀ a∈[.fn (.func f) [] cs],Tr a:=.cons ht .nil;refine zK UO C (.map fun _=>.s _) ?_;rw[agf];have MO:=MO hs ht hlen;refine ws (SS ?_);refine er (SS ?_);refine Ce MO rfl cv (SS ?_);exact af (av rfl ⟨0,rfl,rfl⟩)
end Go.Proofs.Tryz.K
namespace Go.Argus
def swapAt(l:List Int)(j:Nat):List Int:=(l.set (j+1) (l.getD j 0)).set j (l.getD (j+1) 0)
def qj(l:List Int):Nat->List Int
 |0=>l
 |j+1=>if l.getD (j+1) 0<l.getD j 0 then qj (swapAt l j) j else l
def nW(l:List Int):Nat->List Int
 |0=>l
 |k+1=>qj (nW l k) (k+1)
def gD(l:List Int):List Int:=nW l (l.length - 1)
@[simp] theorem aof (l : List Int) (j : Nat) : (swapAt l j).length = l.length := by simp [swapAt]
@[simp] theorem acr : ∀ (j : Nat) (l : List Int), (qj l j).length = l.length
 |0,l=>rfl
 |j+1,l=>by simp only[qj];split<;>simp[acr j]
@[simp] theorem Qc (l : List Int) : ∀ k, (nW l k).length = l.length
 |0=>rfl
 |k+1=>by simp[nW,Qc l k]
@[simp] theorem JX (l : List Int) : (gD l).length = l.length := Qc l _
def gh(d:List Int):Nat->List Int
 |0=>[]
 |t+1=>gh d t++(if t≠0/\d.getD t 0=d.getD (t - 1) 0 then [] else [d.getD t 0])
def lj(d:List Int):List Int:=gh d d.length
theorem RY{d:List Int}{x:Int}:∀ {t:Nat},t<=d.length->(x∈gh d t↔x∈d.take t)
 |0,_=>by simp[gh]
 |t+1,ht=>by
  have ih:=RY (d:=d) (x:=x) (t:=t) oG;have hg:d.getD t 0=d[t]:=by simp[bl,aN (show t<d.length by omega)]
  rw[gh,List.mem_append,ih,List.take_succ_eq_append_getElem oG,List.mem_append];split
  .rename_i h;have h1:d[t - 1]? =some d[t - 1]:=aN oG
   have C:d[t]∈d.take t:=by
    rw[<- hg,h.2];have:d.getD (t - 1) 0=d[t - 1]:=by simp[bl,h1]
    rw[this];exact bU (i:=t - 1) (by rw[List.getElem?_take,if_pos oG,h1])
   constructor
   .rintro(h|h)
    .exact .inl h
    .simp at h
   .rintro(h|h)
    .exact .inl h
    .simp at h;subst h;exact .inl C
  .rw[hg]
theorem KW{d:List Int}:∀ t,(gh d t).length<=t
 |0=>by simp[gh]
 |t+1=>by
  have:=KW (d:=d) t;rw[gh,List.length_append];split<;>simp<;>omega
theorem Tz{d:List Int}{t:Nat}(ht:t<d.length)(h0:t≠0)(h:d.getD t 0=d.getD (t - 1) 0):gh d (t+1)=gh d t:=by
 rw[gh,if_pos ⟨h0,h⟩,List.append_nil]
theorem TA{d:List Int}{t:Nat}(h:d.getD t 0≠d.getD (t - 1) 0):gh d (t+1)=gh d t++[d.getD t 0]:=by
 rw[gh,if_neg fun C=>h C.2]
end Go.Argus
namespace Go.Proofs.Tryz.K
theorem akq{a:Int}:PCall prog 227 [I a] (B false):=by
 refine bg US (by simp[Tr.s]) (Tr.s _) ?_;rw[agl];refine ws (SS ?_);refine er (aP ?_);refine af (av (d:=.s (.bool _)) rfl ?_);simp[bne]
theorem akr{a b:Int}:PCall prog 184 [I a,I b] (B (decide (a<b))):=by
 refine bg UT (by simp[Tr.s]) (Tr.s _) ?_;rw[agm];refine ws (SS ?_);refine er (SS ?_);refine cl akq (SS ?_);(iterate 3 refine z fun _ _=>?_);refine dA ?_;exact af (av (d:=.s (.bool _)) rfl rfl)
theorem aks{m:Mem}{nx i n:Nat}{l:List Int}(hi:i<nx)(hm:m i=some (.cells (l.map I) 3))(hl:l.length=n)(hn:n<=12):
 ACalls prog 178 [.rs i 0 n,I 0,I n] m nx (fun r m' nx'=>r=.tup []/\nx'=nx/\m'=up m i (some (.cells ((gD l).map I) 3))):=by
 refine zI UU ?_;rw[agn]
 have s9:up m i (some (.cells (l.map I) 3))=m:=by
  funext j;simp only[up];split
  .rename_i e;rw[e,hm]
  .rfl
 refine az (aq ?_);refine af (cQ (α:=Nat) (fun k=>⟨aD [(0,.rs i 0 n),(1,I 0),(2,I n),(6,I (k+1:Nat))],up m i (some (.cells ((nW l k).map I) 3)),nx⟩) (fun k=>k<=n - 1) (fun k=>n - k) 0 (nC eH s9.symm) oG ?_);intro k hk;refine aq ?_;refine af ⟨_,rfl,fun h=>?_,fun h=>?_⟩
 .have ao:k+1<n:=by have:((k+1:Nat):Int)<n:=by simpa using h
                    omega
  refine az (ag ?_);refine af (aeZ aaZ (α:=List Int×Nat) (fun s=>⟨aD [(0,.rs i 0 n),(1,I 0),(2,I n),(6,I (k+1:Nat)),(7,I s.2)],up m i (some (.cells (s.1.map I) 3)),nx⟩) (fun s=>s.1.length=n/\s.2<=k+1/\qj s.1 s.2=nW l (k+1)) (fun s=>s.2) (nW l k,k+1) (ap eH) ⟨by simp[hl],oS,rfl⟩ ?_);rintro⟨d,j⟩ ⟨hd,hj,hs⟩;simp only at hd hj hs;cases j with
  |zero=>
   have eM:decide ((0:Int)<((0:Nat):Int))=false:=rfl;refine aP ?_;(iterate 10 refine z fun _ _=>?_);refine SS ?_;refine a8 bc ⟨_,rfl,fun h=>oH,fun h=>?_⟩;have hs:d=nW l (k+1):=hs;subst hs;show AOps _ _ _ _ _ _ _ _ _;refine aq ?_;exact af (aK (k+1) (ap eH) oG oG)
  |succ j=>
   have ha:d[j+1]? =some d[j+1]:=aN oG;have hb:d[j]? =some d[j]:=aN oG;have C:d.getD (j+1) 0=d[j+1]:=by simp[bl,ha]
   have J:d.getD j 0=d[j]:=by simp[bl,hb]
   have kd:=iG (f:=I) ha;have j3:=iG (f:=I) hb;generalize M:d[j+1]=a at ha C kd;generalize X:d[j]=b at hb J j3;clear M X;have eM:decide ((0:Int)<((j+1:Nat):Int))=true:=by simp
   have nh:((j+1:Nat):Int) - 1=(j:Int)/\ -9223372036854775808<=(j:Int)/\(j:Int)<=9223372036854775807:=by omega
   refine bB ?_;refine bt rfl rfl (mN rfl rfl (up_same _ _ _) V.h V.h) (fun hc=>⟨ak,⟨V.h,oG⟩⟩) (bt rfl rfl (gQ rfl (up_same _ _ _) kd V.h) (fun hc=>⟨ak,(gR V.h V.h kd)⟩) (aq ?_));refine bt rfl rfl (mN rfl rfl (up_same _ _ _) V.h V.h) (fun hc=>⟨ak,⟨V.h,oG⟩⟩) (bt rfl rfl (gQ rfl (up_same _ _ _) j3 V.h) (fun hc=>⟨ak,(gR V.h V.h j3)⟩) (gc akr (SS ?_)));refine a8 bc ⟨_,rfl,fun h=>?_,fun h=>?_⟩
   .have h:a<b:=by simpa using h
    refine pO aa0 (aJ ?_);refine aI (gQ rfl (up_same _ _ _) j3 V.h) ak (gR V.h V.h j3) (bK ?_);refine a8 bc (aq ?_);refine af (aK (swapAt d j,j) (nC eH ?_) ⟨by simp[hd],by simp only;omega,?_⟩ (by simp only;omega))
    .rw[p9,p9];simp only[swapAt,C,J,List.map_set]
    .rw[<- hs];simp only[qj,C,J,if_pos h]
   .have h:¬ a<b:=by simpa using h
    have hs:d=nW l (k+1):=by rw[<- hs];simp only[qj,C,J,if_neg h]
    subst hs;show AOps _ _ _ _ _ _ _ _ _;refine aq ?_;exact af (aK (k+1) (ap eH) oG oG)
 .have a9:¬ k+1<n:=by have h:¬ ((k+1:Nat):Int)<n:=by simpa using h
                      omega
  refine qP ⟨rfl,rfl,?_⟩;have:k=n - 1:=by omega
  subst this;simp only[gD,hl]
theorem akt{m:Mem}{nx i n:Nat}{l:List Int}{mC:Int}(hi:i<nx)(hm:m i=some (.cells (l.map I) 3))(hl:l.length=n)(hn:n<=12):
 ACalls prog 151 [.rs i 0 n,I 0,I n,I mC] m nx (fun r m' nx'=>r=.tup []/\nx'=nx/\m'=up m i (some (.cells ((gD l).map I) 3))):=by
 refine zI UW ?_;rw[ago];refine ws (SS ?_);refine af (az (SS ?_));refine af ⟨_,ap (l:=[(0,.rs i 0 n),(1,I 0),(2,I n)]) eH,oL (RO (fun s=>s=⟨aD [(0,.rs i 0 n),(1,I 0),(2,I n)],m,nx⟩) (fun _=>0) rfl fun s hs=>?_)⟩;subst hs;refine oL (aj (aP ?_));refine af (aB (aj (SS ?_)));refine WO ?_;refine af (cx rfl (fun h=>?_) fun h=>?_)
 .refine aB (aj (aq ?_));refine kO (aks hi hm hl hn) rfl cv fun r m' nx' hp=>?_;obtain⟨rfl,rfl,rfl⟩:=hp;exact af (bX (bO (aR (bO (wH ⟨rfl,rfl,rfl⟩)))))
 .have:¬ ((n:Int) - 0<=12):=by simpa using h
  omega
theorem MT{n:Nat}(hn:n<=12):∃ r,PCall prog 152 [.s (.int .u64 (IntKind.u64.wrap (n:Int)))] (I r):=by
 match n,hn with
 |0,_=>exact⟨0,lS nM 100 rfl kr⟩
 |1,_=>exact⟨1,lS nM 100 rfl kr⟩
 |2,_=>exact⟨2,lS nM 100 rfl kr⟩
 |3,_=>exact⟨2,lS nM 100 rfl kr⟩
 |4,_=>exact⟨3,lS nM 100 rfl kr⟩
 |5,_=>exact⟨3,lS nM 100 rfl kr⟩
 |6,_=>exact⟨3,lS nM 100 rfl kr⟩
 |7,_=>exact⟨3,lS nM 100 rfl kr⟩
 |8,_=>exact⟨4,lS nM 100 rfl kr⟩
 |9,_=>exact⟨4,lS nM 100 rfl kr⟩
 |10,_=>exact⟨4,lS nM 100 rfl kr⟩
 |11,_=>exact⟨4,lS nM 100 rfl kr⟩
 |12,_=>exact⟨4,lS nM 100 rfl kr⟩
theorem yc{m:Mem}{nx i n:Nat}{l:List Int}(hi:i<nx)(hm:m i=some (.cells (l.map I) 3))(hl:l.length=n)(hn:n<=12):
 ACalls prog 89 [.rs i 0 n] m nx (fun r m' nx'=>r=.tup []/\nx'=nx/\m'=up m i (some (.cells ((gD l).map I) 3))):=by
 refine zI WQ ?_;rw[aku];obtain⟨mC,MT⟩:=MT hn;have ax:=hm;refine ws (aq ?_);refine af (gB (aq ?_));refine aI (aeI rfl V.h) ak V.h (cl MT (kO (akt hi hm hl hn) rfl cv fun r m' nx' hp=>?_));obtain⟨rfl,rfl,rfl⟩:=hp;exact af (qP ⟨rfl,rfl,rfl⟩)
end Go.Proofs.Tryz.K
namespace Go.Abs
section
variable{P:Program}{env:Env}{m:Mem}{nx:Nat}{x y:Operand}{t p:TypeId}{k:IntKind}{n n':Int}
theorem adH{j i l off:Nat}{e:TypeId}{r:Row}(hx:(opd env x).core=.rs j off l)(hy:(opd env y).core=.s (.int k (i:Int)))(hm:m j=some r)(he:elemP P t=e)(hs:P.cellsOf e=1):
 Ef P (.indexAddr t x y) env m nx ⟨slT P t=true/\i<l,.rp j (off+i),[],[j],0⟩:=by
 have h:=HB (P:=P) (env:=env) (m:=m) (nx:=nx) (t:=t) hx hy hm he hs;have h1:off+((i:Int)).toNat*1=off+i:=by simp
 have h2:(slT P t=true/\(0:Int)<=(i:Int)/\(i:Int)<l)=(slT P t=true/\i<l):=by
  apply propext;constructor
  .rintro⟨a,_,b⟩;exact⟨a,oG⟩
  .rintro⟨a,b⟩;exact⟨a,oG,oG⟩
 rw[h1,h2] at h;exact h
theorem Qd{i l a:Nat}{cs:List D}{e:TypeId}(hx:(opd env x).core=.rs i 0 l)(hm:m i=some (.cells cs e))(he:elemP P t=e)(hs:P.cellsOf e=1)(ha:(opd env y).core=.s (.int .i64 (a:Int))):
 Ef P (.slice t x (some y) none none) env m nx ⟨slT P t=true/\a<=l,.rs i a (l - a),[],[i],0⟩:=by
 have h:=Kc (P:=P) (env:=env) (m:=m) (nx:=nx) (t:=t) (lo:=some y) (hi:=none) (a:=(a:Int)) (b:=(l:Int)) hx hm he hs (by simp[bndD,ha,D.int?]) (by simp[bndD]);have h1:0+((a:Int)).toNat*1=a:=by simp
 have h3:((l:Int) - (a:Int)).toNat=l - a:=by omega
 have h2:((slT P t=true/\1=1)/\(0:Int)<=(a:Int)/\(a:Int)<=(l:Int)/\(l:Int)<=(l:Int))=(slT P t=true/\a<=l):=by
  apply propext;constructor
  .rintro⟨⟨a,_⟩,_,b,_⟩;exact⟨a,oG⟩
  .rintro⟨a,b⟩;exact⟨⟨a,rfl⟩,oG,oG,oG⟩
 rw[h1,h2,h3] at h;exact h
theorem aa1{i l b:Nat}{cs:List D}{e:TypeId}(hx:(opd env x).core=.rs i 0 l)(hm:m i=some (.cells cs e))(he:elemP P t=e)(hs:P.cellsOf e=1)(hb:(opd env y).core=.s (.int .i64 (b:Int))):
 Ef P (.slice t x none (some y) none) env m nx ⟨slT P t=true/\b<=l,.rs i 0 b,[],[i],0⟩:=by
 have h:=Kc (P:=P) (env:=env) (m:=m) (nx:=nx) (t:=t) (lo:=none) (hi:=some y) (a:=0) (b:=(b:Int)) hx hm he hs (by simp[bndD]) (by simp[bndD,hb,D.int?]);have h1:0+((0:Int)).toNat*1=0:=by simp
 have h3:((b:Int) - 0).toNat=b:=by omega
 have h2:((slT P t=true/\1=1)/\(0:Int)<=0/\(0:Int)<=(b:Int)/\(b:Int)<=(l:Int))=(slT P t=true/\b<=l):=by
  apply propext;constructor
  .rintro⟨⟨a,_⟩,_,_,b⟩;exact⟨a,oG⟩
  .rintro⟨a,b⟩;exact⟨⟨a,rfl⟩,oG,oG,oG⟩
 rw[h1,h2,h3] at h;exact h
theorem adW{i off l:Nat}{cs z:List D}{e:TypeId}(hx:(opd env x).core=.rs i off l)(hm:m i=some (.cells cs e))(he:elemP P t=e)(C:zeroP P e=z):
 Ef P (.call { callee:=.builtin .clear,args:= #[x],argTypes:= #[t] }) env m nx ⟨slT P t=true/\off+l*P.cellsOf e<=cs.length/\e=e,.tup [],[(i,some (.cells (splice cs off (replD l z)) e))],[i],0⟩:=by
 refine wN («aS»:=[.rs i off l]) rfl (by simp[hx]) ?_;simp only[builtinD,hm,C,Array.getD_eq_getD_getElem?,List.getElem?_toArray,List.getElem?_cons_zero,Option.getD_some,he]
theorem ZW{cs:List D}{n k:Nat}{x:D}(hn:cs.length=n)(hk:k<=n):splice cs k (replD (n - k) [x])=cs.take k++replicate (n - k) x:=by
 have hr:replD (n - k) [x]=replicate (n - k) x:=by
  unfold replD;generalize n - k=j
  induction j with
  |zero=>rfl
  |succ j ih=>simp[List.replicate_succ,ih]
 rw[hr];unfold splice;split
 .rename_i y e;have h1:n - k=1:=by have:=congrArg List.length e;simpa using this
  rw[h1] at e ⊢;simp at e;subst e;rw[List.set_eq_take_append_cons_drop,if_pos oG,List.drop_eq_nil_of_le oG];rfl
 .rw[List.length_replicate,List.drop_eq_nil_of_le oG,List.append_nil]
end
end Go.Abs
namespace Go.Proofs.Tryz.K
def wU(d:List Int)(n:Nat):List D:=(lj d).map I++replicate (n - (lj d).length) (I 0)
def RZ(d:List Int)(n:Nat)(m:Mem)(nx i:Nat)(r:D)(m':Mem)(nx':Nat):Prop:=nx'=nx/\r=.rs i 0 (lj d).length/\m'=up m i (some (.cells (wU d n) 3))
def ae0(d:List Int)(m:Mem)(nx i:Nat)(r:D)(m':Mem)(nx':Nat):Prop:=nx'=nx/\r=.rs i 0 (lj d).length/\∃ c,m'=up m i (some (.cells c 3))/\c.take (lj d).length=(lj d).map I
theorem E6{m:Mem}{nx i n:Nat}{d:List Int}(hi:i<nx)(hm:m i=some (.cells (d.map I) 3))(hl:d.length=n)(hn:n<=100000):ACalls prog 90 [.rs i 0 n] m nx (RZ d n m nx i):=by
 refine zI CC ?_;rw[akv];have ax:=hm
 have s9:up m i (some (.cells (d.map I) 3))=m:=by
  funext j;simp only[up];split
  .rename_i e;rw[e,hm]
  .rfl
 have whole:gh d n=d->RZ d n m nx i (.rs i 0 n) m nx:=fun h=>by
  have h:lj d=d:=by unfold lj;rw[hl];exact h
  refine⟨rfl,by rw[h,hl],?_⟩;rw[wU,h,hl,Nat.sub_self,List.replicate_zero,List.append_nil,s9]
 refine ws (SS ?_);refine af (aB (aj (aq ?_)));refine af (cx rfl (fun h=>?_) fun h=>bP (aB (az ?_)))
 .have h:n<2:=by have h:(n:Int)<2:=by simpa using h
                 omega
  refine aB (aj (ag ?_));refine af (bX (av rfl (whole ?_)))
  match d,n,hl,h with
  |[],_,rfl,_=>rfl
  |[a],_,rfl,_=>rfl
 have h2:2<=n:=by have h:¬ (n:Int)<2:=by simpa using h
                  omega
 refine SS ?_;refine af (bR (fun s=>Ghost prog s ⟨aD [(0,.rs i 0 n)],m,nx⟩/\gh d n=d) (cQ (α:=Nat) (fun k=>⟨aD [(0,.rs i 0 n),(3,I k)],m,nx⟩) (fun k=>1<=k/\k<=n/\gh d k=d.take k) (fun k=>n - k) 1 (ap eH) ⟨oG,oG,?_⟩ ?_) ?_)
 .match d,hl with
  |a::t,_=>rfl
  |[],hl=>simp at hl;omega
 .rintro k ⟨Fy,hk,C⟩;refine aP ?_;refine af ⟨_,rfl,fun h=>?_,fun h=>?_⟩
  .have ao:k<n:=by have h:(k:Int)<n:=by simpa using h
                   omega
   obtain⟨j,rfl⟩:∃ j,k=j+1:=⟨k - 1,oG⟩
   have ha:d[j+1]? =some d[j+1]:=aN oG;have hb:d[j]? =some d[j]:=aN oG;have ga:d.getD (j+1) 0=d[j+1]:=by simp[bl,ha]
   have gb:d.getD j 0=d[j]:=by simp[bl,hb]
   have kd:=iG (f:=I) ha;have j3:=iG (f:=I) hb;have nh:((j+1:Nat):Int) - 1=(j:Int)/\ -9223372036854775808<=(j:Int)/\(j:Int)<=9223372036854775807:=by omega
   refine dF acs (bK ?_);refine aI (gQ rfl ax j3 V.h) ak (gR V.h V.h j3) (SS ?_);refine a8 bc (aw rfl (fun h=>?_) fun h=>?_)
   .have xO:d[j+1]=d[j]:=by simpa using h
    refine ws (ag ?_);refine aI (Qd rfl ax V.h V.h rfl) ak ⟨V.h,oG⟩ (SS ?_);refine af (aB (az (SS ?_)));have akw:gh d (j+1+1)=gh d (j+1):=Tz oG oG (by rw[ga,show j+1 - 1=j by omega,gb];exact xO);have dT:(gh d (j+1)).length=j+1:=by rw[C];simp;omega
    clear kd j3 nh
    refine af (bR (fun s=>∃ (c:List Int) (k:Nat),Ghost prog s ⟨aD [(0,.rs i 0 n),(3,I (k:Nat))],up m i (some (.cells (c.map I) 3)),nx⟩/\c.length=n/\k<=n/\c.take k=gh d n) (cQ (α:=List Int×Nat×Nat) (fun s=>⟨aD [(0,.rs i 0 n),(3,I s.2.1),(4,.rs i (j+1) (n - (j+1))),(5,I (s.2.2+1:Nat))],up m i (some (.cells (s.1.map I) 3)),nx⟩)
     (fun s=>s.1.length=n/\j+1+(s.2.2+1)<=n/\s.2.1<=j+1+s.2.2/\s.1.take s.2.1=gh d (j+1+(s.2.2+1))/\∀ p,j+1+s.2.2<=p->s.1[p]? =d[p]?) (fun s=>n - s.2.2) (d,j+1,0) (nC eH s9.symm) ⟨hl,by simp only;omega,by simp only;omega,?_,fun _ _=>rfl⟩ ?_) ?_)
    .show d.take (j+1)=gh d (j+1+1);rw[akw,C]
    .rintro⟨c,k,q⟩ ⟨J,X,w3,w4,M⟩;simp only at J X w3 w4 M;dsimp only;refine ag ?_;refine aI (BZ rfl (up_same _ _ _)) ak V.h (SS ?_);refine af ⟨_,rfl,fun h=>?_,fun h=>?_⟩
     .have ao:q+1<n - (j+1):=by have h:((q+1:Nat):Int)<((n - (j+1):Nat):Int):=by simpa using h
                                omega
      have xa:c[j+1+(q+1)]? =some c[j+1+(q+1)]:=aN oG;have xb:c[j+1+q]? =some c[j+1+q]:=aN oG;have ya:d.getD (j+1+(q+1)) 0=c[j+1+(q+1)]:=by rw[bl, <- M _ oG,xa];rfl
      have yb:d.getD (j+1+q) 0=c[j+1+q]:=by rw[bl, <- M _ oG,xb];rfl
      have kd:=iG (f:=I) xa;have j3:=iG (f:=I) xb;generalize hA:c[j+1+(q+1)]=a at xa ya kd;generalize hB:c[j+1+q]=b at xb yb j3;clear hA hB;have nh:((q+1:Nat):Int) - 1=(q:Int)/\ -9223372036854775808<=(q:Int)/\(q:Int)<=9223372036854775807:=by omega
      refine dF aa2 (bK ?_);refine aI (gQ rfl (up_same _ _ _) j3 V.h) ak (gR V.h V.h j3) (SS ?_);refine a8 bc (aw rfl (fun h=>?_) fun h=>?_)
      .have aE:a≠b:=by simpa using h
       have hn:=TA (d:=d) (t:=j+1+(q+1)) (by rw[ya,show j+1+(q+1) - 1=j+1+q by omega,yb];exact aE);refine ws (bK ?_);refine af (fh (aq ?_));refine af (aq ?_);refine af (aK (c.set k a,k+1,q+1) (nC eH ?_) ⟨by simp[J],by simp only;omega,by simp only;omega,?_,fun p hp=>?_⟩ (by simp only;omega))
       .rw[p9,List.map_set]
       .show(c.set k a).take (k+1)=gh d (j+1+(q+1)+1);rw[hn,ya, <- w4,List.take_succ_eq_append_getElem oP];simp;exact List.take_set_of_le (bF k)
       .simp only at hp;show(c.set k a)[p]? =_;rw[List.getElem?_set_ne oG];exact M p oG
      .have akx:a=b:=by simpa using h
       have hn:=Tz (d:=d) (t:=j+1+(q+1)) oG oG (by rw[ya,show j+1+(q+1) - 1=j+1+q by omega,yb];exact akx);refine bS (aq ?_);refine af (aK (c,k,q+1) (ap eH) ⟨J,by simp only;omega,by simp only;omega,?_,fun p hp=>M p (by simp only at hp;omega)⟩ (by simp only;omega));show c.take k=gh d (j+1+(q+1)+1);rw[hn,w4]
     .have a9:¬ q+1<n - (j+1):=by have h:¬ ((q+1:Nat):Int)<((n - (j+1):Nat):Int):=by simpa using h
                                  omega
      refine⟨c,k,.forget _ _ _ _ fun t=>pN (l:=[(0,.rs i 0 n),(3,I k)]) ⟨rfl,rfl,trivial⟩ t,J,oG,?_⟩;rw[w4];exact congrArg (gh d) oG
    .rintro s ⟨c,k,hg,J,ck,X⟩;refine⟨_,hg,aj ?_⟩;refine ag ?_;refine aI (Qd rfl (up_same _ _ _) V.h V.h rfl) ak ⟨V.h,oG⟩ (cA (adW rfl (up_same _ _ _) V.h V.h) ak ⟨V.h,(by rw[c3];first|(simp;done)|(simp;omega)|omega),rfl⟩ ?_);refine er (ag ?_);refine aI (aa1 rfl (up_same _ _ _) V.h V.h rfl) ak ⟨V.h,oG⟩ (SS ?_);have cJ:(lj d).length=k:=by unfold lj;rw[hl, <- X];simp;omega
     refine af (aY (br (aR (av (d:=.rs i 0 k) rfl ⟨rfl,by rw[cJ],(p9 _ _ _ _).trans ?_⟩))));rw[ZW (by rw[List.length_map,J]) ck, <- List.map_take,X,wU,cJ];unfold lj;rw[hl]
   .have aE:d[j+1]≠d[j]:=by simpa using h
    refine bS (aq ?_);refine af (aK (j+1+1) (ap eH) ⟨oG,oG,?_⟩ oG);rw[TA (by rw[ga,show j+1 - 1=j by omega,gb];exact aE),C,ga];exact(List.take_succ_eq_append_getElem oG).symm
  .have a9:¬ k<n:=by have h:¬ (k:Int)<n:=by simpa using h
                     omega
   have:k=n:=by omega
   refine⟨.forget _ _ _ _ fun t=>pN (l:=[(0,.rs i 0 n)]) ⟨rfl,trivial⟩ t,?_⟩;rw[<- this,C,df oG]
 .rintro s ⟨hg,C⟩;refine⟨_,hg,aj ?_⟩;refine ag ?_;exact af (av rfl (whole C))
theorem F1{m:Mem}{nx i n:Nat}{d:List Int}(hi:i<nx)(hm:m i=some (.cells (d.map I) 3))(hl:d.length=n)(hn:n<=100000):ACalls prog 90 [.rs i 0 n] m nx (ae0 d m nx i):=by
 refine(E6 hi hm hl hn).mono ?_;rintro r m' nx' ⟨h1,h2,h3⟩;refine⟨h1,h2,wU d n,h3,?_⟩;rw[wU,List.take_append_of_le_length oS,df oS]
end Go.Proofs.Tryz.K
namespace Go.Argus
def ia(x:End)(b:Int)(w:List Int):List Int:=if B4 x b then gC w (eT x) else w
@[simp] theorem Qe (x : End) (b : Int) (w : List Int) : (ia x b w).length = w.length := by unfold ia; split <;> simp
def BP(l:List Int):List Int:=lj (gD l)
structure qV(x:bC):Prop where
 rd:∀ r∈cP x,0<=r/\r<1200
 sl:x.op=17\/x.op=18->0<=x.n/\x.n<80
 wr: -1000000<=dL x/\dL x<1200
 ar:x.op=10\/x.op=38->x.args.length<=1000
structure Cm(x:End):Prop where
 rd:∀ r∈cK x,0<=r/\r<1200
 wr: -1000000<=eT x/\eT x<1200
 wh:x.aL.length<=9
 a1:x.kind=5->x.ins.op=10\/x.ins.op=38->x.ins.args.length<=1000
 a2:x.kind=6\/x.kind=7->x.args.length<=1000
def iW(w:List Int)(ok:Bool)(rs:List Int):Bool:=rs.foldl (fun ok r=>ok&&kT w r.toNat) ok
def yP(w:List Int)(x:bC):List Int:=gC w (if x.op=18 then ld x.n else dL x)
def l6(s:List Int×Bool)(x:bC):List Int×Bool:=(yP s.1 x,iW s.1 s.2 (cP x)&&(x.op !=17||kT s.1 (ld x.n).toNat))
def lF(l:List bC)(w:List Int):List Int×Bool:=l.foldl l6 (w,true)
def jL(b:b7)(w:List Int):List Int×Bool:=((lF b.ins w).1,iW (lF b.ins w).1 (lF b.ins w).2 (cK b.fin))
theorem oF{α β:Type}{f:β->α->β}{z:β}{l:List α}{k:Nat}{x:α}(h:l[k]? =some x):(l.take (k+1)).foldl f z=f ((l.take k).foldl f z) x:=by
 rw[List.take_add_one,h,List.foldl_append];rfl
theorem Kp(l:List bC)(w:List Int):(lF l w).1.length=w.length:=by
 unfold lF;generalize true=b
 induction l generalizing w b with
 |nil=>rfl
 |cons x l ih=>rw[List.foldl_cons];exact(ih _ _).trans (by simp[yP])
theorem Jv(b:b7)(w:List Int):(jL b w).1.length=w.length:=Kp _ _
def cY(l:List (List Int)):List D:=l.flatMap fun w=>w.map c6
theorem KX{sz:Nat}:∀ {l:List (List Int)} {i:Nat} {w:List Int},(∀ w∈l,w.length=sz)->l[i]? =some w->(cY l).drop (i*sz)=w.map c6++(cY (l.drop (i+1)))
 |[],i,w,_,h=>by simp at h
 |a::l,0,w,_,h=>by simp at h;subst h;simp[cY]
 |a::l,i+1,w,hs,h=>by
  have ha:(a.map c6).length=sz:=by simpa using hs a oS
  have h1:(i+1)*sz=(a.map c6).length+i*sz:=by rw[ha,Nat.add_mul];omega
  have ih:=KX (l:=l) (i:=i) (w:=w) (fun w C=>hs w (by simp[C])) (by simpa using h);unfold cY at ih ⊢;rw[List.flatMap_cons,h1, <- List.drop_drop,List.drop_left,ih,List.drop_succ_cons]
theorem HY{sz:Nat}{l:List (List Int)}{i:Nat}{w:List Int}(h:∀ w∈l,w.length=sz)(hi:l[i]? =some w):((cY l).drop (i*sz)).take sz=w.map c6:=by
 rw[KX h hi,List.take_append_of_le_length (by simp[h w (bU hi)]),df (by simp[h w (bU hi)])]
theorem JY{sz:Nat}:∀ {l:List (List Int)},(∀ w∈l,w.length=sz)->(cY l).length=l.length*sz
 |[],_=>by simp[cY]
 |a::l,h=>by
  have:=JY (l:=l) fun w C=>h w (by simp[C]);unfold cY at this ⊢;rw[List.flatMap_cons,List.length_append,this,List.length_map,h a oS,List.length_cons,Nat.add_mul];omega
theorem Aw{sz:Nat}{l:List (List Int)}{i:Nat}{w:List Int}(h:∀ w∈l,w.length=sz)(hi:l[i]? =some w):i*sz+sz<=(cY l).length:=by
 rw[JY h];have:=(bw.1 hi).1;rw[<- Nat.succ_mul];exact Nat.mul_le_mul_right _ this
theorem Uu{sz:Nat}(J:2<=sz):∀ {l:List (List Int)} {i:Nat} {w v:List Int},(∀ w∈l,w.length=sz)->l[i]? =some v->w.length=sz->splice (cY l) (i*sz) (w.map c6)=cY (l.set i w):=by
 intro l i w v h hi C
 have key:splice (cY l) (i*sz) (w.map c6)=(cY l).take (i*sz)++w.map c6++(cY l).drop (i*sz+(w.map c6).length):=by
  unfold splice;split
  .rename_i x hx;have:(w.map c6).length=1:=by rw[hx];rfl
   simp at this;omega
  .rfl
 rw[key,List.length_map,C];clear key
 induction l generalizing i with
 |nil=>simp at hi
 |cons a l ih=>
  have ha:(a.map c6).length=sz:=by simpa using h a oS
  cases i with
  |zero=>
   simp only[Nat.zero_mul,List.take_zero,List.nil_append,Nat.zero_add,List.set_cons_zero];unfold cY;rw[List.flatMap_cons,List.flatMap_cons, <- ha,List.drop_left]
  |succ i=>
   have ih:=ih (i:=i) (fun w C=>h w (by simp[C])) (by simpa using hi);simp only[List.set_cons_succ];unfold cY at ih ⊢;rw[List.flatMap_cons,List.flatMap_cons, <- ih,show(i+1)*sz=(a.map c6).length+i*sz by rw[ha,Nat.add_mul];omega,List.take_length_add_append,Nat.add_assoc,List.drop_length_add_append];simp
theorem acu(n:Nat)(w:List Int):replD n (w.map c6)=cY (replicate n w):=by
 unfold replD cY
 induction n with
 |zero=>rfl
 |succ n ih=>rw[List.replicate_succ,List.replicate_succ,List.flatten_cons,List.flatMap_cons,ih]
theorem wA(n:Nat)(b:Bool):replD n [B b]=(replicate n b).map B:=by
 unfold replD
 induction n with
 |zero=>rfl
 |succ n ih=>rw[List.replicate_succ,List.replicate_succ,List.flatten_cons,List.map_cons,ih];rfl
theorem ae1(l:List (List Int)):∀ a∈cY l,Tr a:=.flat fun w=>.map fun _=>.s _
theorem KY{sz:Nat}{l:List (List Int)}{i:Nat}{w:List Int}(h:∀ w∈l,w.length=sz)(J:w.length=sz):∀ u∈l.set i w,u.length=sz:=fun u C=>by
 rcases List.mem_or_eq_of_mem_set C with h1|h1
 .exact h u h1
 .rw[h1];exact J
theorem Q8:∀ {w v:List Int},w.length=v.length->zipV (w.map c6) (v.map c6)=some (w.map (Value.int .u64),v.map (Value.int .u64))
 |[],[],_=>rfl
 |a::w,b::v,h=>by
  have:=Q8 (w:=w) (v:=v) (by simpa using h);simp[zipV,sameK,this]
theorem Q9:∀ {w v:List Int},w.length=v.length->veqs (w.map (Value.int .u64)) (v.map (Value.int .u64))=(w==v)
 |[],[],_=>rfl
 |a::w,b::v,h=>by
  have:=Q9 (w:=w) (v:=v) (by simpa using h);simp[veqs,veq1,this]
theorem aa4(w:List Int):(w.map (Value.int .u64)).map kindV=replicate w.length 0:=by
 induction w with
 |nil=>rfl
 |cons a w ih=>simpa[kindV,List.replicate_succ] using ih
end Go.Argus
namespace Go.Proofs.Tryz.K
theorem MU{f:FuncId}{cs:List D}{xs:List Int}(hs:SeqA prog f [] cs (xs.map fun n=>[I n]))(ht:Tr (.fn (.func f) [] cs))(hlen:xs.length<=12):OCall prog 201 [.fn (.func f) [] cs] ((gD xs).map I) xs.length 3:=by
 have C:∀ a∈[.fn (.func f) [] cs],Tr a:=.cons ht .nil;refine zK UX C (.map fun _=>.s _) ?_;rw[agp];have MP:=MP hs ht oG;refine ws (SS ?_);refine er (SS ?_);refine Ce MP rfl cv (SS ?_);refine er (SS ?_);refine kO (yc (i:=0) (l:=xs) oG rfl rfl hlen) rfl cv fun r m' nx' hp=>?_;obtain⟨rfl,rfl,rfl⟩:=hp;refine er (ag ?_);exact af (av rfl ⟨0,rfl,rfl⟩)
theorem xr{f:FuncId}{cs:List D}{xs:List Int}(hs:SeqA prog f [] cs (xs.map fun n=>[I n]))(ht:Tr (.fn (.func f) [] cs))(hlen:xs.length<=12):PCall prog 155 [.fn (.func f) [] cs] (au (BP xs)):=by
 have C:∀ a∈[.fn (.func f) [] cs],Tr a:=.cons ht .nil;refine bg UY C (cL _) ?_;rw[agq];have MU:=MU hs ht hlen;refine ws (SS ?_);refine af (az (SS ?_));refine Ce MU rfl cv (kO (F1 (i:=0) (d:=gD xs) (n:=xs.length) oG rfl oS oG) rfl cv fun r m' nx' hp=>?_);obtain⟨rfl,rfl,c,rfl,hc⟩:=hp;refine SS ?_;exact af (aW (bG [(0,c,3)] ⟨up_same _ _ _,trivial⟩ (l:=[(2,au (BP xs))]) ⟨(lA c3 (by rw[List.drop_zero,Nat.mul_one];exact hc)),trivial⟩) (av rfl rfl))
def nextR(x:Argus.End):List Int:=BP (dp x)
theorem TB{x:Argus.End}(hlen:x.aL.length<=9):PCall prog 155 [.fn (.func 202) [] [.pt (bh x)]] (au (nextR x)):=
 xr (Wc oG) (.fn oS (.cons (.pt (lT x)) .nil)) (by have:=KS x;omega)
theorem ze{x:Argus.End}{b:Int}{w:List Int}(J:w.length=20)(hlen:x.aL.length<=1000)(hn: -1000000<=eT x/\eT x<1280):PCall prog 199 [.agg (bh x),I b,iC w] (iC (ia x b w)):=by
 have C:∀ a∈[D.agg (bh x),I b,iC w],Tr a:=.cons (.agg (lT x)) (.cons (.s _) (.cons (sG _) .nil));refine bg UZ C (sG _) ?_;rw[ags];have MN:=MN (x:=x) (b:=b) hlen;refine ws (aq ?_);refine af (aB (aj (ag ?_)));refine cl MN (af (cx rfl (fun h=>?_) fun h=>bP (aj ?_)))
 .have MV:=MV (x:=x);have sH:=sH (w:=w) (n:=eT x) J hn;refine aB (dF aa3 (ag ?_));refine cl MV (cl sH (SS ?_));refine a8 bc (bX (nK (mI rfl rfl xg tY (nV oP) t231 oP) ?_));simp[ia,h]
 .refine ag ?_;refine af (nK (mI rfl rfl xg tY (nV oP) t231 oP) ?_);simp[ia,h]
theorem o9{b:b7}{w:List Int}(hw:w.length=20)(hl:b.ins.length<=100000)(hi:∀ x∈b.ins,qV x)(hf:Cm b.fin)(kZ:∀ x∈b.ins,(cP x).length<=100000)(jY:(cK b.fin).length<=100000):PCall prog 198 [.agg (fJ b),iC w] (.tup [iC (jL b w).1,B (jL b w).2]):=by
 have a7:∀ a∈[D.agg (fJ b),iC w],Tr a:=.cons (.agg (Qf b)) (.cons (sG _) .nil);refine bg U0 a7 (.tup (.cons (sG _) (.cons (.s _) .nil))) ?_;rw[agt];refine ws ?_;refine iB (uW (cs:=fJ _) rfl) ak (by first|rfl|exact wq fP gO|exact me _|exact wO dP) ?_;refine aq ?_;refine af (az ?_);refine SS ?_;refine af (aW (aQ (l:=[(2,.rp 0 0),(3,.rp 1 0),(4,.rp 2 0),(6,B true)]) (ml:=[(0,.cells (fJ b) 72),(1,.cells (w.map c6) 231),(2,.cells (replicate 20 (c6 0)) 231)]) eH eH) (aB (az ?_)));refine aP ?_
 refine af (bR (fun s=>∃ n',3<=n'/\Ghost prog s ⟨aD [(2,.rp 0 0),(3,.rp 1 0),(4,.rp 2 0),(6,B (lF b.ins w).2)],bf [(0,.cells (fJ b) 72),(1,.cells ((lF b.ins w).1.map c6) 231),(2,.cells (replicate 20 (c6 0)) 231)],n'⟩) (dV (α:=Nat×Nat)
  (fun k=>⟨aD [(2,.rp 0 0),(3,.rp 1 0),(4,.rp 2 0),(6,B (lF (b.ins.take k.1) w).2),(14,iH b.ins),(15,I b.ins.length),(16,I k.1)],bf [(0,.cells (fJ b) 72),(1,.cells ((lF (b.ins.take k.1) w).1.map c6) 231),(2,.cells (replicate 20 (c6 0)) 231)],k.2⟩)
  (fun k=>k.1<=b.ins.length/\3<=k.2) (fun k=>b.ins.length - k.1) (0,3) (aQ eH eH) ⟨oS,oS⟩ ?_) ?_)
 .rintro⟨k,N⟩ ⟨hk,hN⟩;dsimp only at hk hN ⊢;refine SS ?_;refine af ⟨_,rfl,fun h=>?_,fun h=>?_⟩
  .have ao:k<b.ins.length:=by simpa using h
   have hx:b.ins[k]? =some b.ins[k]:=by simp[ao]
   have jq:b.ins[k]∈b.ins:=cy ao;generalize b.ins[k]=x at hx jq;obtain⟨ird,Yg,iwr,iar⟩:=hi x jq;have C:lF (b.ins.take (k+1)) w=l6 (lF (b.ins.take k) w) x:=oF hx;have hlen:(lF (b.ins.take k) w).1.length=20:=by rw[Kp,hw]
   generalize lF (b.ins.take k) w=u at C hlen;obtain⟨v,ok⟩:=u;dsimp only at hlen ⊢;refine ws ?_;refine aP ?_;refine af (aB (az ?_));have CD:=CD (x:=x) iar;refine SS ?_;refine cl CD ?_;refine ag ?_;have aoz:=kZ x jq
   refine af (bR (fun s=>Ghost prog s ⟨aD [(2,.rp 0 0),(3,.rp 1 0),(4,.rp 2 0),(6,B (iW v ok (cP x))),(8,.rp N 0),(14,iH b.ins),(15,I b.ins.length),(16,I k)],up (bf [(0,.cells (fJ b) 72),(1,.cells (v.map c6) 231),(2,.cells (replicate 20 (c6 0)) 231)]) N (some (.cells (bu x) 66)),N+1⟩) (dV (α:=Nat)
    (fun j=>⟨aD [(2,.rp 0 0),(3,.rp 1 0),(4,.rp 2 0),(6,B (iW v ok ((cP x).take j))),(8,.rp N 0),(14,iH b.ins),(15,I b.ins.length),(16,I k),(21,au (cP x)),(22,I (cP x).length),(23,I j)],up (bf [(0,.cells (fJ b) 72),(1,.cells (v.map c6) 231),(2,.cells (replicate 20 (c6 0)) 231)]) N (some (.cells (bu x) 66)),N+1⟩)
    (fun j=>j<=(cP x).length) (fun j=>(cP x).length - j) 0 (nC eH (p9 _ _ _ _)) oG ?_) ?_)
   .intro j hj;refine SS ?_;refine af ⟨_,rfl,fun h=>?_,fun h=>?_⟩
    .have J:j<(cP x).length:=by simpa using h
     have hr:(cP x)[j]? =some (cP x)[j]:=by simp[J]
     have X:(cP x)[j]∈cP x:=cy J;generalize (cP x)[j]=r at hr X;have CW:=ird r X;obtain⟨M,rfl⟩:=cU CW.1;have mf:=mf (w:=v) (m:=M) hlen oG;refine ws ?_;refine aq ?_;refine af (fh ?_);refine aP ?_;refine gc mf ?_;refine ag ?_;refine af ?_;refine ag ?_;refine af (aK (j+1) (ap ⟨rfl,rfl,rfl,?_,rfl,rfl,rfl,rfl,rfl,rfl,rfl,trivial⟩) oG oG)
     have e:iW v ok ((cP x).take (j+1))=(iW v ok ((cP x).take j)&&kT v M):=by
      unfold iW;rw[oF hr,bN]
     rw[e];generalize iW v ok ((cP x).take j)=g;cases g<;>rfl
    .have a9:¬ j<(cP x).length:=by simpa using h
     refine ap ⟨rfl,rfl,rfl,?_,rfl,rfl,rfl,rfl,trivial⟩;show B _=B _;rw[df oG]
   .intro s hg;have C:lF (b.ins.take (k+1)) w=(yP v x,iW v ok (cP x)&&(x.op !=17||kT v (ld x.n).toNat)):=C;generalize iW v ok (cP x)=Om at hg C;have E4:=E4 (w:=v) (x:=x) hlen (fun h=>Yg (.inr h)) (fun _=>by omega);have fin:∀ (d:Bool) env,d=(Om&&(x.op !=17||kT v (ld x.n).toNat))->jN [(2,.rp 0 0),(3,.rp 1 0),(4,.rp 2 0),(6,B d),(8,.rp N 0),(14,iH b.ins),(15,I b.ins.length),(16,I k)] env->True:=fun _ _ _ _=>trivial;refine⟨_,hg,?_⟩;cases Om with
    |false=>
     have xh:false=true->PCall prog 244 [I x.n] (I (ld x.n)):=fun h=>by cases h
     have mf:false=true->PCall prog 200 [iC v,I (ld x.n)] (B true):=fun h=>by cases h
     refine dF JM ?_;refine aJ ?_;refine B2 rfl rfl rfl (fun hc=>⟨ak,xh hc⟩) ?_;refine B2 rfl rfl rfl (fun hc=>⟨ak,mf hc⟩) ?_;refine aq ?_;refine a8 bc (fh ?_);refine ag ?_;refine cl E4 ?_;refine SS ?_;refine af ?_;refine ag ?_;refine af (aK (k+1,N+1) (aQ ⟨rfl,rfl,rfl,?_,rfl,rfl,rfl,trivial⟩ ⟨aC oG (aC oG rfl),?_,aC oG (aC oG rfl),trivial⟩) ⟨oM,oM⟩ oM)
     .dsimp only;rw[C];rfl
     .dsimp only;rw[C];exact up_same _ _ _
    |true=>
     by_cases iS:x.op=17
     .have dv:(x.op !=17)=false:=by simp[iS]
      have aoM:=Yg (.inl iS);have xh:=xh (n:=x.n) oG;obtain⟨sn,pf⟩:=cU (show 0<=ld x.n by unfold ld;omega);have mf:=mf (w:=v) (m:=sn) hlen (by unfold ld at pf;omega);rw[<- pf] at mf;refine dF JM ?_;refine aJ ?_;refine gc xh ?_;refine gc mf ?_;refine aq ?_;refine a8 bc (fh ?_);refine ag ?_;refine cl E4 ?_;refine SS ?_;refine af ?_;refine ag ?_;refine af (aK (k+1,N+1) (aQ ⟨rfl,rfl,rfl,?_,rfl,rfl,rfl,trivial⟩ ⟨aC oG (aC oG rfl),?_,aC oG (aC oG rfl),trivial⟩) ⟨oM,oM⟩ oM)
      .dsimp only;rw[C,dv,pf];rfl
      .dsimp only;rw[C];exact up_same _ _ _
     .have dv:(x.op !=17)=true:=by simp[iS]
      have xh:false=true->PCall prog 244 [I x.n] (I (ld x.n)):=fun h=>by cases h
      have mf:false=true->PCall prog 200 [iC v,I (ld x.n)] (B true):=fun h=>by cases h
      refine dF JM ?_;refine bB ?_;(iterate 5 refine z fun _ _=>?_);refine aq ?_;refine a8 bc (fh ?_);refine ag ?_;refine cl E4 ?_;refine SS ?_;refine af ?_;refine ag ?_;refine af (aK (k+1,N+1) (aQ ⟨rfl,rfl,rfl,?_,rfl,rfl,rfl,trivial⟩ ⟨aC oG (aC oG rfl),?_,aC oG (aC oG rfl),trivial⟩) ⟨oM,oM⟩ oM)
      .dsimp only;rw[C,dv];rfl
      .dsimp only;rw[C];exact up_same _ _ _
  .have a9:¬ k<b.ins.length:=by simpa using h
   have xF:b.ins.take k=b.ins:=df oG;refine⟨N,hN,?_⟩;rw[xF];exact ap eH
 .rintro s ⟨n',dn,hg⟩;have hlen:(lF b.ins w).1.length=20:=by rw[Kp,hw]
  have vZ:jL b w=((lF b.ins w).1,iW (lF b.ins w).1 (lF b.ins w).2 (cK b.fin)):=rfl;rw[vZ];generalize lF b.ins w=u at hg hlen ⊢;obtain⟨v,ok⟩:=u;dsimp only at hlen hg ⊢;have MW:=MW (x:=b.fin) hf.a1 hf.a2;refine⟨_,hg,aB (az ?_)⟩;refine ag ?_;refine cl MW ?_;refine ag ?_
  refine af (bR (fun s=>Ghost prog s ⟨aD [(3,.rp 1 0),(4,.rp 2 0),(6,B (iW v ok (cK b.fin)))],bf [(1,.cells (v.map c6) 231),(2,.cells (replicate 20 (c6 0)) 231)],n'⟩) (dV (α:=Nat)
   (fun j=>⟨aD [(3,.rp 1 0),(4,.rp 2 0),(6,B (iW v ok ((cK b.fin).take j))),(53,au (cK b.fin)),(54,I (cK b.fin).length),(55,I j)],bf [(1,.cells (v.map c6) 231),(2,.cells (replicate 20 (c6 0)) 231)],n'⟩)
   (fun j=>j<=(cK b.fin).length) (fun j=>(cK b.fin).length - j) 0 (aQ eH eH) oG ?_) ?_)
  .intro j hj;refine SS ?_;refine af ⟨_,rfl,fun h=>?_,fun h=>?_⟩
   .have J:j<(cK b.fin).length:=by simpa using h
    have hr:(cK b.fin)[j]? =some (cK b.fin)[j]:=by simp[J]
    have X:(cK b.fin)[j]∈cK b.fin:=cy J;generalize (cK b.fin)[j]=r at hr X;have CW:=hf.rd r X;obtain⟨M,rfl⟩:=cU CW.1;have mf:=mf (w:=v) (m:=M) hlen oG;refine ws ?_;refine aq ?_;refine af (fh ?_);refine ag ?_;refine bt rfl rfl (ep rfl rfl V.h V.h (nV (by first|rfl|exact bE rfl|(simp;done)|(simp;omega)|omega))) (fun hc=>⟨ak,(ez V.h V.h (by first|rfl|exact bE rfl|(simp;done)|(simp;omega)|omega))⟩) ?_;refine SS ?_;refine gc mf ?_;refine ag ?_;refine af ?_;refine ag ?_;refine af (aK (j+1) (ap ⟨rfl,rfl,?_,rfl,rfl,rfl,trivial⟩) oG oG)
    have e:iW v ok ((cK b.fin).take (j+1))=(iW v ok ((cK b.fin).take j)&&kT v M):=by
     unfold iW;rw[oF hr,bN]
    rw[e];generalize iW v ok ((cK b.fin).take j)=g;cases g<;>rfl
   .have a9:¬ j<(cK b.fin).length:=by simpa using h
    refine ap ⟨rfl,rfl,?_,trivial⟩;show B _=B _;rw[df oG]
  .intro s hg;refine⟨_,hg,aj ?_⟩;refine aP ?_;exact af (JJ (mI rfl rfl xg tY (nV oP) t231 oP) rfl rfl)
end Go.Proofs.Tryz.K
end
namespace Go.Argus
open Go.Abs
theorem aaq{l:List Int}{j:Nat}(hj:j+1<l.length){x:Int}:x∈swapAt l j↔x∈l:=by
 have ha:l.getD j 0=l[j]:=by simp[bl,aN (show j<l.length by omega)]
 have hb:l.getD (j+1) 0=l[j+1]:=by simp[bl,aN hj]
 unfold swapAt;rw[ha,hb];exact(List.set_set_perm (show j+1<l.length from hj) (show j<l.length by omega)).mem_iff
theorem Rn{x:Int}:∀ (j:Nat) {l:List Int},j<l.length->(x∈qj l j↔x∈l)
 |0,l,_=>Iff.rfl
 |j+1,l,hj=>by
  simp only[qj];split
  .exact(Rn j oP).trans (aaq hj)
  .exact Iff.rfl
theorem QA{l:List Int}{x:Int}:∀ k,k<l.length->(x∈nW l k↔x∈l)
 |0,_=>Iff.rfl
 |k+1,h=>by
  simp only[nW];exact(Rn (k+1) (by simpa using h)).trans (QA k oG)
theorem abE{l:List Int}{x:Int}:x∈gD l↔x∈l:=by
 unfold gD;cases l with
 |nil=>simp[nW]
 |cons a l=>exact QA _ oS
theorem Gu{l:List Int}{x:Int}:x∈BP l↔x∈l:=by
 unfold BP lj;rw[RY (bF _),List.take_length];exact abE
theorem wrap_u64{n:Nat}(h:n<2 ^ 64):IntKind.u64.wrap (n:Int)=n:=by
 unfold IntKind.wrap;simp[IntKind.signed,IntKind.bits];omega
theorem adX{a b:Int}(ha:0<=a/\a<18446744073709551616):0<=rk a b/\rk a b<=a:=by
 unfold rk intBitsV;simp only;rw[wrap_u64 (n:=(BitVec.ofInt IntKind.u64.bits a&&& BitVec.ofInt IntKind.u64.bits b).toNat) (BitVec.isLt (w:=64) _)];obtain⟨n,rfl⟩:=cU ha.1
 have h1:(BitVec.ofInt IntKind.u64.bits (n:Int)).toNat=n:=by
  rw[BitVec.toNat_ofInt];show((n:Int) % ((2 ^ 64:Nat):Int)).toNat=n;omega
 have h2:(BitVec.ofInt IntKind.u64.bits (n:Int)&&& BitVec.ofInt IntKind.u64.bits b).toNat<=n:=by
  rw[BitVec.toNat_and,h1];exact Nat.and_le_left
 omega
end Go.Argus
section
open Go Go.Abs Go.Proofs Go.Argus
namespace Go.Abs
section
variable{P:Program}{env:Env}{m:Mem}{nx:Nat}{x y:Operand}{t p:TypeId}{k:IntKind}{n n':Int}
theorem DV{j i l sz:Nat}{e:TypeId}{r:Row}(hx:(opd env x).core=.rs j 0 l)(hy:(opd env y).core=.s (.int k (i:Int)))(hm:m j=some r)(he:elemP P t=e)(hs:P.cellsOf e=sz):
 Ef P (.indexAddr t x y) env m nx ⟨slT P t=true/\i<l,.rp j (i*sz),[],[j],0⟩:=by
 have h:=HB (P:=P) (env:=env) (m:=m) (nx:=nx) (t:=t) hx hy hm he hs;have h1:0+((i:Int)).toNat*sz=i*sz:=by simp
 have h2:(slT P t=true/\(0:Int)<=(i:Int)/\(i:Int)<l)=(slT P t=true/\i<l):=by
  apply propext;constructor
  .rintro⟨a,_,b⟩;exact⟨a,oG⟩
  .rintro⟨a,b⟩;exact⟨a,oG,oG⟩
 rw[h1,h2] at h;exact h
theorem acv{ps:Array (Nat×Operand)}{e:TypeId}{l:Nat}{z:List D}(C:P.underlying t=some (.array l e))(hp:ps.toList=[])(J:zeroP P t=z):Ef P (.build t ps) env m nx ⟨tyOk P t=true/\tyOk P e=true,.agg z,[],[],0⟩:=by
 refine⟨?_,rfl,rfl⟩;simp only[aop,C,hp,J,List.map_nil,fillD,Option.map_some]
theorem UP{xs ys:List D}{us vs:List Value}{C:List Nat}(hx:(opd env x).core=.agg xs)(hy:(opd env y).core=.agg ys)(hf:flatT P t=some C)(J:zipV xs ys=some (us,vs)){c:Bool}(hc:(!veqs us vs)=c):
 Ef P (.binOp .neq t x y p) env m nx ⟨us.map kindV=C/\P.eqGuardType P.depth t=false,.s (.bool c),[],[],0⟩:=by
 refine⟨?_,rfl,rfl⟩
 have hn:nilD P m .neq t (.agg xs) y=none:=by
  unfold nilD;split<;>first|rfl|(rename_i h;cases h)
 simp only[aop,rho,hx,hy,hn,binD,aggEqD,hf,J,hc,Option.map_some]
end
def zg(cs:List D):Prop:=∀ d∈cs,∃ v,d=.s v
theorem zg.map{α:Type}{f:α->Value}{l:List α}:zg (l.map fun x=>.s (f x)):=fun d hd=>by
 obtain⟨x,_,rfl⟩:=List.mem_map.1 hd;exact⟨_,rfl⟩
theorem agu{i sz:Nat}{C cs:List D}(h:zg cs):cs.map (sub (fz0 i C sz))=cs:=by
 induction cs with
 |nil=>rfl
 |cons d cs ih=>
  obtain⟨v,rfl⟩:=h d oS;rw[List.map_cons,ih fun d hd=>h d (by simp[hd])];rfl
theorem KZ{m:Mem}{i j sz:Nat}{J cs:List D}{e:TypeId}(C:j≠i)(hm:m j=some (.cells cs e))(h:zg cs):(if j=i then none else(m j).map (Row.sub (fz0 i J sz)))=some (.cells cs e):=by
 rw[if_neg C,hm];show some (Row.cells (cs.map _) e)=_;rw[agu h]
theorem ae2{i sz n:Nat}{C es:List D}:sub (fz0 i C sz) (.sl es n)=.sl es n:=rfl
theorem GL{i j sz off n:Nat}{C:List D}(h:j≠i):sub (fz0 i C sz) (.rs j off n)=.rs j off n:=by
 show(if j=i then _ else D.rs j off n)=_;rw[if_neg h]
theorem nB{i sz n:Nat}{C:List D}(h:C.length=n*sz):sub (fz0 i C sz) (.rs i 0 n)=.sl C n:=by
 show(if i=i then D.sl ((C.drop 0).take (n*sz)) n else _)=_;rw[if_pos rfl,List.drop_zero,df oG]
end Go.Abs
namespace Go.Proofs.Tryz.K
theorem agv:flatT prog 231=some (replicate 20 0):=kr
theorem agw:prog.eqGuardType prog.depth 231=false:=kr
theorem agx:zeroP prog 231=(replicate 20 (0:Int)).map c6:=WR
theorem aky:prog.underlying 231=some (.array 20 98):=kr
section
variable{env:Env}{m:Mem}{nx:Nat}{x y:Operand}{p:TypeId}
theorem agy{w v:List Int}(hx:(opd env x).core=iC w)(hy:(opd env y).core=iC v)(h:w.length=v.length):Ef prog (.binOp .neq 231 x y p) env m nx ⟨(w.map (Value.int .u64)).map kindV=replicate 20 0/\prog.eqGuardType prog.depth 231=false,B (w !=v),[],[],0⟩:=
 UP hx hy agv (Q8 h) (by rw[Q9 h];rfl)
theorem agz{w:List Int}(h:w.length=20):(w.map (Value.int .u64)).map kindV=replicate 20 0/\prog.eqGuardType prog.depth 231=false:=⟨by rw[aa4,h],agw⟩
end
end Go.Proofs.Tryz.K
namespace Go.Argus
open Go.Proofs.Tryz.K (nextR)
structure CS where
 ws:List (List Int)
 re:List Bool
 ch:Bool
def cW(x:End)(w:List Int)(s:CS)(n:Int):CS:=
 if s.re.getD n.toNat false=false\/iJ (s.ws.getD n.toNat []) (ia x n w)≠s.ws.getD n.toNat [] then⟨s.ws.set n.toNat (iJ (s.ws.getD n.toNat []) (ia x n w)),s.re.set n.toNat true,true⟩ else s
def dX(bs:List b7)(s:CS)(k:Nat):CS:=match bs[k]? with
 |none=>s
 |some x=>if s.re.getD k false=true then(nextR x.fin).foldl (cW x.fin (jL x (s.ws.getD k [])).1) s else s
def kJ(bs:List b7)(s:CS):CS:=(range bs.length).foldl (dX bs) ⟨s.ws,s.re,false⟩
def nD(bs:List b7):Nat->CS->CS
 |0,s=>s
 |k+1,s=>if(kJ bs s).ch=true then nD bs k (kJ bs s) else kJ bs s
def lG:Int:=18446744073709551615
def jn:Nat->List Int
 |0=>replicate 20 0
 |k+1=>gC (jn k) k
@[simp] theorem Qg : ∀ k, (jn k).length = 20
 |0=>rfl
 |k+1=>by simp[jn,Qg k]
def kK(n args:Nat):CS:=⟨(replicate n (replicate 20 lG)).set 0 (jn args),(replicate n false).set 0 true,true⟩
def eN(u:Int):Prop:=0<=u/\u<18446744073709551616
structure gE(n:Nat)(s:CS):Prop where
 lw:s.ws.length=n
 lr:s.re.length=n
 kG:∀ w∈s.ws,w.length=20
 rg:∀ w∈s.ws,∀ u∈w,eN u
def oe(w:List Int):Nat:=(w.map Int.toNat).sum
def rR(s:CS):Nat:=(s.ws.map oe).sum+s.re.count false
def pG(s:CS):Nat:=rR s+if s.ch=true then 1 else 0
theorem R0{l:List Nat}{k x y:Nat}(h:l[k]? =some x):(l.set k y).sum+x=l.sum+y:=by
 induction l generalizing k with
 |nil=>simp at h
 |cons a l ih=>cases k with
  |zero=>simp at h;subst h;simp;omega
  |succ k=>have:=ih (k:=k) (by simpa using h);simp;omega
theorem acw{l:List Int}{k:Nat}{x y:Int}(h:l[k]? =some x):oe (l.set k y)+x.toNat=oe l+y.toNat:=by
 unfold oe;rw[List.map_set];exact R0 (by simp[h])
theorem Qh{a b:Int}(h:eN a):eN (rk a b)/\rk a b<=a:=by
 have:=adX (b:=b) h;exact⟨⟨this.1,by unfold eN at h;omega⟩,this.2⟩
theorem acx{α:Type}{l:List α}{k:Nat}{x:α}(h:l[k]? =some x):l.set k x=l:=by
 apply List.ext_getElem?;intro i;rw[List.getElem?_set];split
 .rename_i e;subst e;rw[if_pos (bw.1 h).1,h]
 .rfl
theorem Rc{w v:List Int}(M:∀ u∈w,eN u):∀ k,k<=w.length->(∀ u∈fM w v k,eN u)/\oe (fM w v k)<=oe w/\(fM w v k≠w->oe (fM w v k)<oe w)
 |0,_=>⟨M,bF _,fun h=>absurd rfl h⟩
 |k+1,hk=>by
  obtain⟨h1,h2,h3⟩:=Rc (v:=v) M k oG;have hl:k<(fM w v k).length:=by simp;omega
  have hx:(fM w v k)[k]? =some (fM w v k)[k]:=aN hl;have hg:(fM w v k).getD k 0=(fM w v k)[k]:=by simp[bl,hx]
  have hm:=h1 _ (cy hl);simp only[fM,hg];generalize (fM w v k)[k]=a at hx hm;obtain⟨C,r2⟩:=Qh (b:=v.getD k 0) hm;generalize rk a (v.getD k 0)=y at C r2;have hs:=acw (y:=y) hx;unfold eN at C hm;refine⟨fun u X=>?_,oG,fun J=>?_⟩
  .rcases List.mem_or_eq_of_mem_set X with h|h
   .exact h1 u h
   .subst h;exact C
  .by_cases e:y=a
   .subst e;have:(fM w v k).set k y=fM w v k:=acx hx;rw[this] at J ⊢;exact h3 J
   .omega
theorem acy{l:List (List Int)}{k:Nat}{w v:List Int}(h:l[k]? =some w):((l.set k v).map oe).sum+oe w=(l.map oe).sum+oe v:=by
 rw[List.map_set];exact R0 (by simp[h])
theorem count_set{l:List Bool}{k:Nat}{b:Bool}(h:l[k]? =some b):(l.set k true).count false+(if b=true then 0 else 1)=l.count false:=by
 induction l generalizing k with
 |nil=>simp at h
 |cons a l ih=>cases k with
  |zero=>simp at h;subst h;cases a<;>simp
  |succ k=>have:=ih (k:=k) (by simpa using h);simp only[List.set_cons_succ,List.count_cons];omega
theorem Gw{x:End}{w:List Int}{s:CS}{n:Nat}{t:Int}(hs:gE n s)(ht:0<=t/\t<n):gE n (cW x w s t)/\pG (cW x w s t)<=pG s:=by
 obtain⟨lw,lr,kG,rg⟩:=hs;obtain⟨k,rfl⟩:=cU ht.1;have hk:k<n:=by omega
 have hx:s.ws[k]? =some s.ws[k]:=aN oG;have hb:s.re[k]? =some s.re[k]:=aN oG;have M:s.ws.getD k []=s.ws[k]:=by simp[bl,hx]
 have J:s.re.getD k false=s.re[k]:=by simp[bl,hb]
 have hm:s.ws[k]∈s.ws:=cy _;unfold cW;simp only[bN,M,J];generalize s.ws[k]=v at hx hm;generalize s.re[k]=b at hb;have X:=kG v hm;obtain⟨m1,C,m3⟩:=Rc (v:=ia x k w) (rg v hm) 20 oG;have hl:=Qi v (ia x k w)
 change (∀ u∈iJ v (ia x k w),eN u) at m1
 change oe (iJ v (ia x k w))<=oe v at C
 change iJ v (ia x k w)≠v->oe (iJ v (ia x k w))<oe v at m3
 generalize iJ v (ia x k w)=u at m1 C m3 hl;split
 .rename_i hc;refine⟨⟨by simp[lw],by simp[lr],KY kG oG,fun y hy=>?_⟩,?_⟩
  .rcases List.mem_or_eq_of_mem_set hy with h|h
   .exact rg y h
   .subst h;exact m1
  .have h1:=acy (v:=u) hx;have h2:=count_set hb;unfold pG rR;simp only[if_true];rcases hc with hc|hc
   .subst hc;simp only[Bool.false_eq_true,if_false] at h2;omega
   .have:=m3 hc;omega
 .exact⟨⟨lw,lr,kG,rg⟩,bF _⟩
theorem GM{α β:Type}{f:β->α->β}{J:β->Prop}{φ:β->Nat}{l:List α}(h:∀ x∈l,∀ s,J s->J (f s x)/\φ (f s x)<=φ s){s:β}(hs:J s):J (l.foldl f s)/\φ (l.foldl f s)<=φ s:=by
 induction l generalizing s with
 |nil=>exact⟨hs,bF _⟩
 |cons x l ih=>
  obtain⟨h1,h2⟩:=h x oS s hs;obtain⟨h3,h4⟩:=ih (fun y hy=>h y (by simp[hy])) h1;exact⟨h3,Nat.le_trans h4 h2⟩
theorem z7(x:End):(nextR x).length<=x.aL.length+3:=by
 have h1:=KW (d:=gD (dp x)) (gD (dp x)).length;have h2:=KS x;rw[JX] at h1;exact Nat.le_trans (by simpa[nextR,BP,lj] using h1) h2
structure tR(n:Nat)(b:b7):Prop where
 len:b.ins.length<=100000
 ins:∀ x∈b.ins,qV x
 fin:Cm b.fin
 rl:∀ x∈b.ins,(cP x).length<=100000
 rf:(cK b.fin).length<=100000
 to:∀ t∈nextR b.fin,0<=t/\t<n
theorem Kq{bs:List b7}{s:CS}{n k:Nat}(hb:∀ b∈bs,tR n b)(hs:gE n s):gE n (dX bs s k)/\pG (dX bs s k)<=pG s:=by
 unfold dX;split
 .exact⟨hs,bF _⟩
 .rename_i x hx;split
  .exact GM (J:=gE n) (φ:=pG) (fun t ht s hs=>Gw hs ((hb x (bU hx)).to t ht)) hs
  .exact⟨hs,bF _⟩
theorem Dz{bs:List b7}{s:CS}{n:Nat}(hb:∀ b∈bs,tR n b)(hs:gE n s):gE n (kJ bs s)/\pG (kJ bs s)<=rR s:=by
 have:=GM (J:=gE n) (φ:=pG) (f:=dX bs) (l:=range bs.length) (fun k _ s hs=>Kq hb hs) (s:=⟨s.ws,s.re,false⟩) ⟨hs.lw,hs.lr,hs.kG,hs.rg⟩;exact this
def iY(bs:List b7)(args:Nat):CS:=nD bs (rR (kK bs.length args)+1) (kK bs.length args)
theorem getD_some{α:Type}{l:List α}{k:Nat}{x d:α}(h:l[k]? =some x):l.getD k d=x:=by simp[bl,h]
theorem Ho{α:Type}{n k:Nat}{x y:α}(hk:k<n):(replicate k x++replicate (n - k) y).set k x=replicate (k+1) x++replicate (n - (k+1)) y:=by
 rw[show n - k=n - (k+1)+1 by omega,List.replicate_succ,List.replicate_succ',List.append_assoc,List.singleton_append];rw[List.set_append];simp
theorem acz{α:Type}{a b:Nat}{x y z:α}(h:z∈replicate a x++replicate b y):z=x\/z=y:=by
 rcases List.mem_append.1 h with h|h
 .exact .inl (List.eq_of_mem_replicate h)
 .exact .inr (List.eq_of_mem_replicate h)
theorem ZA{x:End}{w v:List Int}{s:CS}{k:Nat}{b:Bool}(hx:s.ws[k]? =some v)(hb:s.re[k]? =some b)(h:b=false\/iJ v (ia x k w)≠v):cW x w s k=⟨s.ws.set k (iJ v (ia x k w)),s.re.set k true,true⟩:=by
 unfold cW;rw[bN,getD_some hx,getD_some hb,if_pos h]
theorem ZX{x:End}{w v:List Int}{s:CS}{k:Nat}{b:Bool}(hx:s.ws[k]? =some v)(hb:s.re[k]? =some b)(h:¬ (b=false\/iJ v (ia x k w)≠v)):cW x w s k=s:=by
 unfold cW;rw[bN,getD_some hx,getD_some hb,if_neg h]
theorem JB{n args:Nat}(ha:∀ u∈jn args,eN u):gE n (kK n args):=by
 refine⟨by simp[kK],by simp[kK],KY (fun w J=>by rw[List.eq_of_mem_replicate J];simp) oS,fun w J u C=>?_⟩;rcases List.mem_or_eq_of_mem_set J with h|h
 .rw[List.eq_of_mem_replicate h] at C;rw[List.eq_of_mem_replicate C];simp[eN,lG]
 .rw[h] at C;exact ha u C
end Go.Argus
namespace Go.Proofs.Tryz.K
theorem CE{p q:D}{f:aG}{n args:Nat}(hp:Tr p)(hq:Tr q)(fP:p.one=true)(gO:q.one=true)(hn:f.ab.length=n)(jZ:0<n)(jf:n<=100000)(ha:f.args=args)(uk:args<=1000)(zT:∀ u∈jn args,eN u)(hb:∀ b∈f.ab,tR n b):
 PCall prog 197 [.agg (bq p q f)] (.tup [.sl (cY (iY f.ab args).ws) n,.sl ((iY f.ab args).re.map B) n]):=by
 have a7:∀ a∈[D.agg (bq p q f)],Tr a:=.cons (nJ hp hq f) .nil;refine bg U1 a7 (.tup (.cons (.sl (ae1 _)) (.cons (.sl (.map fun _=>.s _)) .nil))) ?_;rw[agA];refine az (aq ?_);refine af (aW (bG [(0,bq p q f,133)] eH (l:=[(1,.pt (bq p q f))]) eH) (pK aa5 (aP ?_)));refine iB (BD rfl rfl V.h V.h) ak ⟨oG,rfl,oG,by rw[WS];omega,V.h⟩ (dA ?_);have dn:((f.ab.length:Nat):Int).toNat=n:=hn;refine a8 bc (aW (aQ (l:=[(1,.pt (bq p q f)),(4,.rs 1 0 n),(5,.rs 2 0 n)]) (ml:=[(1,.cells (cY (replicate n (replicate 20 0))) 231),(2,.cells ((replicate n false).map B) 4)]) ⟨rfl,?_,?_,trivial⟩ ⟨?_,?_,trivial⟩) (aB (az ?_)))
 .exact congrArg (fun k=>D.rs 1 0 k) dn
 .exact congrArg (fun k=>D.rs 2 0 k) dn
 .exact congrArg (fun c=>some (Row.cells c 231)) ((congrArg (fun k=>replD k ((replicate 20 (0:Int)).map c6)) dn).trans (acu n (replicate 20 0)))
 .exact congrArg (fun c=>some (Row.cells c 4)) ((congrArg (fun k=>replD k [B false]) dn).trans (wA n false))
 refine aq ?_
 refine af (bR (fun s=>Ghost prog s ⟨aD [(1,.pt (bq p q f)),(4,.rs 1 0 n),(5,.rs 2 0 n)],bf [(1,.cells (cY (replicate n (replicate 20 lG))) 231),(2,.cells ((replicate n false).map B) 4)],3⟩) (dV (α:=Nat)
  (fun k=>⟨aD [(1,.pt (bq p q f)),(4,.rs 1 0 n),(5,.rs 2 0 n),(27,I n),(28,I k)],bf [(1,.cells (cY (replicate k (replicate 20 lG)++replicate (n - k) (replicate 20 0))) 231),(2,.cells ((replicate n false).map B) 4)],3⟩)
  (fun k=>k<=n) (fun k=>n - k) 0 (aQ eH eH) oG ?_) ?_)
 .intro k hk;refine SS ?_;refine af ⟨_,rfl,fun h=>?_,fun h=>?_⟩
  .have ao:k<n:=by simpa using h
   have sL:=Ho (x:=replicate 20 lG) (y:=replicate 20 (0:Int)) ao
   have hi:(replicate k (replicate 20 lG)++replicate (n - k) (replicate 20 (0:Int)))[k]? =some (replicate 20 0):=by
    rw[List.getElem?_append_right oS,List.length_replicate,Nat.sub_self,show n - k=n - (k+1)+1 by omega,List.replicate_succ];rfl
   have ou:∀ w∈replicate k (replicate 20 lG)++replicate (n - k) (replicate 20 (0:Int)),w.length=20:=fun w hw=>by
    rcases acz hw with h|h<;>(rw[h];simp)
   have MJ:PCall prog 241 [] (iC (replicate 20 lG)):=MJ;refine ws (ag ?_);refine af (fh (ag ?_));refine cl MJ (ag ?_);refine af (ag ?_);refine af (aK (k+1) (aQ eH ⟨?_,rfl,trivial⟩) oG oG);rw[<- sL];rfl
  .have a9:¬ k<n:=by simpa using h
   have:k=n:=by omega
   subst this;refine aQ eH ⟨?_,rfl,trivial⟩;show some (Row.cells (cY (_++replicate (k - k) _)) _)=_;rw[Nat.sub_self,List.replicate_zero,List.append_nil]
 rintro s hg;refine⟨_,hg,az ?_⟩;have hi:(replicate n (replicate 20 lG))[0]? =some (replicate 20 lG):=by simp[jZ]
 have ou:∀ w∈replicate n (replicate 20 lG),w.length=20:=fun w hw=>by rw[List.eq_of_mem_replicate hw];simp
 refine ag ?_;refine aI (acv aky rfl agx) ak ⟨V.h,V.h⟩ (aP ?_);refine af (aW (aQ (l:=[(1,.pt (bq p q f)),(4,.rs 1 0 n),(5,.rs 2 0 n)]) (ml:=[(1,.cells (cY ((replicate n (replicate 20 lG)).set 0 (jn 0))) 231),(2,.cells (((replicate n false).set 0 true).map B) 4)]) eH ⟨rfl,?_,trivial⟩) (aB (az ?_)))
 .rw[List.map_set];rfl
 clear hi;refine aP ?_
 refine af (bR (fun s=>Ghost prog s ⟨aD [(1,.pt (bq p q f)),(4,.rs 1 0 n),(5,.rs 2 0 n)],bf [(1,.cells (cY ((replicate n (replicate 20 lG)).set 0 (jn args))) 231),(2,.cells (((replicate n false).set 0 true).map B) 4)],3⟩) (dV (α:=Nat)
  (fun k=>⟨aD [(1,.pt (bq p q f)),(4,.rs 1 0 n),(5,.rs 2 0 n),(43,I args),(44,I k)],bf [(1,.cells (cY ((replicate n (replicate 20 lG)).set 0 (jn k))) 231),(2,.cells (((replicate n false).set 0 true).map B) 4)],3⟩)
  (fun k=>k<=args) (fun k=>args - k) 0 (aQ ⟨rfl,rfl,rfl,congrArg I ha,rfl,trivial⟩ eH) oG ?_) ?_)
 .intro k hk;refine SS ?_;refine af ⟨_,rfl,fun h=>?_,fun h=>?_⟩
  .have ao:k<args:=by simpa using h
   have hi:((replicate n (replicate 20 lG)).set 0 (jn k))[0]? =some (jn k):=by simp[jZ]
   have ou:=KY (i:=0) ou (Qg k);have sH:=sH (w:=jn k) (n:=(k:Int)) oS oG;refine ws (ag ?_);refine af (fh (aq ?_));refine aI (ep rfl rfl V.h V.h (HY oN oN)) ak (ez V.h V.h (Aw oN oN)) (SS ?_);refine cl sH (ag ?_);refine af (ag ?_);refine af (aK (k+1) (aQ eH ⟨?_,rfl,trivial⟩) oG oG);show some (Row.cells (cY ((List.set _ 0 (jn k)).set 0 (jn (k+1)))) _)=_;rw[List.set_set]
  .have a9:¬ k<args:=by simpa using h
   have:k=args:=by omega
   subst this;exact ap eH
 clear ou;rintro s hg;refine⟨_,hg,aB (az ?_)⟩;refine SS ?_;have zH:=JB (n:=n) zT;have hR:iY f.ab args=nD f.ab (rR (kK n args)+1) (kK n args):=by rw[iY,hn]
 generalize iY f.ab args=R at hR ⊢
 refine af (bR (fun s=>∃ n',Ghost prog s ⟨aD [(4,.rs 1 0 n),(5,.rs 2 0 n)],bf [(1,.cells (cY R.ws) 231),(2,.cells (R.re.map B) 4)],n'⟩/\gE n R) (yC (α:=CS×Nat)
  (fun s=>⟨aD [(1,.pt (bq p q f)),(4,.rs 1 0 n),(5,.rs 2 0 n),(8,B s.1.ch)],bf [(1,.cells (cY s.1.ws) 231),(2,.cells (s.1.re.map B) 4)],s.2⟩)
  (fun s=>gE n s.1/\3<=s.2/\(s.1.ch=true->∃ k,rR s.1<k/\nD f.ab k s.1=R)/\(s.1.ch=false->s.1=R)) (fun s=>2*rR s.1+if s.1.ch=true then 1 else 0) (kK n args,3)
  (aQ eH eH) ⟨zH,bF _,fun _=>⟨_,Nat.lt_succ_self _,hR.symm⟩,fun h=>by cases h⟩ ?_) ?_)
 .rintro⟨C,N0⟩ ⟨AM,ow,qz,zh⟩;dsimp only at AM ow qz zh ⊢;refine SS ?_;refine af ⟨_,rfl,fun h0=>?_,fun h=>?_⟩
  .obtain⟨jE,agB,EQ⟩:=qz h0;obtain⟨jE,rfl⟩:∃ j,jE=j+1:=⟨jE - 1,oG⟩
   have ER:=Dz hb AM;refine ws (SS ?_);refine af (az (aO ?_))
   refine af (dV (α:=Nat×Nat)
    (fun k=>⟨aD [(1,.pt (bq p q f)),(4,.rs 1 0 n),(5,.rs 2 0 n),(8,B ((range k.1).foldl (dX f.ab) ⟨C.ws,C.re,false⟩).ch),(58,gz f.ab),(59,I n),(60,I k.1)],bf [(1,.cells (cY ((range k.1).foldl (dX f.ab) ⟨C.ws,C.re,false⟩).ws) 231),(2,.cells (((range k.1).foldl (dX f.ab) ⟨C.ws,C.re,false⟩).re.map B) 4)],k.2⟩)
    (fun k=>k.1<=n/\3<=k.2) (fun k=>n - k.1) (0,N0) (aQ ⟨rfl,rfl,rfl,rfl,rfl,congrArg (fun k:Nat=>I k) hn,rfl,trivial⟩ eH) ⟨Nat.zero_le _,ow⟩ ?_)
   rintro⟨k,N⟩ ⟨hk,hN⟩;dsimp only at hk hN ⊢;have bZ:=(GM (J:=gE n) (φ:=pG) (f:=dX f.ab) (l:=range k) (fun k _ s hs=>Kq hb hs) (s:=⟨C.ws,C.re,false⟩) ⟨AM.lw,AM.lr,AM.kG,AM.rg⟩).1;have cg:(range (k+1)).foldl (dX f.ab) ⟨C.ws,C.re,false⟩=dX f.ab ((range k).foldl (dX f.ab) ⟨C.ws,C.re,false⟩) k:=by rw[List.range_succ,List.foldl_append];rfl
   have fU:k=n->(range k).foldl (dX f.ab) ⟨C.ws,C.re,false⟩=kJ f.ab C:=fun e=>by rw[e,kJ,hn]
   generalize (range k).foldl (dX f.ab) ⟨C.ws,C.re,false⟩=u at bZ cg fU;refine SS ?_;refine af ⟨_,rfl,fun h=>?_,fun h=>?_⟩
   .have ao:k<n:=by simpa using h
    have hx:f.ab[k]? =some f.ab[k]:=aN oG;have cz:f.ab[k]∈f.ab:=cy _;generalize f.ab[k]=x at hx cz;have ir:=hb x cz;have M:dX f.ab u k=if u.re.getD k false=true then(nextR x.fin).foldl (cW x.fin (jL x (u.ws.getD k [])).1) u else u:=by rw[dX,hx]
    have lw:=bZ.lw;have lr:=bZ.lr;have kG:=bZ.kG;have hw:u.ws[k]? =some u.ws[k]:=aN oG;have iQ:u.re[k]? =some u.re[k]:=aN oG;rw[getD_some hw,getD_some iQ] at M;have nw:=kG _ (cy (h:=by omega):u.ws[k]∈u.ws);generalize u.ws[k]=w at hw M nw;generalize u.re[k]=b at iQ M;have kd:=iG (f:=B) iQ;refine ws (bB ?_);refine af (aB (aj (ag ?_)));refine aI (mN rfl rfl (aC oG (aC oG rfl)) V.h V.h) ak ⟨V.h,oG⟩ (aI (gQ rfl (aC oG (aC oG rfl)) kd V.h) ak (gR V.h V.h kd) (SS ?_));refine af (cx rfl (fun h=>jy (mR ?_)) fun h=>bP (pK ZY ?_))
    .have uC:b=false:=by simpa using h
     subst uC;have M:dX f.ab u k=u:=M;refine ag ?_;refine af (aK (k+1,N+1) (aQ ⟨rfl,rfl,rfl,?_,rfl,rfl,rfl,trivial⟩ ⟨?_,?_,trivial⟩) ⟨oM,oM⟩ oM)
     .dsimp only;rw[cg,M];rfl
     .dsimp only;rw[cg,M];exact aC oG (aC oG rfl)
     .dsimp only;rw[cg,M];exact aC oG (aC oG rfl)
    have jv:b=true:=by simpa using h
    subst jv;have M:dX f.ab u k=(nextR x.fin).foldl (cW x.fin (jL x w).1) u:=M;have o9:=o9 nw ir.len ir.ins ir.fin ir.rl ir.rf;have xu:=Jv x w;rw[nw] at xu;generalize vZ:jL x w=th at o9 xu M;obtain⟨w',Om⟩:=th;dsimp only at xu o9 M;clear kd;refine aI (ep (vs:=fJ _) rfl (up_same _ _ _) V.h V.h rfl) ak (ez V.h V.h (by first|(simp;done)|omega|exact bE rfl)) ?_;refine ag ?_;refine aI (DV rfl rfl (aC oG (aC oG (up_same _ _ _))) V.h V.h) ak ⟨V.h,oG⟩ (aI (ep rfl (aC oG (aC oG (up_same _ _ _))) V.h V.h (HY oN oN)) ak (ez V.h V.h (Aw oN oN)) (cl o9 (bB ?_)));refine a8 bc (aW (nC (l:=[(1,.pt (bq p q f)),(4,.rs 1 0 n),(5,.rs 2 0 n),(8,B u.ch),(10,.rp N 0),(11,.rp (N+1) 0),(58,gz f.ab),(59,I n),(60,I k)]) (m':=up (up (bf [(1,.cells (cY u.ws) 231),(2,.cells (u.re.map B) 4)]) N (some (.cells (fJ x) 72))) (N+1) (some (.cells (w'.map c6) 231))) eH (by rw[p9,p9])) (az ?_));have xj:=xj (x:=x.fin);have xr:=TB (x:=x.fin) ir.fin.wh
    change PCall _ _ _ (au (nextR x.fin)) at xr
    have dU:=ir.to;have jj:=z7 x.fin;have Ja:=ir.fin.wh;generalize nextR x.fin=l at xr M dU jj;refine aI (uL rfl (aC oG (up_same _ _ _)) V.h) ak (sy V.h) (aI (ep (vs:=bh _) rfl (aC oG (up_same _ _ _)) V.h V.h rfl) ak (ez V.h V.h (by first|(simp;done)|omega|exact bE rfl)) ?_);refine cl xj (cl xr (ag ?_));have sJ:dX f.ab u k=l.foldl (cW x.fin w') u:=M
    refine af (dV (α:=Nat×Nat)
     (fun j=>⟨aD [(1,.pt (bq p q f)),(4,.rs 1 0 n),(5,.rs 2 0 n),(8,B ((l.take j.1).foldl (cW x.fin w') u).ch),(10,.rp N 0),(11,.rp (N+1) 0),(58,gz f.ab),(59,I n),(60,I k),(82,au l),(83,I l.length),(84,I j.1)],up (up (bf [(1,.cells (cY ((l.take j.1).foldl (cW x.fin w') u).ws) 231),(2,.cells (((l.take j.1).foldl (cW x.fin w') u).re.map B) 4)]) N (some (.cells (fJ x) 72))) (N+1) (some (.cells (w'.map c6) 231)),j.2⟩)
     (fun j=>j.1<=l.length/\N+2<=j.2) (fun j=>l.length - j.1) (0,N+2) (nC eH rfl) ⟨Nat.zero_le _,bF _⟩ ?_)
    rintro⟨j,N'⟩ ⟨hj,Jb⟩;dsimp only at hj Jb ⊢;have Jc:=(GM (J:=gE n) (φ:=pG) (f:=cW x.fin w') (l:=l.take j) (fun t ht s hs=>Gw hs (dU t (List.mem_of_mem_take ht))) bZ).1;have X:∀ t,l[j]? =some t->(l.take (j+1)).foldl (cW x.fin w') u=cW x.fin w' ((l.take j).foldl (cW x.fin w') u) t:=fun t ht=>oF ht;have qa:j=l.length->(l.take j).foldl (cW x.fin w') u=dX f.ab u k:=fun e=>by rw[sJ,df oG]
    generalize (l.take j).foldl (cW x.fin w') u=v at Jc X qa;clear lw lr kG hw iQ;have lw:=Jc.lw;have lr:=Jc.lr;have kG:=Jc.kG;refine SS ?_;refine af ⟨_,rfl,fun h=>?_,fun h=>?_⟩
    .have cV:j<l.length:=by simpa using h
     have ht:l[j]? =some l[j]:=aN cV;have pH:=dU _ (cy cV);generalize l[j]=t at ht pH;obtain⟨i,rfl⟩:=cU pH.1;have bm:i<n:=by omega
     have hw:v.ws[i]? =some v.ws[i]:=aN oG;have iQ:v.re[i]? =some v.re[i]:=aN oG;have On:=kG _ (cy (h:=by omega):v.ws[i]∈v.ws);generalize v.ws[i]=y at hw On;generalize v.re[i]=b at iQ;have kd:=iG (f:=B) iQ;have ze:=ze (x:=x.fin) (b:=(i:Int)) (w:=w') xu (by have:=ir.fin.wh;omega) (by have:=ir.fin.wr;omega);have xR:=Qe x.fin i w';rw[xu] at xR;have Ig:=Ig On xR;have xB:=Qi y (ia x.fin i w');rw[On] at xB;have yes:=ZA (x:=x.fin) (w:=w') hw iQ;have no:=ZX (x:=x.fin) (w:=w') hw iQ;generalize iJ y (ia x.fin i w')=z at Ig xB yes no;refine ws (aq ?_);refine af (pK ZZ (ag ?_));refine aI (DV rfl rfl (aC oG (aC oG (up_same _ _ _))) V.h V.h) ak ⟨V.h,oG⟩ (aI (ep rfl (aC oG (aC oG (up_same _ _ _))) V.h V.h (HY oN oN)) ak (ez V.h V.h (Aw oN oN)) (aI (uL rfl (aC oG (up_same _ _ _)) V.h) ak (sy V.h) (aI (ep (vs:=bh _) rfl (aC oG (up_same _ _ _)) V.h V.h rfl) ak (ez V.h V.h (by first|(simp;done)|omega|exact bE rfl)) ?_)));refine SS ?_;refine aI (ep rfl (up_same _ _ _) V.h V.h (nV (by first|rfl|exact bE rfl|(simp;done)|(simp;omega)|omega))) ak (ez V.h V.h (by first|rfl|exact bE rfl|(simp;done)|(simp;omega)|omega)) ?_;refine cl ze (cl Ig (ag ?_));refine a8 bc (aW (nC (l:=[(1,.pt (bq p q f)),(4,.rs 1 0 n),(5,.rs 2 0 n),(8,B v.ch),(10,.rp N 0),(11,.rp (N+1) 0),(14,I i),(15,.rp N' 0),(58,gz f.ab),(59,I n),(60,I k),(82,au l),(83,I l.length),(84,I j)]) (m':=up (up (up (bf [(1,.cells (cY v.ws) 231),(2,.cells (v.re.map B) 4)]) N (some (.cells (fJ x) 72))) (N+1) (some (.cells (w'.map c6) 231))) N' (some (.cells (z.map c6) 231))) eH (p9 _ _ _ _)) (dF Z0 (ag ?_)));refine aI (mN rfl rfl (aC oG (aC oG (aC oG rfl))) V.h V.h) ak ⟨V.h,oG⟩ (aI (gQ rfl (aC oG (aC oG (aC oG rfl))) kd V.h) ak (gR V.h V.h kd) (ag ?_));refine bt rfl rfl (ep rfl (up_same _ _ _) V.h V.h (nV (by first|rfl|exact bE rfl|(simp;done)|(simp;omega)|omega))) (fun hc=>⟨ak,(ez V.h V.h (by first|rfl|exact bE rfl|(simp;done)|(simp;omega)|omega))⟩) ?_;refine ag ?_;refine bt rfl rfl (DV rfl rfl (aC oG (aC oG (aC oG (up_same _ _ _)))) V.h V.h) (fun hc=>⟨ak,⟨V.h,oG⟩⟩) (bt rfl rfl (ep rfl (aC oG (aC oG (aC oG (up_same _ _ _)))) V.h V.h (HY oN oN)) (fun hc=>⟨ak,(ez V.h V.h (Aw oN oN))⟩) (bt rfl rfl (agy rfl rfl (by first|assumption|(simp;omega)|omega)) (fun hc=>⟨ak,(agz (by first|assumption|(simp;omega)|omega))⟩) ?_));refine SS ?_;refine a8 bc (aw rfl (fun h=>?_) fun h=>?_)
     .have yes:=yes (by
       cases b with
       |false=>exact .inl rfl
       |true=>exact .inr (by simpa using h))
      have X:=(X _ ht).trans yes;clear yes no;refine fh (aP ?_);refine aI (ep rfl (up_same _ _ _) V.h V.h (nV (by first|rfl|exact bE rfl|(simp;done)|(simp;omega)|omega))) ak (ez V.h V.h (by first|rfl|exact bE rfl|(simp;done)|(simp;omega)|omega)) ?_;refine aI (DV rfl rfl (aC oG (aC oG (aC oG (up_same _ _ _)))) V.h V.h) ak ⟨V.h,oG⟩ (cA (jk rfl rfl (aC oG (aC oG (aC oG (up_same _ _ _)))) (Uu oC oN oN (by first|assumption|(simp;omega)|(simp;done)))) ak (DL (by first|(simp;omega)|(simp;done)) (Aw oN oN) (me _)) ?_);refine aI (mN rfl rfl (aC oG (aC oG (aC oG (aC oG rfl)))) V.h V.h) ak ⟨V.h,oG⟩ (cA (fI (d:=.s (.bool _)) (cs':=_) rfl rfl (aC oG (aC oG (aC oG (aC oG rfl)))) rfl rfl) ak (du V.h V.h (by first|(simp;done)|exact⟨rfl,bE rfl⟩|(simp;omega)) rfl) ?_);refine SS ?_;refine af (ag ?_)
      refine af (aK (j+1,N'+1) (aQ (ml:=[(N+1,.cells (w'.map c6) 231),(N,.cells (fJ x) 72),(1,.cells (cY ((l.take (j+1)).foldl (cW x.fin w') u).ws) 231),(2,.cells (((l.take (j+1)).foldl (cW x.fin w') u).re.map B) 4)]) ⟨rfl,rfl,rfl,?_,rfl,rfl,rfl,rfl,rfl,rfl,rfl,rfl,trivial⟩
       ⟨aC oG (aC oG (aC oG (up_same _ _ _))),aC oG (aC oG (aC oG (aC oG (up_same _ _ _)))),aC oG ?_,?_,trivial⟩) ⟨oM,oM⟩ oM)
      .dsimp only;rw[X];rfl
      .rw[X];exact up_same _ _ _
      .rw[X];dsimp only;rw[List.map_set];exact up_same _ _ _
     .have no:=no (by
       cases b with
       |false=>simp at h
       |true=>simpa using h)
      have X:=(X _ ht).trans no;refine bS (ag ?_)
      refine af (aK (j+1,N'+1) (aQ (ml:=[(N+1,.cells (w'.map c6) 231),(N,.cells (fJ x) 72),(1,.cells (cY ((l.take (j+1)).foldl (cW x.fin w') u).ws) 231),(2,.cells (((l.take (j+1)).foldl (cW x.fin w') u).re.map B) 4)]) ⟨rfl,rfl,rfl,?_,rfl,rfl,rfl,rfl,rfl,rfl,rfl,rfl,trivial⟩
       ⟨aC oG (up_same _ _ _),aC oG (aC oG (up_same _ _ _)),?_,?_,trivial⟩) ⟨oM,oM⟩ oM)
      .dsimp only;rw[X];rfl
      .rw[X];exact aC oG (aC oG (aC oG rfl))
      .rw[X];exact aC oG (aC oG (aC oG rfl))
    .have a9:¬ j<l.length:=by simpa using h
     have vl:=qa oG;subst vl;show AOps _ _ _ _ _ _ _ _ _;refine ag ?_;refine af (aK (k+1,N') (aQ ⟨rfl,rfl,rfl,?_,rfl,rfl,rfl,trivial⟩ ⟨?_,?_,trivial⟩) ⟨oM,oM⟩ oM)
     .dsimp only;rw[cg];rfl
     .dsimp only;rw[cg];exact aC oG (aC oG rfl)
     .dsimp only;rw[cg];exact aC oG (aC oG rfl)
   .have a9:¬ k<n:=by simpa using h
    have hl:=fU oG;subst hl;refine aK (kJ f.ab C,N) (aQ eH eH) ⟨bZ,hN,fun hc=>?_,fun hc=>?_⟩ ?_
    .refine⟨jE,?_,?_⟩
     .have:=ER.2;unfold pG at this;show rR (kJ f.ab C)<jE;rw[if_pos hc] at this;omega
     .dsimp only at hc ⊢;rw[<- EQ,nD,if_pos hc]
    .dsimp only at hc ⊢;rw[<- EQ,nD,if_neg (by simp[hc])]
    .have:=ER.2;unfold pG at this;dsimp only;rw[if_pos h0];split at this<;>rename_i hc
     .rw[if_pos hc];omega
     .rw[if_neg hc];omega
  .have Bf:=zh h;subst Bf;exact⟨N0,aQ eH eH,AM⟩
 .rintro s ⟨n',hg,MX⟩;refine⟨_,hg,az ?_⟩;refine aP ?_;refine af (aW (bG [(1,cY R.ws,231),(2,R.re.map B,4)] ⟨rfl,KZ oG rfl .map,trivial⟩ (l:=[(2,.sl (cY R.ws) n),(3,.sl (R.re.map B) n)]) ⟨?_,?_,trivial⟩) (fk rfl rfl rfl))
  .show sub (fz0 2 (R.re.map B) (prog.cellsOf 4)) (sub (fz0 1 (cY R.ws) (prog.cellsOf 231)) (D.rs 1 0 n))=_;rw[nB (by rw[tY,JY MX.kG,MX.lw]),ae2]
  .show sub (fz0 2 (R.re.map B) (prog.cellsOf 4)) (sub (fz0 1 (cY R.ws) (prog.cellsOf 231)) (D.rs 2 0 n))=_;rw[GL oG,nB (by rw[c4,List.length_map,MX.lr,Nat.mul_one])]
end Go.Proofs.Tryz.K
namespace Go.Abs
def jc(r:Nat)(l:List D):D:=match l with
 |[]=>.z
 |_=>.rs r 0 l.length
theorem qb{r:Nat}{l:List D}(h:l≠[]):jc r l=.rs r 0 l.length:=by cases l with
 |nil=>exact absurd rfl h
 |cons=>rfl
def jF(ρ:Nat->Nat)(L:Nat->List D)(n:Nat):List D:=(range n).map fun i=>jc (ρ i) (L i)
@[simp] theorem aoo (ρ : Nat -> Nat) (L : Nat -> List D) (n : Nat) : (jF ρ L n).length = n := by simp [jF]
theorem G'{ρ:Nat->Nat}{L:Nat->List D}{n i:Nat}(hi:i<n):∃ cs,(jF ρ L n).drop i=jc (ρ i) (L i)::cs:=
 ⟨_,iG (f:=fun i=>jc (ρ i) (L i)) (by simp[hi])⟩
theorem GJ{α:Type}{F:Nat->α}{n i:Nat}{x:α}:((range n).map F).set i x=(range n).map (up F i x):=by
 apply List.ext_getElem?;intro k;rw[List.getElem?_set];simp only[List.length_map,List.length_range,List.getElem?_map];split
 .rename_i e;subst e;split
  .rename_i h;simp[h,up_same]
  .rename_i h;simp[h]
 .rename_i e;by_cases hk:k<n
  .simp[hk,up_ne F x (Ne.symm e)]
  .simp[hk]
theorem adY{ρ:Nat->Nat}{L:Nat->List D}{n i r:Nat}{l:List D}(hl:l≠[]):(jF ρ L n).set i (.rs r 0 l.length)=jF (up ρ i r) (up L i l) n:=by
 unfold jF;rw[GJ];refine congrArg (fun F=>(range n).map F) (funext fun k=>?_);simp only[up];split
 .rw[qb hl]
 .rfl
structure eP(m:Mem)(nx j n:Nat)(e et:TypeId)(ρ:Nat->Nat)(L:Nat->List D):Prop where
 row:m j=some (.cells (jF ρ L n) e)
 qA:j<nx
 sM:∀ i,i<n->L i≠[]->m (ρ i)=some (.cells (L i) et)
 lt:∀ i,i<n->L i≠[]->ρ i<nx
 ne:∀ i,i<n->L i≠[]->ρ i≠j
 inj:∀ i k,i<n->k<n->L i≠[]->L k≠[]->ρ i=ρ k->i=k
theorem eP.ext{m m':Mem}{nx nx' j n:Nat}{e et:TypeId}{ρ:Nat->Nat}{L:Nat->List D}(h:eP m nx j n e et ρ L)(hm:∀ q,q<nx->m' q=m q)(hn:nx<=nx'):eP m' nx' j n e et ρ L:=
 ⟨(hm j h.qA).trans h.row,Nat.lt_of_lt_of_le h.qA hn,fun i hi hl=>(hm _ (h.lt i hi hl)).trans (h.sM i hi hl),fun i hi hl=>Nat.lt_of_lt_of_le (h.lt i hi hl) hn,h.ne,h.inj⟩
theorem eP.kH{m m':Mem}{nx nx' j n i r:Nat}{e et:TypeId}{ρ:Nat->Nat}{L:Nat->List D}{l:List D}(h:eP m nx j n e et ρ L)(hi:i<n)(hl:l≠[])(hr:nx<=r)(js:r<nx')
 (hj:m' j=some (.cells ((jF ρ L n).set i (.rs r 0 l.length)) e)) (ax:m' r=some (.cells l et)) (hk:∀ q,q<nx->q≠j->(L i≠[]->q≠ρ i)->m' q=m q):eP m' nx' j n e et (up ρ i r) (up L i l):=by
 have cV:=h.qA
 have pI:∀ k,k<n->k≠i->L k≠[]->m' (ρ k)=some (.cells (L k) et):=fun k M J C=>
  (hk _ (h.lt k M C) (h.ne k M C) fun EY e=>J (h.inj k i M hi C EY e)).trans (h.sM k M C)
 refine⟨by rw[hj,adY hl],oG,fun k M C=>?_,fun k M C=>?_,fun k M C=>?_,fun a b ha hb qB jJ X=>?_⟩
 .by_cases J:k=i
  .subst J;rw[up_same,up_same];exact ax
  .rw[up_ne _ _ J] at C ⊢;rw[up_ne _ _ J];exact pI k M J C
 .by_cases J:k=i
  .subst J;rw[up_same];exact js
  .rw[up_ne _ _ J] at C ⊢;have:=h.lt k M C;omega
 .by_cases J:k=i
  .subst J;rw[up_same];omega
  .rw[up_ne _ _ J] at C ⊢;exact h.ne k M C
 .by_cases gG:a=i
  .by_cases qC:b=i
   .omega
   .subst gG;rw[up_same,up_ne _ _ qC] at X;rw[up_ne _ _ qC] at jJ;have:=h.lt b hb jJ;omega
  .by_cases qC:b=i
   .subst qC;rw[up_same,up_ne _ _ gG] at X;rw[up_ne _ _ gG] at qB;have:=h.lt a ha qB;omega
   .rw[up_ne _ _ gG] at qB X;rw[up_ne _ _ qC] at jJ X;exact h.inj a b ha hb qB jJ X
theorem Kr{m:Mem}{nx j n:Nat}{e et:TypeId}{ρ:Nat->Nat}(hj:j<nx)(hm:m j=some (.cells (replicate n .z) e)):eP m nx j n e et ρ (fun _=>[]):=by
 refine⟨?_,hj,fun _ _ h=>absurd rfl h,fun _ _ h=>absurd rfl h,fun _ _ h=>absurd rfl h,fun _ _ _ _ h=>absurd rfl h⟩;rw[hm];congr 2;unfold jF jc;rw[List.map_const',List.length_range]
theorem BO(n:Nat):replD n [.z]=replicate n D.z:=by
 unfold replD
 induction n with
 |zero=>rfl
 |succ n ih=>rw[List.replicate_succ,List.replicate_succ,List.flatten_cons,ih];rfl
def mV(X:Nat->Prop)(d:D):Prop:=∀ i cs sz,X i->sub (fz0 i cs sz) d=d
def nN(X:Nat->Prop)(r:Row):Prop:=∀ i cs sz,X i->Row.sub (fz0 i cs sz) r=r
theorem mV.s{X:Nat->Prop}(v:Value):mV X (.s v):=fun _ _ _ _=>rfl
theorem mV.sl{X:Nat->Prop}(es:List D)(n:Nat):mV X (.sl es n):=fun _ _ _ _=>rfl
theorem mV.z{X:Nat->Prop}:mV X .z:=fun _ _ _ _=>rfl
theorem mV.u{X:Nat->Prop}:mV X .u:=fun _ _ _ _=>rfl
theorem mV.rs{X:Nat->Prop}{j off n:Nat}(h:¬ X j):mV X (.rs j off n):=fun i cs sz hi=>GL fun e=>h (e▸hi)
theorem mV.rp{X:Nat->Prop}{j off:Nat}(h:¬ X j):mV X (.rp j off):=fun i cs sz hi=>by
 show(if j=i then _ else D.rp j off)=_;exact if_neg fun(e:j=i)=>h (e▸hi)
theorem nN.cells{X:Nat->Prop}{cs:List D}{e:TypeId}(h:∀ d∈cs,mV X d):nN X (.cells cs e):=fun i C sz hi=>by
 show Row.cells (cs.map _) e=_;congr 1
 induction cs with
 |nil=>rfl
 |cons d cs ih=>rw[List.map_cons,h d oS i C sz hi,ih fun d hd=>h d (by simp[hd])]
theorem nN.WT{X:Nat->Prop}{cs:List D}{e:TypeId}(h:zg cs):nN X (.cells cs e):=nN.cells fun d hd=>by obtain⟨v,rfl⟩:=h d hd;exact .s v
theorem Hn(d:D):Wk d d:=fun _ _ _ _ h=>h
theorem WH:Wk .z (.sl [] 0):=fun F β w v hv=>by
 obtain⟨x,rfl⟩:=hv.z_inv;exact .sln x 0
theorem Z1{X:Nat->Prop}{l:List (Nat×D)}(h:∀ x∈l,mV X x.2)(t:Nat):mV X (aD l t):=by
 induction l with
 |nil=>exact .u
 |cons x l ih=>
  obtain⟨k,d⟩:=x;simp only[aD];split
  .exact h (k,d) oS
  .exact ih fun y hy=>h y (by simp[hy])
theorem Z2{X:Nat->Prop}{l:List (Nat×Row)}(h:∀ x∈l,nN X x.2){q:Nat}{r:Row}(hq:bf l q=some r):nN X r:=by
 induction l with
 |nil=>simp[bf] at hq
 |cons x l ih=>
  obtain⟨k,d⟩:=x;simp only[bf] at hq;split at hq
  .cases hq;exact h (k,r) oS
  .exact ih (fun y hy=>h y (by simp[hy])) hq
theorem aa6{l:List (Nat×Row)}{q:Nat}(h:∀ x∈l,x.1≠q):bf l q=none:=by
 induction l with
 |nil=>rfl
 |cons x l ih=>
  obtain⟨k,d⟩:=x;simp only[bf];rw[if_neg fun e=>h (k,d) oS e.symm];exact ih fun y hy=>h y (by simp[hy])
section
variable{P:Program}
open Classical in
noncomputable def kU(ml:List (Nat×Row))(j n k:Nat)(e et:TypeId)(ρ:Nat->Nat)(L:Nat->List D):Mem:=fun q=>
 if q=j then some (.cells ((range n).map fun i=>if i<k then .sl (L i) (L i).length else jc (ρ i) (L i)) e)
 else if h:∃ i,k<=i/\i<n/\L i≠[]/\ρ i=q then some (.cells (L (Classical.choose h)) et)
 else bf ml q
theorem acA{m:Mem}{nx j n k:Nat}{e et:TypeId}{ρ:Nat->Nat}{L:Nat->List D}{l:List (Nat×D)}{ml:List (Nat×Row)}{X:Nat->Prop}(h:eP m nx j n e et ρ L)(hs:∀ i,zg (L i))(het:P.cellsOf et=1)
 (J:∀ i,i<n->L i≠[]->X (ρ i)) (qD:¬ X j) (hl:∀ x∈l,mV X x.2) (om:∀ x∈ml,nN X x.2/\¬ X x.1) (hk:k<n):
 Ghost P ⟨aD l,kU ml j n k e et ρ L,nx⟩ ⟨aD l,kU ml j n (k+1) e et ρ L,nx⟩:=by
 by_cases C:L k=[]
 .refine .weak _ _ _ _ _ (fun t=>Hn _) fun q=>?_;by_cases hq:q=j
  .subst hq;right;refine⟨_,_,e,by simp only[kU,if_true];rfl,by simp only[kU,if_true];rfl,oS,fun i d d' hd pj=>?_⟩;simp only[List.getElem?_map,dx] at hd pj;obtain⟨a,ha,rfl⟩:=hd;obtain⟨b,hb,rfl⟩:=pj;rw[ha] at hb;cases hb;by_cases h1:a<k
   .rw[if_pos h1,if_pos oG];exact Hn _
   .rw[if_neg h1];by_cases h2:a=k
    .subst h2;rw[if_pos oG,C];exact WH
    .rw[if_neg oG];exact Hn _
  .left;simp only[kU,if_neg hq]
   have:(∃ i,k+1<=i/\i<n/\L i≠[]/\ρ i=q)↔(∃ i,k<=i/\i<n/\L i≠[]/\ρ i=q):=by
    constructor
    .rintro⟨i,h1,h2⟩;exact⟨i,oG,h2⟩
    .rintro⟨i,h1,h2,h3,h4⟩
     exact⟨i,by
      rcases Nat.lt_or_ge k i with g|g
      .exact g
      .have:i=k:=by omega
       subst this;exact absurd C h3,h2,h3,h4⟩
   by_cases hc:∃ i,k<=i/\i<n/\L i≠[]/\ρ i=q
   .rw[dif_pos (this.2 hc),dif_pos hc];have e1:=Classical.choose_spec hc;have e2:=Classical.choose_spec (this.2 hc);have:Classical.choose (this.2 hc)=Classical.choose hc:=h.inj _ _ e2.2.1 e1.2.1 e2.2.2.1 e1.2.2.1 (e2.2.2.2.trans e1.2.2.2.symm);rw[this]
   .rw[dif_neg (fun h=>hc (this.1 h)),dif_neg hc]
 .have Yh:ρ k≠j:=h.ne k hk C
  have ax:kU ml j n k e et ρ L (ρ k)=some (.cells (L k) et):=by
   have hc:∃ i,k<=i/\i<n/\L i≠[]/\ρ i=ρ k:=⟨k,bF _,hk,C,rfl⟩
   simp only[kU,if_neg Yh,dif_pos hc];have e1:=Classical.choose_spec hc;have:Classical.choose hc=k:=h.inj _ _ e1.2.1 hk e1.2.2.1 C e1.2.2.2;rw[this]
  have hg:=Ghost.freeze (P:=P) (aD l) (kU ml j n k e et ρ L) nx (ρ k) (L k) et ax;have e1:(fun t=>sub (fz0 (ρ k) (L k) (P.cellsOf et)) (aD l t))=aD l:=funext fun t=>Z1 hl t _ _ _ (J k hk C)
  have e2:(fun q=>if q=ρ k then none else(kU ml j n k e et ρ L q).map (Row.sub (fz0 (ρ k) (L k) (P.cellsOf et))))=kU ml j n (k+1) e et ρ L:=by
   funext q;by_cases M:q=ρ k
   .subst M;rw[if_pos rfl]
    have hc:¬ ∃ i,k+1<=i/\i<n/\L i≠[]/\ρ i=ρ k:=by
     rintro⟨i,g1,g2,g3,g4⟩;have:=h.inj _ _ g2 hk g3 C g4;omega
    simp only[kU,if_neg Yh,dif_neg hc];exact(aa6 fun x hx e=>(om x hx).2 (e▸J k hk C)).symm
   .rw[if_neg M];by_cases tc:q=j
    .subst tc;simp only[kU,if_true,Option.map_some];congr 1;show Row.cells (List.map _ (List.map _ _)) e=_;rw[List.map_map];congr 1;refine List.map_congr_left fun i hi=>?_;have bm:i<n:=by simpa using hi
     simp only[Function.comp_apply];by_cases h1:i<k
     .rw[if_pos h1,if_pos oG];rfl
     .rw[if_neg h1];by_cases h2:i=k
      .subst h2;rw[if_pos oG,qb C,het];exact nB oG
      .rw[if_neg oG];by_cases h3:L i=[]
       .rw[h3];rfl
       .rw[qb h3];exact GL fun e=>h2 (h.inj _ _ bm hk h3 C e)
    .simp only[kU,if_neg tc]
     have this:(∃ i,k+1<=i/\i<n/\L i≠[]/\ρ i=q)↔(∃ i,k<=i/\i<n/\L i≠[]/\ρ i=q):=by
      constructor
      .rintro⟨i,h1,h2⟩;exact⟨i,oG,h2⟩
      .rintro⟨i,h1,h2,h3,h4⟩
       exact⟨i,by
        rcases Nat.lt_or_ge k i with g|g
        .exact g
        .have:i=k:=by omega
         subst this;exact absurd h4.symm M,h2,h3,h4⟩
     by_cases hc:∃ i,k<=i/\i<n/\L i≠[]/\ρ i=q
     .rw[dif_pos (this.2 hc),dif_pos hc];have e1:=Classical.choose_spec hc;have e2:=Classical.choose_spec (this.2 hc);have:Classical.choose (this.2 hc)=Classical.choose hc:=h.inj _ _ e2.2.1 e1.2.1 e2.2.2.1 e1.2.2.1 (e2.2.2.2.trans e1.2.2.2.symm);rw[this];exact congrArg some (nN.WT (X:=X) (hs _) _ _ _ (J k hk C))
     .rw[dif_neg (fun h=>hc (this.1 h)),dif_neg hc];cases hm:bf ml q with
      |none=>rfl
      |some r=>exact congrArg some (Z2 (fun x hx=>(om x hx).1) hm _ _ _ (J k hk C))
  rw[e1,e2] at hg;exact hg
theorem GN{env:Env}{m:Mem}{nx j n:Nat}{e et:TypeId}{ρ:Nat->Nat}{L:Nat->List D}{l:List (Nat×D)}{ml:List (Nat×Row)}(X:Nat->Prop)(h:eP m nx j n e et ρ L)(hs:∀ i,zg (L i))(C:P.cellsOf et=1)
 (J:∀ i,i<n->L i≠[]->X (ρ i)) (qD:¬ X j) (he:jN l env) (hl:∀ x∈l,mV X x.2) (hm:Ev ml m) (M:∀ x∈ml,nN X x.2/\¬ X x.1):
 Ghost P ⟨env,m,nx⟩ ⟨aD l,bf ((j,.cells ((range n).map fun i=>.sl (L i) (L i).length) e)::ml),nx⟩:=by
 have key:∀ k,k<=n->Ghost P ⟨aD l,kU ml j n 0 e et ρ L,nx⟩ ⟨aD l,kU ml j n k e et ρ L,nx⟩:=fun k=>by
  induction k with
  |zero=>exact fun _=>.refl _
  |succ k ih=>exact fun hk=>(ih oG).trans (acA h hs C J qD hl M oG)
 have h0:Ghost P ⟨env,m,nx⟩ ⟨aD l,kU ml j n 0 e et ρ L,nx⟩:=by
  refine(Ghost.forget env _ m nx (pN he)).trans (.drop _ _ _ _ fun q=>?_);by_cases hq:q=j
  .subst hq;left;simp only[kU,if_true,Nat.not_lt_zero,if_false];exact h.row.symm
  .simp only[kU,if_neg hq];by_cases hc:∃ i,0<=i/\i<n/\L i≠[]/\ρ i=q
   .rw[dif_pos hc];have e1:=Classical.choose_spec hc;left;have:=h.sM _ e1.2.1 e1.2.2.1;rw[e1.2.2.2] at this;exact this.symm
   .rw[dif_neg hc];exact KQ hm q
 refine h0.trans ((key n (bF _)).trans (.drop _ _ _ _ fun q=>.inl ?_));by_cases hq:q=j
 .subst hq;simp only[bf,kU,if_true];congr 2;exact List.map_congr_left fun i hi=>by rw[if_pos (by simpa using hi)]
 .simp only[bf,if_neg hq,kU];rw[dif_neg];rintro⟨i,g1,g2,_⟩;omega
end
section
variable{P:Program}{env:Env}{m:Mem}{nx:Nat}{x y:Operand}{t e:TypeId}{k:IntKind}
theorem acB{w:List Int}{rest:List D}{sz:Nat}(h:w.length=sz):(w.map c6++rest).take sz=w.map c6:=by
 rw[List.take_append_of_le_length (by simp[h]),df (by simp[h])]
theorem ae3{sz n i:Nat}{l:List (List Int)}{w:List Int}(hx:(opd env x).core=.sl (cY l) n)(hy:(opd env y).core=.s (.int k i))(he:elemP P t=e)(hs:P.cellsOf e=sz)(hl:∀ w∈l,w.length=sz)(C:l[i]? =some w):
 Ef P (.indexAddr t x y) env m nx ⟨slT P t=true/\0<=(i:Int)/\(i:Int)<n/\((i:Int).toNat+1)*sz<=(cY l).length,.pt (w.map c6++cY (l.drop (i+1))),[],[],0⟩:=
 LR hx hy he hs (by rw[bN];exact KX hl C)
theorem ae4{sz n i:Nat}{l:List (List Int)}{w:List Int}(ht:slT P t=true)(hl:∀ w∈l,w.length=sz)(C:l[i]? =some w)(hn:i<n):slT P t=true/\0<=(i:Int)/\(i:Int)<n/\((i:Int).toNat+1)*sz<=(cY l).length:=by
 have:=Aw hl C;refine⟨ht,oG,oG,?_⟩;rw[bN,Nat.add_mul,Nat.one_mul];exact this
theorem uO{i:Nat}{cs:List D}{l:List (Nat×D)}(hm:m i=some (.cells cs e))(hl:jN l fun t=>sub (fz0 i cs (P.cellsOf e)) (env t)):Ghost P ⟨env,m,nx⟩ ⟨aD l,fun _=>none,nx⟩:=
 bG [(i,cs,e)] ⟨hm,trivial⟩ hl
theorem fS{l:List (Nat×D)}(hl:jN l env):Ghost P ⟨env,m,nx⟩ ⟨aD l,fun _=>none,nx⟩:=Re hl fun _=>.inr rfl
end
section
variable{P:Program}{env:Env}{m:Mem}{nx:Nat}{x y:Operand}{t e:TypeId}{k:IntKind}
theorem Km{α:Type}{f:α->D}{l:List α}{b:Int}(hx:(opd env x).core=.sl (l.map f) l.length)(he:elemP P t=e)(hs:P.cellsOf e=1)(hb:(opd env y).core=.s (.int .i64 b))(hc:slT P t=true)(C:0<=b/\b<=l.length):
 Ef P (.slice t x none (some y) none) env m nx ⟨True,.sl ((l.take b.toNat).map f) (l.take b.toNat).length,[],[],0⟩:=by
 have h:=ww (P:=P) (env:=env) (m:=m) (nx:=nx) (t:=t) (lo:=none) (hi:=some y) (a:=0) (b:=b) (es':=(l.take b.toNat).map f) hx he hs (by simp[bndD]) (by simp[bndD,hb,D.int?]) (by simp[List.map_take])
 have h2:(slT P t=true/\(0:Int)<=0/\(0:Int)<=b/\b<=(l.length:Int))=True:=by
  apply propext;constructor
  .exact fun _=>trivial
  .exact fun _=>⟨hc,oG,C.1,C.2⟩
 have h3:(b - 0).toNat=(l.take b.toNat).length:=by rw[List.length_take];omega
 rw[h2,h3] at h;exact h
theorem Ac{i j sz:Nat}{C:List D}{r:Row}(J:j≠i)(hm:m j=some r)(h:Row.sub (fz0 i C sz) r=r):(if j=i then none else(m j).map (Row.sub (fz0 i C sz)))=some r:=by
 rw[if_neg J,hm];exact congrArg some h
theorem lQ{i:Nat}{cs:List D}{l:List (Nat×D)}{ml:List (Nat×Row)}(hm:m i=some (.cells cs e))(hl:jN l fun t=>sub (fz0 i cs (P.cellsOf e)) (env t))(C:Ev ml fun j=>if j=i then none else(m j).map (Row.sub (fz0 i cs (P.cellsOf e)))):Ghost P ⟨env,m,nx⟩ ⟨aD l,bf ml,nx⟩:=
 (Ghost.freeze env m nx i cs e hm).trans (aQ hl C)
end
end Go.Abs
namespace Go.Argus
open Go.Proofs.Tryz.K (nextR)
def dM(b:Nat)(L:Nat->List Int)(t:Int):Nat->List Int:=up L t.toNat (L t.toNat++[(b:Int)])
def qS(bs:List b7)(L:Nat->List Int)(b:Nat):Nat->List Int:=match bs[b]? with
 |none=>L
 |some x=>(nextR x.fin).foldl (dM b) L
def bH(bs:List b7)(k:Nat):Nat->List Int:=(range k).foldl (qS bs) fun _=>[]
def cM(bs:List b7):List (List Int):=(range bs.length).map (bH bs bs.length)
def bx(L:List (List Int)):D:=.sl (L.map au) L.length
theorem yz(L:List (List Int)):Tr (bx L):=.sl (.map fun _=>cL _)
theorem G9{F:Nat->List Int}{n:Nat}:(D.sl ((range n).map fun i=>.sl ((F i).map I) ((F i).map I).length) n)=bx ((range n).map F):=by
 unfold bx;rw[List.map_map,List.length_map,List.length_range];congr 1;exact List.map_congr_left fun i _=>by simp[au]
theorem Gx{b:Nat}{L:Nat->List Int}{t:Int}{c:Nat}(h:∀ i,(L i).length<=c):∀ i,(dM b L t i).length<=c+1:=fun i=>by
 unfold dM;simp only[up];split
 .have:=h t.toNat;simp;omega
 .have:=h i;omega
theorem Lq{L:Nat->List Int}{k:Nat}{l:List Int}:(fun i=>(up L k l i).map I)=up (fun i=>(L i).map I) k (l.map I):=by
 funext i;simp only[up];split<;>rfl
theorem j6{P:Nat->Bool}{n k:Nat}(hk:k<n)(h:P k=false):(range n).all P=false:=by
 refine Bool.eq_false_iff.2 fun ht=>?_;have:=bj.1 ht k (by simpa using hk);rw[h] at this;cases this
theorem lP{P:Nat->Bool}{k:Nat}(h:(range k).all P=true)(hk:P k=true):(range (k+1)).all P=true:=by
 rw[List.range_succ,List.all_append,h];simp[hk]
abbrev dw(l:List Bool):D:=.sl (l.map B) l.length
def kn:b7:=⟨[],⟨0,0,0,0,0,.empty,eB,[],[],0⟩⟩
def uQ(bs:List b7)(s:CS)(b:Nat)(y:bC)(i:Nat):Bool:=
 let p:=((bH bs bs.length b).getD i 0).toNat
 !(s.re.getD p false)||kT (ia (bs.getD p kn).fin b (jL (bs.getD p kn) (s.ws.getD p [])).1) (y.args.getD i 0).toNat
def wV(bs:List b7)(s:CS)(b:Nat)(y:bC):Bool:=(range (bH bs bs.length b).length).all (uQ bs s b y)
def cr(y:bC):Bool:=y.op==19
def tm(bs:List b7)(s:CS)(b:Nat):Bool:=
 !(s.re.getD b false)||((jL (bs.getD b kn) (s.ws.getD b [])).2&&((bs.getD b kn).ins.takeWhile cr).all (wV bs s b))
def yB(bs:List b7)(args:Nat):Bool:=(range bs.length).all (tm bs (iY bs args))
theorem takeWhile_eq{α:Type}{p:α->Bool}{l:List α}{j:Nat}(h:∀ y∈l.take j,p y=true)(h':∀ y,l[j]? =some y->p y=false):l.takeWhile p=l.take j:=by
 induction l generalizing j with
 |nil=>simp
 |cons a l ih=>cases j with
  |zero=>have:=h' a rfl;simp[this]
  |succ j=>
   have ha:=h a oS;rw[List.takeWhile_cons,if_pos ha,List.take_succ_cons,ih (j:=j) (fun y hy=>h y (by simp[hy])) (fun y hy=>h' y (by simpa using hy))]
theorem PN{b:Nat}{p:Int}:∀ {l:List Int} {L:Nat->List Int} {i:Nat},p∈(l.foldl (dM b) L) i↔p∈L i\/(p=b/\∃ t∈l,t.toNat=i)
 |[],L,i=>by simp
 |t::l,L,i=>by
  rw[List.foldl_cons,PN (l:=l)];unfold dM;simp only[up];by_cases h:i=t.toNat
  .subst h;simp only[if_true,List.mem_append,List.mem_singleton];constructor
   .rintro((h|h)|⟨h,u,h1,h2⟩)
    .exact .inl h
    .exact .inr ⟨h,t,oS,rfl⟩
    .exact .inr ⟨h,u,by simp[h1],h2⟩
   .rintro(h|⟨h,u,h1,h2⟩)
    .exact .inl (.inl h)
    .exact .inl (.inr h)
  .rw[if_neg h];constructor
   .rintro(h'|⟨h',u,h1,h2⟩)
    .exact .inl h'
    .exact .inr ⟨h',u,by simp[h1],h2⟩
   .rintro(h'|⟨h',u,h1,h2⟩)
    .exact .inl h'
    .rcases List.mem_cons.1 h1 with e|e
     .subst e;exact absurd h2.symm h
     .exact .inr ⟨h',u,e,h2⟩
theorem Gy{bs:List b7}{p:Int}{i:Nat}:∀ {k:Nat},p∈bH bs k i↔∃ b:Nat,p=b/\b<k/\∃ x,bs[b]? =some x/\∃ t∈nextR x.fin,t.toNat=i
 |0=>by simp[bH]
 |k+1=>by
  have ih:=Gy (bs:=bs) (p:=p) (i:=i) (k:=k);have e:bH bs (k+1)=qS bs (bH bs k) k:=by rw[bH,List.range_succ,List.foldl_append];rfl
  rw[e,qS];cases hx:bs[k]? with
  |none=>
   simp only;rw[ih];constructor
   .rintro⟨b,h1,h2,h3⟩;exact⟨b,h1,oG,h3⟩
   .rintro⟨b,h1,h2,x,h3,h4⟩;refine⟨b,h1,?_,x,h3,h4⟩;rcases Nat.lt_or_ge b k with g|g
    .exact g
    .have:b=k:=by omega
     subst this;rw[hx] at h3;cases h3
  |some x=>
   simp only;rw[PN,ih];constructor
   .rintro(⟨b,h1,h2,h3⟩|⟨h1,h2⟩)
    .exact⟨b,h1,oG,h3⟩
    .exact⟨k,h1,oG,x,hx,h2⟩
   .rintro⟨b,h1,h2,C,h3,h4⟩;rcases Nat.lt_or_ge b k with g|g
    .exact .inl ⟨b,h1,g,C,h3,h4⟩
    .have:b=k:=by omega
     subst this;rw[hx] at h3;cases h3;exact .inr ⟨h1,h4⟩
theorem Pt{bs:List b7}{n:Nat}(hb:∀ b∈bs,tR n b):∀ (k:Nat) {s:CS},gE n s->gE n (nD bs k s)
 |0,_,h=>h
 |k+1,s,h=>by
  rw[nD];split
  .exact Pt hb k (Dz hb h).1
  .exact(Dz hb h).1
theorem acC{bs:List b7}{args:Nat}(hb:∀ b∈bs,tR bs.length b)(C:∀ u∈jn args,eN u):gE bs.length (iY bs args):=Pt hb _ (JB C)
theorem Qj{b:Nat}:∀ {l:List Int} {L:Nat->List Int} {c:Nat},(∀ i,(L i).length<=c)->∀ i,((l.foldl (dM b) L) i).length<=c+l.length
 |[],_,_,h,i=>h i
 |t::l,L,c,h,i=>by
  have:=Qj (b:=b) (l:=l) (Gx (t:=t) (b:=b) h) i;rw[List.foldl_cons,List.length_cons];omega
theorem Gz{bs:List b7}(C:∀ b∈bs,b.fin.aL.length<=9):∀ (k i:Nat),(bH bs k i).length<=12*k
 |0,_=>by simp[bH]
 |k+1,i=>by
  have ih:=Gz C k;have e:bH bs (k+1)=qS bs (bH bs k) k:=by rw[bH,List.range_succ,List.foldl_append];rfl
  rw[e,qS];cases hx:bs[k]? with
  |none=>have:=ih i;simp only;omega
  |some x=>
   have h1:=Qj (l:=nextR x.fin) (b:=k) ih i;have h2:=z7 x.fin;have h3:=C x (bU hx);simp only;omega
theorem JN{bs:List b7}{n k:Nat}(hn:bs.length=n)(hk:k<n):(cM bs)[k]? =some (bH bs n k):=by
 subst hn;simp[cM,hk]
def r7(f:aG):Bool:=decide (f.result=1)||(decide (f.result=2)||(decide (f.result=0)&& !f.iter))
def oO(f:aG):Bool:=
 lZ f.name&&(dg f.args 0 (if(f.al.length:Int)<6 then(f.al.length:Int) else 6)&&(r7 f&&(!decide ((1200:Int)<f.al.length)&&(!decide ((60:Int)<f.aZ.length)&&dg f.ab.length 1 1200))))
def se(f:aG):Bool:=
 fy f.al 3&&(fy (f.al.take f.args.toNat) 2&&(fy f.aZ 2&&(!decide ((6:Int)<f.ac.length)&& !f.ac.any fun s=> !isName s)))
def uR(l:List ByteArray)(i:Nat):Bool:=Op.bytesLess (l.getD i .empty).toList (l.getD (i+1) .empty).toList
def oQ(f:aG):Bool:=(range (f.ac.length - 1)).all (uR f.ac)
def lU(bs:List b7)(k:Nat):List Int:=((bs.take k).filter fun x=>x.fin.kind==7).map fun x=>x.fin.a
def j8(f:aG)(k:Nat):Bool:=
 let x:=f.ab.getD k kn
 j9 f x.fin&&(!decide ((200:Int)<x.ins.length)&& !(x.fin.kind==7&&(lU f.ab k).any (·==x.fin.a)))
def wv(f:aG)(b:Nat)(l:List bC)(j:Nat):Bool:=jO f b (l.getD j eB) ((l.take (j+1)).all cr) (bH f.ab f.ab.length b).length
def tq(f:aG)(b:Nat):Bool:=(range (f.ab.getD b kn).ins.length).all (wv f b (f.ab.getD b kn).ins)
def jz(f:aG):Bool:=
 oO f&&(se f&&(oQ f&&((range f.ab.length).all (j8 f)&&(range f.ab.length).all (tq f))))
def dH(f:aG):Int:=if jz f=true then(if yB f.ab f.args.toNat=true then 0 else 81) else 80
def jC(l:List Int)(r:Int):Prop:=0<=r/\r<l.length
theorem ll{l:List Int}{r:Int}(h:cG l r≠0):jC l r:=Classical.byContradiction fun hn=>h (JZ hn)
theorem pL{l:List Int}{r:Int}(h:eY l r=true):jC l r:=by
 refine ll fun e=>?_;simp[eY,e] at h
theorem z8{l rs:List Int}(h:gZ l rs=true):∀ r∈rs,jC l r:=fun r hr=>pL (bj.1 h r hr)
theorem Ks{l:List Int}{r want J:Int}(h:mS l r want J=true)(C:want≠0):jC l r:=by
 unfold mS at h;rw[if_neg C] at h;split at h
 .refine ll fun e=>?_;simp[e] at h
 .split at h
  .refine ll fun e=>?_;simp[e] at h
  .split at h
   .exact pL h
   .refine ll fun e=>?_;simp[e] at h
structure W0(l:List Int)(x:bC)(s:Shape):Prop where
 to:s.to≠0->jC l x.to
 a:s.a≠0->jC l x.a
 b:s.b≠0->jC l x.b
 args:s.args=5\/s.args=6->x.args.length<=6/\∀ r∈x.args,jC l r
theorem J0{l:List Int}{x:bC}{s:Shape}(h:qL l x s=true):W0 l x s:=by
 unfold qL at h;simp only[aM] at h;obtain⟨h1,h2,h3,h4,_⟩:=h;refine⟨Ks h1,Ks h2,Ks h3,fun hs=>?_⟩;unfold rZ at h4;rcases hs with hs|hs
 .rw[if_pos hs,aM] at h4;have:=lk.1 h4.1;exact⟨oG,z8 h4.2⟩
 .rw[if_neg oG,if_pos hs,aM] at h4;have:(x.args.length:Int)=1:=by simpa using h4.1
  exact⟨oG,z8 h4.2⟩
theorem JC{l:List (Int×Shape)}{op:Int}{s:Shape}(h:gA l op=some s):(op,s)∈l:=by
 unfold gA at h;rw[dx] at h;obtain⟨⟨o,s'⟩,h1,rfl⟩:=h;have h2:=List.find?_some h1;have h3:=List.mem_of_find?_eq_some h1;have:o=op:=by simpa using h2
 subst this;exact h3
theorem JD{l:List Int}{x:bC}{s:Shape}(hl:l.length<=1200)(hm:(x.op,s)∈pW\/(x.op,s)∈ke)(h:W0 l x s):qV x:=by
 obtain⟨h1,h2,h3,h4⟩:=h;unfold jC at h1 h2 h3 h4;have hr:∀ {r:Int},0<=r/\r<l.length->0<=r/\r<1200:=fun h=>by omega
 have J:∀ {r:Int},0<=r/\r<l.length-> -1000000<=r/\r<1200:=fun h=>by omega
 obtain⟨op,to,a,b,n,args⟩:=x;dsimp only at h1 h2 h3 h4 hm;simp only[pW,ke,List.mem_cons,bQ,List.not_mem_nil,or_false] at hm;rcases hm with hm|hm
 .rcases hm with hm|hm|hm|hm|hm|hm|hm|hm|hm|hm|hm|hm|hm|hm|hm<;>obtain⟨rfl,rfl⟩:=hm<;>refine⟨fun r C=>?_,fun h=>?_,?_,fun h=>?_⟩<;>
   simp_all[cP,dL,aU,pP,tt,nF,pM]<;>first|omega|(rcases C with rfl|rfl<;>omega)|(have:=h4.2 r C;omega)
 .rcases hm with hm|hm|hm|hm|hm|hm|hm|hm|hm<;>obtain⟨rfl,rfl⟩:=hm<;>refine⟨fun r C=>?_,fun h=>?_,?_,fun h=>?_⟩<;>
   simp_all[cP,dL,aU,pP,tt,nF,pM]<;>first|omega|(rcases C with rfl|rfl<;>omega)|(rcases C with rfl|rfl|C<;>first|omega|(have:=h4.2 r C;omega))
theorem oK{a b:Int}:aX a b=true↔a=b:=by simp[aX]
theorem K0{l aZ:List Int}{r n:Int}(hs:∀ k∈aZ,k≠0)(h:mW l aZ r n=true):jC l r/\0<=n/\n<aZ.length:=by
 unfold mW at h;rw[aM,lk] at h;obtain⟨⟨h1,h2⟩,h3⟩:=h
 have h4:cG aZ n≠0:=by
  obtain⟨k,rfl⟩:=cU h1;have hk:k<aZ.length:=by omega
  rw[uP (aN hk)];exact hs _ (cy hk)
 refine⟨ll ?_,h1,oG⟩;rw[show cG l r=cG aZ n by simpa using h3];exact h4
theorem JE{f:aG}{b ahead:Int}{x:bC}{phis:Bool}(hl:f.al.length<=1200)(hs:∀ k∈f.aZ,k≠0)(fQ:f.aZ.length<=60)(h:jO f b x phis ahead=true):
 qV x/\(x.op=19->(x.args.length:Int)=ahead/\phis=true/\0<b/\jC f.al x.to/\∀ r∈x.args,cG f.al r=cG f.al x.to/\jC f.al r):=by
 unfold jO at h;split at h
 .rename_i X;simp only[aM,oK] at h;have hr:=ll (l:=f.al) (r:=x.a) oG;unfold jC at hr;refine⟨⟨fun r h'=>?_,fun h'=>by omega,?_,fun h'=>by omega⟩,fun h'=>by omega⟩
  .simp[cP,aU,pP,X] at h';omega
  .simp[dL,aU,nF,pM,X]
 .rename_i X;split at h
  .rename_i M;simp only[aM,oK] at h;obtain⟨h1,h2,h3⟩:=K0 hs h.2.2.2;unfold jC at h1;refine⟨⟨fun r h'=>?_,fun h'=>by omega,?_,fun h'=>by omega⟩,fun h'=>by omega⟩
   .simp[cP,aU,pP,tt,M] at h'
   .simp[dL,aU,nF,M];omega
  .rename_i M;split at h
   .rename_i J;simp only[aM,oK] at h;obtain⟨h1,h2,h3⟩:=K0 hs h.2.2.2;unfold jC at h1;refine⟨⟨fun r h'=>?_,fun h'=>by omega,?_,fun h'=>by omega⟩,fun h'=>by omega⟩
    .simp[cP,aU,pP,J] at h';omega
    .simp[dL,aU,nF,pM,J]
   .rename_i J;split at h
    .rename_i C;simp only[aM,oK,decide_eq_true_eq] at h;obtain⟨g1,g2,g3,g4,g5,g6,g7,g8⟩:=h;have hr:=pL g3;have hk:cG f.al x.to≠0:=fun e=>by simp[eY,e] at g3
     refine⟨⟨fun r h'=>?_,fun h'=>by omega,?_,fun h'=>by omega⟩,fun _=>⟨g7,g1,g2,hr,fun r js=>?_⟩⟩
     .simp[cP,aU,pP,tt,C] at h'
     .unfold jC at hr;simp[dL,aU,nF,C];omega
     .have:aX (cG f.al r) (cG f.al x.to)=true:=by
       simp only[Bool.not_eq_true',List.any_eq_false] at g8;simpa using g8 r js
      rw[oK] at this;exact⟨this,ll (by rw[this];exact hk)⟩
    .rename_i C;rw[aM] at h;cases hs:gA pW x.op with
     |none=>rw[hs] at h;simp at h
     |some s=>
      rw[hs] at h;exact⟨JD hl (.inl (JC hs)) (J0 h.2),fun h'=>absurd h' C⟩
structure HZ(f:aG)(x:End):Prop where
 fin:Cm x
 wh:x.aL.length<=7
 to:∀ t∈dp x,0<=t/\t<f.ab.length
theorem JO{f:aG}{x:End}(h:nG f x=true):x.aL.length<=7/\(∀ w∈x.aL,0<=w.to/\w.to<f.ab.length)/\(0<=x.cX->x.cX<f.ab.length):=by
 unfold nG at h;rw[aM,aM] at h;obtain⟨h1,h2,h3⟩:=h;have h2:(x.aL.length:Int)<=7:=by simpa using h2
 refine⟨oG,fun w C=>?_,fun h0=>?_⟩
 .obtain⟨i,hi⟩:=cC C;have hm:(w,i)∈x.aL.zipIdx:=List.mem_zipIdx_iff_getElem?.2 hi;have:=bj.1 h1 _ hm;simp only[qc,aM,cu,lk] at this;omega
 .rw[Bool.or_eq_true] at h3;rcases h3 with h3|h3
  .have:x.cX= -1:=by simpa using h3
   omega
  .rw[cu,lk] at h3;omega
theorem R1{x:End}(h:AA x=true):x.kind=0/\x.a=0/\x.b=0/\x.to=0/\x.gF=0/\x.cX= -1/\x.args.length=0/\x.aL.length=0:=by
 simp only[AA,aM,decide_eq_true_eq] at h;omega
theorem Kt{f:aG}{x:End}(hl:f.al.length<=1200)(hr:r7 f=true)(h:j9 f x=true):HZ f x:=by
 have lH:∀ {r:Int},jC f.al r->0<=r/\r<1200:=fun h=>by unfold jC at h;omega
 unfold j9 at h;rw[aM] at h;obtain⟨h,hb⟩:=h;have hb:=R1 hb;have X:∀ {t:Int},cu f t=true->0<=t/\t<f.ab.length:=fun h=>by rw[cu,lk] at h;omega
 obtain⟨kind,a,b,to,gF,name,ins,args,aL,cX⟩:=x;simp only[gK] at h hb;by_cases h1:kind=1
 .subst h1;simp only[if_true] at h hb;have J:=X h;have C:aL=[]:=List.length_eq_zero_iff.1 hb.2.2.2.2.2.2.2;subst C;refine⟨⟨fun r h'=>?_,?_,oS,oS,oS⟩,oS,fun t ht=>?_⟩
  .simp[cK,aU] at h'
  .simp[eT,aU]
  .simp[dp,iP,aU] at ht;subst ht;exact J
 by_cases h2:kind=2
 .subst h2;simp only[Int.reduceEq,if_false,if_true,aM,oK] at h hb;have C:aL=[]:=List.length_eq_zero_iff.1 hb.2.2.2.2.2.2.2;subst C;have Dq:=lH (ll (l:=f.al) (r:=a) oG);have J:=X h.2.1;have F4:=X h.2.2;refine⟨⟨fun r h'=>?_,?_,oS,oS,oS⟩,oS,fun t ht=>?_⟩
  .simp[cK,aU] at h';subst h';exact Dq
  .simp[eT,aU]
  .simp[dp,iP,aU] at ht;rcases ht with rfl|rfl
   .exact J
   .exact F4
 by_cases h3:kind=3
 .subst h3;simp only[Int.reduceEq,if_false,if_true] at h hb;have C:aL=[]:=List.length_eq_zero_iff.1 hb.2.2.2.2.2.2.2;subst C;refine⟨⟨fun r h'=>?_,?_,oS,oS,oS⟩,oS,fun t ht=>?_⟩
  .simp[cK,aU] at h';obtain⟨h1,rfl⟩:=h';split at h
   .rename_i hc;rw[oK] at h;exact lH (ll (by rw[h];exact hc.1))
   .rw[oK] at h;exact absurd h h1
  .simp[eT,aU]
  .simp[dp,aU] at ht
 by_cases h4:kind=4
 .subst h4;simp only[Int.reduceEq,if_false,if_true] at h hb;have C:aL=[]:=List.length_eq_zero_iff.1 hb.2.2.2.2.2.2.2;subst C;refine⟨⟨fun r h'=>?_,?_,oS,oS,oS⟩,oS,fun t ht=>?_⟩
  .simp[cK,aU] at h'
  .simp[eT,aU]
  .simp[dp,aU] at ht
 by_cases h5:kind=5
 .subst h5;simp only[Int.reduceEq,if_false,if_true,aM] at h hb;obtain⟨g1,g2,g3,M⟩:=h;obtain⟨oq,xX,F5⟩:=JO M;have J:=X g3
  have hi:qV ins:=by
   cases hs:gA ke ins.op with
   |none=>rw[hs] at g1;simp at g1
   |some s=>rw[hs] at g2;exact JD hl (.inr (JC hs)) (J0 g2)
  refine⟨⟨fun r h'=>?_,?_,?_,fun _=>hi.ar,oS⟩,oq,fun t ht=>?_⟩
  .simp[cK,aU] at h';exact hi.rd r h'
  .simp only[eT,if_true];exact hi.wr
  .dsimp only at oq ⊢;omega
  .simp[dp,iP,aU] at ht;rcases ht with rfl|⟨w,C,rfl⟩|⟨h0,rfl⟩
   .exact J
   .exact xX w C
   .exact⟨h0,F5 h0⟩
 by_cases h6:kind=6
 .subst h6;simp only[Int.reduceEq,if_false,if_true,aM,Bool.or_eq_true,oK,decide_eq_true_eq] at h hb;obtain⟨g1,g2,g3,M,g5,g6⟩:=h;obtain⟨oq,xX,F5⟩:=JO g6;have J:=X g5;have hv:=z8 g3;refine⟨⟨fun r h'=>?_,?_,?_,oS,fun _=>?_⟩,oq,fun t ht=>?_⟩
  .simp[cK,aU] at h';exact lH (hv r h')
  .simp only[eT,aU];rcases M with M|M
   .simp[M]
   .have:=lH (pL M);simp;omega
  .dsimp only at oq ⊢;omega
  .dsimp only;omega
  .simp[dp,iP,aU] at ht;rcases ht with rfl|⟨w,C,rfl⟩|⟨h0,rfl⟩
   .exact J
   .exact xX w C
   .exact⟨h0,F5 h0⟩
 by_cases h7:kind=7
 .subst h7;simp only[Int.reduceEq,if_false,if_true,aM,oK,decide_eq_true_eq] at h hb;obtain⟨g1,g2,g3,M,g5⟩:=h;have C:aL=[]:=List.length_eq_zero_iff.1 hb.2.2.2.2.2.2.2;subst C;have J:=X g5;have hv:=z8 g3;have Dq:=lH (ll (l:=f.al) (r:=a) oG);refine⟨⟨fun r h'=>?_,?_,oS,oS,fun _=>?_⟩,oS,fun t ht=>?_⟩
  .simp[cK,aU] at h';exact lH (hv r h')
  .simp only[eT,aU];simp;omega
  .dsimp only;omega
  .simp[dp,iP,aU] at ht;subst ht;exact J
 by_cases h8:kind=8
 .subst h8;simp only[Int.reduceEq,if_false,if_true,aM,oK] at h hb;obtain⟨g1,g2,g3,M,g5⟩:=h;obtain⟨oq,xX,F5⟩:=JO g5;have J:=X g3;have F4:=X M;have Dq:=lH (ll (l:=f.al) (r:=a) oG);have hrb:=lH (pL g2);refine⟨⟨fun r h'=>?_,?_,?_,oS,oS⟩,oq,fun t ht=>?_⟩
  .simp[cK,aU] at h';subst h';exact Dq
  .simp[eT,aU];omega
  .dsimp only at oq ⊢;omega
  .simp[dp,iP,aU] at ht;rcases ht with rfl|rfl|⟨w,C,rfl⟩|⟨h0,rfl⟩
   .exact J
   .exact F4
   .exact xX w C
   .exact⟨h0,F5 h0⟩
 by_cases h9:kind=9
 .subst h9;simp only[Int.reduceEq,if_false,if_true,aM,oK] at h hb;obtain⟨g1,g2,g3⟩:=h;have C:aL=[]:=List.length_eq_zero_iff.1 hb.2.2.2.2.2.2.2;subst C;have J:=X g3
  have Dq:=lH (ll (l:=f.al) (r:=a) (by
   rw[g2];intro e
   simp[r7,e,g1] at hr))
  refine⟨⟨fun r h'=>?_,?_,oS,oS,oS⟩,oS,fun t ht=>?_⟩
  .simp[cK,aU] at h';subst h';exact Dq
  .simp[eT,aU]
  .simp[dp,iP,aU] at ht;subst ht;exact J
 .simp[h1,h2,h3,h4,h5,h6,h7,h8,h9] at h
theorem acD(a b:Int):eN (Bk a b):=by
 unfold Bk intBitsV eN;simp only;rw[wrap_u64 (n:=(BitVec.ofInt IntKind.u64.bits a||| BitVec.ofInt IntKind.u64.bits b).toNat) (BitVec.isLt (w:=64) _)];have h:(BitVec.ofInt IntKind.u64.bits a||| BitVec.ofInt IntKind.u64.bits b).toNat<18446744073709551616:=BitVec.isLt (w:=64) _;exact⟨Int.natCast_nonneg _,Int.ofNat_lt.2 h⟩
theorem PO{w:List Int}{n:Int}(h:∀ u∈w,eN u):∀ u∈gC w n,eN u:=fun u C=>by
 unfold gC at C;split at C
 .unfold wP at C;rcases List.mem_or_eq_of_mem_set C with h1|h1
  .exact h u h1
  .rw[h1];exact acD _ _
 .exact h u C
theorem GA:∀ k,∀ u∈jn k,eN u
 |0,u,hu=>by
  rw[List.eq_of_mem_replicate hu];simp[eN]
 |k+1,u,hu=>PO (GA k) u hu
theorem qV.rl{x:bC}(h:qV x):(cP x).length<=100000:=by
 unfold cP;split
 .simp
 .split
  .simp
  .split
   .rename_i J;have:=h.ar (.inl J);omega
   .split
    .rename_i C;have:=h.ar (.inr C);simp;omega
    .simp
theorem Cm.rf{x:End}(h:Cm x)(hi:x.kind=5->qV x.ins):(cK x).length<=100000:=by
 unfold cK;split
 .simp
 .split
  .split<;>simp
  .split
   .rename_i h5;exact(hi h5).rl
   .split
    .rename_i C;have:=h.a2 (by simpa[aU] using C);omega
    .simp
structure qT(f:aG):Prop where
 pos:0<f.ab.length
 mC:f.ab.length<=1200
 al:f.al.length<=1200
 args:0<=f.args/\f.args<=6
 blk:∀ b∈f.ab,tR f.ab.length b
 ends:∀ b∈f.ab,HZ f b.fin
 right:∀ (b:Nat) x,f.ab[b]? =some x->∀ (j:Nat) y,x.ins[j]? =some y->jO f b y ((x.ins.take (j+1)).all cr) (bH f.ab f.ab.length b).length=true
 aZ:(∀ k∈f.aZ,k≠0)/\f.aZ.length<=60
 akH:∀ b∈f.ab,b.fin.kind=5->qV b.fin.ins
theorem Rg{l:List Int}{m:Int}(h:fy l m=true):∀ k∈l,k≠0:=fun k hk e=>by
 subst e;simp only[fy,Bool.not_eq_true',List.any_eq_false] at h;have:=h 0 hk;simp[nE] at this
theorem ad0{f:aG}{x:End}(hl:f.al.length<=1200)(h:j9 f x=true)(h5:x.kind=5):qV x.ins:=by
 unfold j9 at h;rw[aM] at h;have h:=h.1;unfold gK at h;simp only[h5,Int.reduceEq,if_false,if_true,aM] at h;obtain⟨C,J,_⟩:=h;cases hs:gA ke x.ins.op with
 |none=>rw[hs] at C;simp at C
 |some s=>rw[hs] at J;exact JD hl (.inr (JC hs)) (J0 J)
theorem tG{f:aG}(h:jz f=true):qT f:=by
 unfold jz at h;simp only[aM] at h;obtain⟨X,hK,_,hE,hR⟩:=h;unfold oO at X;simp only[aM,lk,Bool.not_eq_true',decide_eq_false_iff_not] at X;obtain⟨_,ha,hr,kZ,fQ,cZ⟩:=X;unfold se at hK;simp only[aM,Bool.not_eq_true',decide_eq_false_iff_not] at hK;obtain⟨_,_,zw,_,_⟩:=hK;have J:f.al.length<=1200:=by omega
 have M:∀ x∈f.ab,j9 f x.fin=true/\x.ins.length<=200:=fun x hx=>by
  obtain⟨k,hk⟩:=cC hx;have ao:k<f.ab.length:=(bw.1 hk).1;have:=bj.1 hE k (by simpa using ao);rw[j8,getD_some hk] at this;simp only[aM,Bool.not_eq_true',decide_eq_false_iff_not] at this;exact⟨this.1,oG⟩
 have C:∀ x∈f.ab,HZ f x.fin:=fun x hx=>Kt J hr (M x hx).1
 have Ym:∀ (b:Nat) x,f.ab[b]? =some x->∀ (j:Nat) y,x.ins[j]? =some y->jO f b y ((x.ins.take (j+1)).all cr) (bH f.ab f.ab.length b).length=true:=fun b x hx j y hy=>by
  have ao:b<f.ab.length:=(bw.1 hx).1;have:=bj.1 hR b (by simpa using ao);rw[tq,getD_some hx] at this;have:=bj.1 this j (by simpa using(bw.1 hy).1);rw[wv,getD_some hy] at this;exact this
 have h5:∀ b∈f.ab,b.fin.kind=5->qV b.fin.ins:=fun b hb h5=>ad0 J (M b hb).1 h5
 have zj:∀ b∈f.ab,∀ x∈b.ins,qV x:=fun b hb x hx=>by
  obtain⟨k,hk⟩:=cC hb;obtain⟨j,hj⟩:=cC hx;exact(JE J (Rg zw) oG (Ym k b hk j x hj)).1
 refine⟨oG,oG,J,⟨ha.1,by have:=ha.2;split at this<;>omega⟩,fun b hb=>⟨by have:=(M b hb).2;omega,zj b hb,(C b hb).fin,fun x hx=>(zj b hb x hx).rl,(C b hb).fin.rf (h5 b hb),fun t ht=>(C b hb).to t (Gu.1 ht)⟩,C,Ym,⟨Rg zw,oG⟩,h5⟩
theorem qT.Jf{f:aG}(h:qT f){b:Nat}{x:b7}(hx:f.ab[b]? =some x){y:bC}(hy:y∈x.ins)(C:y.op=19):y.args.length=(bH f.ab f.ab.length b).length/\∀ r∈y.args,0<=r/\r<1280:=by
 obtain⟨j,hj⟩:=cC hy;obtain⟨h1,_,_,_,h2⟩:=(JE h.al h.aZ.1 h.aZ.2 (h.right b x hx j y hj)).2 C;refine⟨oG,fun r hr=>?_⟩;have:=(h2 r hr).2;unfold jC at this;have:=h.al;omega
end Go.Argus
namespace Go.Proofs.Tryz.K
theorem Dn{p q:D}{f:aG}{n:Nat}(hp:Tr p)(hq:Tr q)(fP:p.one=true)(gO:q.one=true)(hn:f.ab.length=n)(jf:n<=100000)(hw:∀ b∈f.ab,b.fin.aL.length<=9)(ht:∀ b∈f.ab,∀ t∈nextR b.fin,0<=t/\t<n):
 PCall prog 97 [.agg (bq p q f)] (bx (cM f.ab)):=by
 have a7:∀ a∈[D.agg (bq p q f)],Tr a:=.cons (nJ hp hq f) .nil;refine bg WU a7 (yz _) ?_;rw[akz];refine az (ag ?_);refine af (aW (bG [(0,bq p q f,133)] eH (l:=[(1,.pt (bq p q f))]) eH) (az (bB ?_)));have dn:((f.ab.length:Nat):Int).toNat=n:=hn;refine af (aW (aQ (l:=[(1,.pt (bq p q f)),(3,.rs 1 0 n)]) (ml:=[(1,.cells (replicate n .z) 27)]) ⟨rfl,congrArg (fun k=>D.rs 1 0 k) dn,trivial⟩ ⟨?_,trivial⟩) (aB (az ?_)))
 .exact congrArg (fun c=>some (Row.cells c 27)) ((congrArg (fun k=>replD k [D.z]) dn).trans (BO n))
 refine aO ?_
 refine af (bR (fun s=>∃ m nx ρ,Ghost prog s ⟨aD [(3,.rs 1 0 n)],m,nx⟩/\eP m nx 1 n 27 3 ρ (fun i=>(bH f.ab n i).map I)) (dV (α:=Nat×Mem×Nat)
  (fun k=>⟨aD [(1,.pt (bq p q f)),(3,.rs 1 0 n),(15,gz f.ab),(16,I n),(17,I k.1)],k.2.1,k.2.2⟩)
  (fun k=>k.1<=n/\(∃ ρ,eP k.2.1 k.2.2 1 n 27 3 ρ (fun i=>(bH f.ab k.1 i).map I))/\∀ i,(bH f.ab k.1 i).length<=12*k.1) (fun k=>n - k.1) (0,bf [(1,.cells (replicate n .z) 27)],2)
  (ap ⟨rfl,rfl,rfl,congrArg (fun k:Nat=>I k) hn,rfl,trivial⟩) ⟨Nat.zero_le _,⟨fun _=>0,Kr (show 1<2 by decide) rfl⟩,fun _=>bF _⟩ ?_) ?_)
 .rintro⟨k,m,nx⟩ ⟨hk,⟨ρ,C⟩,hlen⟩;dsimp only at hk C hlen ⊢;have ax:=C.row;have cV:=C.qA;refine SS ?_;refine af ⟨_,rfl,fun h=>?_,fun h=>?_⟩
  .have ao:k<n:=by simpa using h
   have hx:f.ab[k]? =some f.ab[k]:=aN oG;have cz:f.ab[k]∈f.ab:=cy _;generalize f.ab[k]=x at hx cz
   have cg:bH f.ab (k+1)=(nextR x.fin).foldl (dM k) (bH f.ab k):=by
    rw[bH,List.range_succ,List.foldl_append];show qS f.ab _ k=_;rw[qS,hx];rfl
   generalize bH f.ab k=L0 at C hlen ax cg;refine ws (bB ?_);have xj:=xj (x:=x.fin);have xr:=TB (x:=x.fin) (hw x cz)
   change PCall _ _ _ (au (nextR x.fin)) at xr
   have dU:=ht x cz;have jj:=z7 x.fin;have Ja:=hw x cz;generalize nextR x.fin=l at xr dU jj cg;refine af (az (SS ?_));refine aI (ep (vs:=bh _) rfl (up_same _ _ _) V.h V.h rfl) ak (ez V.h V.h (by first|(simp;done)|omega|exact bE rfl)) ?_;refine cl xj (cl xr (ag ?_))
   refine af (dV (α:=Nat×Mem×Nat)
    (fun j=>⟨aD [(1,.pt (bq p q f)),(3,.rs 1 0 n),(4,I k),(15,gz f.ab),(16,I n),(17,I k),(25,au l),(26,I l.length),(27,I j.1)],j.2.1,j.2.2⟩)
    (fun j=>j.1<=l.length/\(∃ ρ,eP j.2.1 j.2.2 1 n 27 3 ρ (fun i=>((l.take j.1).foldl (dM k) L0 i).map I))/\∀ i,((l.take j.1).foldl (dM k) L0 i).length<=12*k+j.1) (fun j=>l.length - j.1) (0,up m nx (some (.cells (fJ x) 72)),nx+1)
    (nC eH (p9 _ _ _ _)) ⟨Nat.zero_le _,⟨ρ,C.ext (fun q hq=>aC oG rfl) oM⟩,hlen⟩ ?_)
   clear C ax hlen;rintro⟨j,m,nx⟩ ⟨hj,⟨ρ,C⟩,hlen⟩;dsimp only at hj C hlen ⊢;have ax:=C.row;have cV:=C.qA;have X:∀ t,l[j]? =some t->(l.take (j+1)).foldl (dM k) L0=dM k ((l.take j).foldl (dM k) L0) t:=fun t ht=>oF ht;have qa:j=l.length->(l.take j).foldl (dM k) L0=bH f.ab (k+1):=fun e=>by rw[cg,df oG]
   generalize (l.take j).foldl (dM k) L0=L at C hlen ax X qa;refine SS ?_;refine af ⟨_,rfl,fun h=>?_,fun h=>?_⟩
   .have zi:j<l.length:=by simpa using h
    have s7:l[j]? =some l[j]:=aN zi;have pH:=dU _ (cy zi);generalize l[j]=t at s7 pH;obtain⟨i,rfl⟩:=cU pH.1;have J:i<n:=by omega
    have hL:=hlen i;have X:(l.take (j+1)).foldl (dM k) L0=up L i (L i++[(k:Int)]):=X _ s7
    have tO:∀ i,((l.take (j+1)).foldl (dM k) L0 i).length<=12*k+(j+1):=fun a=>by
     rw[X];exact Gx (t:=(i:Int)) hlen a
    have zU:(fun a=>((l.take (j+1)).foldl (dM k) L0 a).map I)=up (fun a=>(L a).map I) i ((L i++[(k:Int)]).map I):=by rw[X];exact Lq
    obtain⟨cs,kd⟩:=G' (ρ:=ρ) (L:=fun i=>(L i).map I) J;refine ws (aq ?_);refine af (fh ?_);by_cases hz:L i=[]
    .have uD:jc (ρ i) ((L i).map I)=.z:=by rw[hz];rfl
     rw[uD] at kd;refine aJ ?_;refine ag ?_;refine af (ag ?_);refine af (aK (j+1,up (up (up m nx (some (.cells [I k] 3))) (nx+1) (some (.cells [I k] 3))) 1 (some (.cells ((jF ρ (fun i=>(L i).map I) n).set i (.rs (nx+1) 0 1)) 27)),nx+2) (ap eH) ⟨oM,⟨up ρ i (nx+1),?_⟩,tO⟩ oM);dsimp only;rw[zU];refine C.kH J oS oG oG ?_ ?_ (fun q hq tc _=>?_)
     .rw[hz];exact up_same _ _ _
     .rw[hz];exact aC oG (up_same _ _ _)
     .exact aC oG (aC oG (aC oG rfl))
    .have M:(L i).map I≠[]:=by simpa using hz
     have uD:jc (ρ i) ((L i).map I)=.rs (ρ i) 0 (L i).length:=by rw[qb M,List.length_map]
     rw[uD] at kd;have di:=C.sM i J M;have Bj:=C.lt i J M;have Oo:=C.ne i J M;refine aJ ?_;refine ag ?_;refine af (ag ?_);refine af (aK (j+1,up (up (up (up m nx (some (.cells [I k] 3))) (ρ i) none) (nx+1) (some (.cells ((L i).map I++[I k]) 3))) 1 (some (.cells ((jF ρ (fun i=>(L i).map I) n).set i (.rs (nx+1) 0 ((L i).length+1))) 27)),nx+2) (ap eH) ⟨oM,⟨up ρ i (nx+1),?_⟩,tO⟩ oM);dsimp only;rw[zU];refine C.kH J oS oG oG ?_ ?_ (fun q hq tc nq=>?_)
     .rw[List.length_map,List.length_append];exact up_same _ _ _
     .rw[List.map_append];exact aC oG (up_same _ _ _)
     .have:=nq M;exact aC oG (aC oG (aC oG (aC oG rfl)))
   .have a9:¬ j<l.length:=by simpa using h
    have vl:=qa oG;subst vl;show AOps _ _ _ _ _ _ _ _ _;refine ag ?_;refine af (aK (k+1,m,nx) (ap eH) ⟨oM,⟨ρ,C⟩,fun i=>by have:=hlen i;dsimp only at this ⊢;omega⟩ oM)
  .have a9:¬ k<n:=by simpa using h
   have:k=n:=by omega
   subst this;exact⟨m,nx,ρ,ap eH,C⟩
 .rintro s ⟨m,nx,ρ,hg,C⟩;have qD:¬ ∃ i,i<n/\(bH f.ab n i).map I≠[]/\ρ i=1:=fun⟨i,h1,h2,h3⟩=>C.ne i h1 h2 h3;refine⟨_,hg.trans (GN (l:=[(3,.rs 1 0 n)]) (ml:=[]) (fun r=>∃ i,i<n/\(bH f.ab n i).map I≠[]/\ρ i=r) C (fun _=>.map) c3 (fun i h1 h2=>⟨i,h1,h2,rfl⟩) qD ⟨rfl,trivial⟩ (fun x hx=>?_) trivial (fun x hx=>by cases hx)),az ?_⟩
  .simp at hx;subst hx;exact .rs qD
  refine ag ?_;refine af (aW (bG [(1,_,27)] eH (l:=[(2,bx (cM f.ab))]) ⟨?_,trivial⟩) (av rfl rfl));show sub (fz0 1 _ (prog.cellsOf 27)) (D.rs 1 0 n)=_;rw[nB (by rw[Bh];simp),G9,cM,hn]
theorem Io{p q:D}{f:aG}{n args:Nat}(hp:Tr p)(hq:Tr q)(fP:p.one=true)(gO:q.one=true)(hn:f.ab.length=n)(jZ:0<n)(jf:n<=100000)(ha:f.args=args)(uk:args<=1000)(zT:∀ u∈jn args,eN u)(hb:∀ b∈f.ab,tR n b)
 (AN:∀ b x,f.ab[b]? =some x->∀ y∈x.ins,y.op=19->y.args.length=(bH f.ab n b).length/\∀ r∈y.args,0<=r/\r<1280):
 PCall prog 154 [.agg (bq p q f)] (B (yB f.ab args)):=by
 have a7:∀ a∈[D.agg (bq p q f)],Tr a:=.cons (nJ hp hq f) .nil;have CE:=CE hp hq fP gO hn jZ jf ha uk zT hb;have Dn:=Dn hp hq fP gO hn jf (fun b h=>(hb b h).fin.wh) (fun b h=>(hb b h).to);have WW:gE n (iY f.ab args):=by subst hn;exact acC hb zT
 refine bg Va a7 (.s _) ?_;rw[agJ];refine az (ag ?_);refine af (aW (bG [(0,bq p q f,133)] eH (l:=[(1,.pt (bq p q f))]) eH) ?_);have fD:yB f.ab args=(range n).all (tm f.ab (iY f.ab args)):=by rw[yB,hn]
 rw[fD];clear fD;generalize iY f.ab args=R at CE WW ⊢;obtain⟨lw,lr,kG,rg⟩:=WW;have CE:PCall prog 197 [.agg (bq p q f)] (.tup [.sl (cY R.ws) n,dw R.re]):=by unfold dw;rw[lr];exact CE
 show AW _ _ _ _ (scopeQ _) _;refine ws (SS ?_);refine cl CE (aO ?_);refine af (az (SS ?_));refine cl Dn (SS ?_);refine af (aW (fS (l:=[(1,.pt (bq p q f)),(3,.sl (cY R.ws) n),(4,dw R.re),(5,bx (cM f.ab))]) eH) (Zy (aB (az (aO ?_)))))
 refine af (bR (fun s=>(range n).all (tm f.ab R)=true) (dV (α:=Nat×Nat)
  (fun k=>⟨aD [(1,.pt (bq p q f)),(3,.sl (cY R.ws) n),(4,dw R.re),(5,bx (cM f.ab)),(25,gz f.ab),(26,I n),(27,I k.1)],fun _=>none,k.2⟩)
  (fun k=>k.1<=n/\(range k.1).all (tm f.ab R)=true) (fun k=>n - k.1) (0,1) (fS ⟨rfl,rfl,rfl,rfl,rfl,congrArg (fun k:Nat=>I k) hn,rfl,trivial⟩) ⟨Nat.zero_le _,rfl⟩ ?_) ?_)
 .rintro⟨k,N⟩ ⟨hk,bD⟩;dsimp only at hk bD ⊢;refine SS ?_;refine af ⟨_,rfl,fun h=>?_,fun h=>?_⟩
  .have ao:k<n:=by simpa using h
   have hx:f.ab[k]? =some f.ab[k]:=aN oG;have cz:f.ab[k]∈f.ab:=cy _;generalize f.ab[k]=x at hx cz;have ir:=hb x cz;have uE:=AN k x hx;have hw:R.ws[k]? =some R.ws[k]:=aN oG;have iQ:R.re[k]? =some R.re[k]:=aN oG;have nw:=kG _ (cy (h:=by omega):R.ws[k]∈R.ws)
   have M:tm f.ab R k=(!R.re[k]||((jL x R.ws[k]).2&&(x.ins.takeWhile cr).all (wV f.ab R k))):=by
    rw[tm,getD_some hw,getD_some iQ,getD_some hx]
   generalize R.ws[k]=w at hw nw M;generalize R.re[k]=b at iQ M;refine az (bB ?_);refine af (aW (uO (i:=N) (l:=[(1,.pt (bq p q f)),(3,.sl (cY R.ws) n),(4,dw R.re),(5,bx (cM f.ab)),(6,I k),(7,.pt (fJ x)),(25,gz f.ab),(26,I n),(27,I k)]) (up_same _ _ _) ⟨rfl,rfl,rfl,rfl,rfl,oZ,rfl,rfl,rfl,trivial⟩) (aB (aj (aO ?_))));refine af (cx rfl (fun h=>jy (mR ?_)) fun h=>bP (aB (pK aa7 ?_)))
   .have uC:b=false:=by simpa using h
    subst uC;refine ag ?_;refine af (aK (k+1,N+1) (fS eH) ⟨oM,lP bD (by rw[M];rfl)⟩ oM)
   have jv:b=true:=by simpa using h
   subst jv;have o9:=o9 nw ir.len ir.ins ir.fin ir.rl ir.rf;have xu:=Jv x w;rw[nw] at xu;generalize jL x w=th at o9 M xu;obtain⟨w1,ok⟩:=th;dsimp only at o9 M xu;refine aq ?_;refine WX ?_;refine WY ?_;refine cl o9 (bB ?_);refine a8 bc (aW (fS (l:=[(1,.pt (bq p q f)),(3,.sl (cY R.ws) n),(4,dw R.re),(5,bx (cM f.ab)),(6,I k),(7,.pt (fJ x)),(9,B ok),(25,gz f.ab),(26,I n),(27,I k)]) eH) (aB (aj (ag ?_))));refine af (cx rfl (fun h=>?_) fun h=>bP (az ?_))
   .have bZ:ok=false:=by simpa using h
    subst bZ;refine aB (aj (SS ?_));refine af (bX (br (aR (KP (av (d:=B false) rfl ?_)))));rw[j6 ao (by rw[M];rfl)]
   have bZ:ok=true:=by simpa using h
   subst bZ;have M:tm f.ab R k=(x.ins.takeWhile cr).all (wV f.ab R k):=M;refine aP ?_;have jj:=ir.len
   refine af (dV (α:=Nat×Nat)
    (fun j=>⟨aD [(1,.pt (bq p q f)),(3,.sl (cY R.ws) n),(4,dw R.re),(5,bx (cM f.ab)),(6,I k),(25,gz f.ab),(26,I n),(27,I k),(49,iH x.ins),(50,I x.ins.length),(51,I j.1)],fun _=>none,j.2⟩)
    (fun j=>j.1<=x.ins.length/\(∀ y∈x.ins.take j.1,cr y=true)/\(x.ins.take j.1).all (wV f.ab R k)=true) (fun j=>x.ins.length - j.1) (0,_) (fS eH) ⟨Nat.zero_le _,oS,oS⟩ ?_)
   rintro⟨j,N⟩ ⟨hj,CF,E8⟩;dsimp only at hj CF E8 ⊢;refine SS ?_;refine af ⟨_,rfl,fun h=>?_,fun h=>?_⟩
   .have cV:j<x.ins.length:=by simpa using h
    have hy:x.ins[j]? =some x.ins[j]:=aN cV;have ye:x.ins[j]∈x.ins:=cy cV;generalize x.ins[j]=y at hy ye;refine az (aP ?_);refine af (aW (uO (i:=N) (l:=[(1,.pt (bq p q f)),(3,.sl (cY R.ws) n),(4,dw R.re),(5,bx (cM f.ab)),(6,I k),(11,.pt (bu y)),(25,gz f.ab),(26,I n),(27,I k),(49,iH x.ins),(50,I x.ins.length),(51,I j)]) (up_same _ _ _) ⟨rfl,rfl,rfl,rfl,rfl,oZ,rfl,rfl,rfl,rfl,rfl,rfl,trivial⟩) (aB (aj (aq ?_))));refine af (cx rfl (fun h=>jy (afM oC oC (mR ?_))) fun h=>bP (az ?_))
    .have aE:y.op≠19:=by simpa using h
     refine ag ?_;refine af (aK (k+1,_) (fS eH) ⟨oM,lP bD ?_⟩ oM);rw[M,takeWhile_eq CF (fun y' h'=>by rw[hy] at h';cases h';simpa[cr] using aE)];exact E8
    have fH:y.op=19:=by simpa using h
    obtain⟨mB,yf⟩:=uE y ye fH;have hA:=JN hn ao
    have F3:∀ p∈bH f.ab n k,∃ C:Nat,p=C/\C<n:=fun p hp=>by
     obtain⟨b,h1,h2,_⟩:=Gy.1 hp;exact⟨b,h1,h2⟩
    have Oq:wV f.ab R k y=(range (bH f.ab n k).length).all (uQ f.ab R k y):=by rw[wV,hn]
    have J:∀ i,uQ f.ab R k y i=(!(R.re.getD ((bH f.ab n k).getD i 0).toNat false)||kT (ia (f.ab.getD ((bH f.ab n k).getD i 0).toNat kn).fin k (jL (f.ab.getD ((bH f.ab n k).getD i 0).toNat kn) (R.ws.getD ((bH f.ab n k).getD i 0).toNat [])).1) (y.args.getD i 0).toNat):=fun i=>by rw[uQ,hn]
    have Ot:=Gz (fun b h=>(hb b h).fin.wh) n k;generalize bH f.ab n k=A at mB hA F3 Oq J Ot
    have ae5:∀ i,i<A.length->uQ f.ab R k y i=false->(range n).all (tm f.ab R)=false:=fun i hi he=>by
     refine j6 ao ?_;rw[M];refine Bool.eq_false_iff.2 fun ht=>?_
     have akF:y∈x.ins.takeWhile cr:=by
      have:x.ins.take (j+1)=x.ins.take j++[y]:=by rw[List.take_add_one,hy];rfl
      have h2:x.ins=x.ins.take (j+1)++x.ins.drop (j+1):=(List.take_append_drop _ _).symm;rw[h2,this,List.takeWhile_append_of_pos]
      .simp
      .intro z hz;rcases List.mem_append.1 hz with h|h
       .exact CF z h
       .rw[List.mem_singleton.1 h];simp[cr,fH]
     have:=bj.1 ht y akF;rw[Oq,j6 hi he] at this;cases this
    refine bB ?_
    refine af (dV (α:=Nat×Nat)
     (fun i=>⟨aD [(1,.pt (bq p q f)),(3,.sl (cY R.ws) n),(4,dw R.re),(5,bx (cM f.ab)),(6,I k),(11,.pt (bu y)),(25,gz f.ab),(26,I n),(27,I k),(49,iH x.ins),(50,I x.ins.length),(51,I j),(61,au A),(62,I A.length),(63,I i.1)],fun _=>none,i.2⟩)
     (fun i=>i.1<=A.length/\(range i.1).all (uQ f.ab R k y)=true) (fun i=>A.length - i.1) (0,_) (fS eH) ⟨Nat.zero_le _,rfl⟩ ?_)
    rintro⟨i,N⟩ ⟨hi,Md⟩;dsimp only at hi Md ⊢;refine SS ?_;refine af ⟨_,rfl,fun h=>?_,fun h=>?_⟩
    .have fZ:i<A.length:=by simpa using h
     have ur:A[i]? =some A[i]:=aN fZ;obtain⟨C,Dp,iO⟩:=F3 _ (cy fZ);rw[Dp] at ur;clear Dp;have v8:f.ab[C]? =some f.ab[C]:=aN oG;have rm:f.ab[C]∈f.ab:=cy _;have Yi:R.ws[C]? =some R.ws[C]:=aN oG;have NQ:R.re[C]? =some R.re[C]:=aN oG;have MZ:=kG _ (cy (h:=by omega):R.ws[C]∈R.ws);have Ou:y.args[i]? =some y.args[i]:=aN oG;have zS:=yf _ (cy (h:=by omega):y.args[i]∈y.args);have J:=J i;rw[getD_some ur,bN,getD_some v8,getD_some Yi,getD_some NQ,getD_some Ou] at J;generalize f.ab[C]=xp at v8 rm J;generalize R.ws[C]=wp at Yi MZ J;generalize R.re[C]=rb at NQ J;generalize y.args[i]=r at Ou zS J;obtain⟨rn,rfl⟩:=cU zS.1;rw[bN] at J;have AO:=hb xp rm;have o9:=Go.Proofs.Tryz.K.o9 MZ AO.len AO.ins AO.fin AO.rl AO.rf;have E9:=Jv xp wp;rw[MZ] at E9;generalize jL xp wp=tp at o9 J E9;obtain⟨w2,ok2⟩:=tp;dsimp only at o9 J E9;have ze:=ze (x:=xp.fin) (b:=(k:Int)) (w:=w2) E9 (by have:=AO.fin.wh;omega) (by have:=AO.fin.wr;omega);have np:=Qe xp.fin k w2;rw[E9] at np;generalize ia xp.fin k w2=w3 at ze np J;have mf:=mf (w:=w3) (m:=rn) np oG;refine ws (aO ?_);refine af (pK Z3 (bK ?_));refine WX ?_;refine WY ?_;refine cl o9 (bB ?_);refine a8 bc (aW (uO (i:=N) (l:=[(1,.pt (bq p q f)),(3,.sl (cY R.ws) n),(4,dw R.re),(5,bx (cM f.ab)),(6,I k),(11,.pt (bu y)),(12,I i),(13,I C),(14,.pt (w2.map c6)),(25,gz f.ab),(26,I n),(27,I k),(49,iH x.ins),(50,I x.ins.length),(51,I j),(61,au A),(62,I A.length),(63,I i)]) (up_same _ _ _) ⟨rfl,rfl,rfl,rfl,rfl,rfl,rfl,rfl,oZ,rfl,rfl,rfl,rfl,rfl,rfl,rfl,rfl,rfl,trivial⟩) (dF Z4 ?_))
     have nU:∀ v:Bool,v=uQ f.ab R k y i->(v=false->(range n).all (tm f.ab R)=false)/\(v=true->(range (i+1)).all (uQ f.ab R k y)=true):=fun v hv=>by
      subst hv;exact⟨ae5 i fZ,fun h=>lP Md h⟩
     cases rb with
     |false=>
      obtain⟨_,X⟩:=nU true J.symm;have X:=X rfl;refine aJ ?_;refine WZ ?_;refine aq ?_;refine bt rfl rfl (mK rfl V.h V.h (TC (by first|rfl|exact bE rfl|(simp;done)|(simp;omega)|omega))) (fun hc=>⟨ak,(mL V.h V.h (by first|rfl|exact bE rfl|(simp;done)|(simp;omega)|omega))⟩) ?_;refine gc ze (aO ?_);refine gc mf (ag ?_);refine a8 bc (aw rfl (fun h=>oH) fun h=>bS (ag ?_));refine af (aK (i+1,_) (fS eH) ⟨oM,X⟩ oM)
     |true=>
      obtain⟨gg,X⟩:=nU (kT w3 rn) J.symm;generalize kT w3 rn=hv at mf gg X;refine aJ ?_;refine WZ ?_;refine aq ?_;refine bt rfl rfl (mK rfl V.h V.h (TC (by first|rfl|exact bE rfl|(simp;done)|(simp;omega)|omega))) (fun hc=>⟨ak,(mL V.h V.h (by first|rfl|exact bE rfl|(simp;done)|(simp;omega)|omega))⟩) ?_;refine gc ze (aO ?_);refine gc mf (ag ?_);refine a8 bc (aw rfl (fun h=>?_) fun h=>bS ?_)
      .have hf:hv=false:=by simpa using h
       refine ws (SS ?_);refine af (aY (br (br (br (aR (KP (av (d:=B false) rfl ?_)))))));rw[gg hf]
      .have ht:hv=true:=by simpa using h
       have X:=X ht;refine ag ?_;refine af (aK (i+1,_) (fS eH) ⟨oM,X⟩ oM)
    .have a9:¬ i<A.length:=by simpa using h
     have hiA:i=A.length:=by omega
     subst hiA;show AOps _ _ _ _ _ _ _ _ _;refine ag ?_;refine af (aK (j+1,_) (fS eH) ⟨oM,fun z hz=>?_,?_⟩ oM)
     .dsimp only at hz;rw[List.take_add_one,hy] at hz;rcases List.mem_append.1 hz with h|h
      .exact CF z h
      .rw[List.mem_singleton.1 h];simp[cr,fH]
     .dsimp only;rw[List.take_add_one,hy,List.all_append,E8];simpa[Oq] using Md
   .have a9:¬ j<x.ins.length:=by simpa using h
    have FC:j=x.ins.length:=by omega
    subst FC;show AOps _ _ _ _ _ _ _ _ _;refine ag ?_;refine af (aK (k+1,_) (fS eH) ⟨oM,lP bD ?_⟩ oM);rw[List.take_length] at CF E8;rw[M,takeWhile_eq (j:=x.ins.length) (by rw[List.take_length];exact CF) (fun y h=>by simp at h),List.take_length];exact E8
  .have a9:¬ k<n:=by simpa using h
   have:k=n:=by omega
   subst this;exact bD
 .rintro⟨env,m,nx⟩ bD;refine⟨_,.refl _,aj ?_⟩;refine SS ?_;refine af (KP (av (d:=B true) rfl ?_));rw[bD]
end Go.Proofs.Tryz.K
namespace Go.Argus
theorem Yj:∀ b1 b2 b3 b4 b5 b6:Bool,(if(if(if(if(if(!b1)=true then true else !b2)=true then true else !b3)=true then true else b4)=true then true else b5)=true then true else !b6)= !(b1&&(b2&&(b3&&(!b4&&(!b5&&b6))))):=by decide
theorem Yk:∀ b1 b2 b3 b4 b5:Bool,(if(if(if(if(!b1)=true then true else !b2)=true then true else !b3)=true then true else b4)=true then true else b5)= !(b1&&(b2&&(b3&&(!b4&& !b5)))):=by decide
theorem hd3:∀ b1 b2 b3 b4:Bool,(if(if b1=true then true else b2)=true then true else if b3=true then !b4 else false)=(b1||(b2||(b3&& !b4))):=by decide
def oz(l:List Int):List (Value×D):=l.map fun a=>(.int .i64 a,B true)
theorem K2(a:Int):∀ l:List Int,(lookD (.int .i64 a) (oz l)).map (·.2)=if(l.any (·==a))=true then some (B true) else none
 |[]=>rfl
 |b::l=>by
  have ih:=K2 a l;unfold oz at ih ⊢;simp only[List.map_cons,lookD,veq,veq1,List.any_cons,beq_self_eq_true,Bool.true_and] at ih ⊢;by_cases h:b=a
  .subst h;simp
  .have hb:(b==a)=false:=by simpa using h
   simp only[hb,Bool.false_eq_true,if_false,Option.map_map,Bool.false_or];exact ih
theorem ae6{P:Program}{t:TypeId}(C:zeroD P (melP P t)=B false)(a:Int)(l:List Int):gotD P t false (lookD (.int .i64 a) (oz l))=B (l.any (·==a)):=by
 have h:=K2 a l;cases h1:lookD (.int .i64 a) (oz l) with
 |none=>
  rw[h1] at h;cases h2:l.any (·==a) with
  |true=>rw[h2] at h;simp at h
  |false=>simp[gotD,C]
 |some x=>
  rw[h1] at h;cases h2:l.any (·==a) with
  |false=>rw[h2] at h;simp at h
  |true=>rw[h2] at h;simp at h;simp[gotD,h]
theorem ae7{a:Int}{l:List Int}(h:l.any (·==a)=false):putD (.int .i64 a) (B true) (oz l)=oz (l++[a]):=by
 have h1:=K2 a l;rw[h] at h1;unfold putD;cases h2:lookD (.int .i64 a) (oz l) with
 |none=>simp[oz]
 |some x=>rw[h2] at h1;simp at h1
theorem R2{P:Program}{kt:TypeId}(hk:P.underlying kt=some (.int .i64))(l:List Int):(oz l).all (fun e=>keyP P kt e.1)=true:=by
 refine bj.2 fun x hx=>?_;obtain⟨y,_,rfl⟩:=List.mem_map.1 hx;simp[keyP,hk]
theorem TD{P:Program}{kt:TypeId}(hk:P.underlying kt=some (.int .i64))(a:Int):keyP P kt (.int .i64 a)=true:=by simp[keyP,hk]
theorem adZ{i sz:Nat}{C:List D}(l:List Int):Row.sub (fz0 i C sz) (.map (oz l))=.map (oz l):=by
 show Row.map ((oz l).map _)=_;unfold oz;rw[List.map_map];rfl
theorem Zk{bs:List b7}{k:Nat}{x:b7}(hx:bs[k]? =some x):lU bs (k+1)=if(x.fin.kind==7)=true then lU bs k++[x.fin.a] else lU bs k:=by
 unfold lU;rw[List.take_add_one,hx];by_cases h:(x.fin.kind==7)=true
 .simp[h]
 .simp[h]
end Go.Argus
namespace Go.Proofs.Tryz.K
theorem Jd:prog.underlying 3=some (.int .i64):=kr
theorem agK:zeroD prog (melP prog 127)=B false:=kr
theorem M0{f:aG}:PCall prog 153 [.agg (aH f)] (B (jz f)):=by
 have a7:∀ a∈[D.agg (aH f)],Tr a:=.cons (.agg (iu f)) .nil;refine bg Vb a7 (.s _) ?_;rw[agL];refine az ?_;refine ag ?_;refine af (aW (uO (i:=0) (l:=[(1,.pt (aH f))]) rfl eH) (az ?_));have M7:=M7 (f:=f);refine SS ?_;refine cl M7 ?_;refine SS ?_;refine cA (jk (cs':=bq _ _ _) rfl rfl rfl rfl) ak (du V.h V.h (by first|(simp;done)|exact⟨rfl,bE rfl⟩|(simp;omega)) (by rfl)) ?_;refine af (aW (uO (i:=1) (l:=[(1,.pt (aH f)),(3,.pt (bq P0 Q0 f))]) rfl eH) (az ?_));refine aJ ?_;refine bK ?_;refine ag ?_;refine af (aW (fS (l:=[(1,.pt (aH f)),(3,.pt (bq P0 Q0 f)),(4,B (r7 f))]) ⟨rfl,rfl,congrArg B (hd3 (f.result==1) (f.result==2) (f.result==0) f.iter),trivial⟩) (aB (aj ?_)));have akG:jz f=(oO f&&(se f&&(oQ f&&((range f.ab.length).all (j8 f)&&(range f.ab.length).all (tq f))))):=rfl;rw[akG];have hH:oO f=(lZ f.name&&(dg f.args 0 (if(f.al.length:Int)<6 then(f.al.length:Int) else 6)&&(r7 f&&(!decide ((1200:Int)<f.al.length)&&(!decide ((60:Int)<f.aZ.length)&&dg f.ab.length 1 1200))))):=rfl;generalize fD:r7 f=NR at hH ⊢;refine ag ?_;refine cl ua ?_;refine dA ?_;refine bt rfl rfl (Uk rfl rfl) (fun hc=>⟨ak,rfl⟩) ?_;refine gc nz ?_;refine aJ ?_;refine aJ ?_;refine aP ?_;refine gc nz ?_;refine ag ?_;refine af (cx rfl (fun h=>?_) fun h=>bP (aB (aj ?_)))
 .have h:=(Yj _ _ _ _ _ _).symm.trans h;rw[<- hH] at h;have h:oO f=false:=by simpa using h
  refine aB (aj ?_);refine SS ?_;refine af (bX (av (d:=B false) rfl ?_));rw[h];rfl
 have h:=(Yj _ _ _ _ _ _).symm.trans h;rw[<- hH] at h;have J:oO f=true:=by simpa using h
 rw[J,Bool.true_and];rw[hH] at J;simp only[aM,lk,Bool.not_eq_true',decide_eq_false_iff_not] at J;obtain⟨_,ha,hr,kZ,X,cZ⟩:=J;subst hr;clear h hH
 have uk:0<=f.args/\f.args<=f.al.length/\f.args<=6:=by
  split at ha<;>omega
 have hK:se f=(fy f.al 3&&(fy (f.al.take f.args.toNat) 2&&(fy f.aZ 2&&(!decide ((6:Int)<f.ac.length)&& !f.ac.any fun s=> !isName s)))):=rfl;have Ie:=Ie (l:=f.ac) (g:=193) (fs:=[]) (cs:=[]) (p:=fun s=> !isName s) (.fn oS oS) (fun x _=>akD);have ha2:0<=f.args/\f.args<=f.al.length:=⟨uk.1,uk.2.1⟩
 refine ag ?_;refine cl MY ?_;refine bB ?_;refine bt rfl rfl (Km rfl Yl c5 rfl W3 ha2) (fun hc=>⟨(by repeat' (first|exact trivial|exact hc|exact rfl|refine And.intro ?_ ?_)),trivial⟩) ?_;refine gc MY ?_;refine aO ?_;refine gc MY ?_;refine aJ ?_;refine ag ?_;refine gc Ie ?_;refine SS ?_;refine af (cx rfl (fun h=>?_) fun h=>bP (aB (az ?_)))
 .have h:=(Yk _ _ _ _ _).symm.trans h;rw[<- hK] at h;have h:se f=false:=by simpa using h
  refine aB (aj ?_);refine SS ?_;refine af (bX (av (d:=B false) rfl ?_));rw[h];rfl
 have h:=(Yk _ _ _ _ _).symm.trans h;rw[<- hK] at h;have J:se f=true:=by simpa using h
 rw[J,Bool.true_and];rw[hK] at J;simp only[aM,Bool.not_eq_true',decide_eq_false_iff_not] at J;obtain⟨_,_,zw,hsg,_⟩:=J;clear h hK Ie;have hS:oQ f=(range (f.ac.length - 1)).all (uR f.ac):=rfl;rw[hS];have pf:f.ac.length<=6:=by omega
 refine SS ?_;refine af (bR (fun s=>Ghost prog s ⟨aD [(1,.pt (aH f)),(3,.pt (bq P0 Q0 f))],fun _=>none,2⟩/\(range (f.ac.length - 1)).all (uR f.ac)=true) (cQ (α:=Nat) (fun k=>⟨aD [(1,.pt (aH f)),(3,.pt (bq P0 Q0 f)),(5,I (k+1:Nat))],fun _=>none,2⟩) (fun k=>k<=f.ac.length - 1/\(range k).all (uR f.ac)=true) (fun k=>f.ac.length - k) 0 (fS eH) ⟨Nat.zero_le _,rfl⟩ ?_) ?_)
 .rintro k ⟨hk,C⟩;refine aO ?_;refine af ⟨_,rfl,fun h=>?_,fun h=>?_⟩
  .have ao:k+1<f.ac.length:=by have:((k+1:Nat):Int)<f.ac.length:=by simpa using h
                               omega
   have h1:f.ac[k]? =some f.ac[k]:=aN oG;have h2:f.ac[k+1]? =some f.ac[k+1]:=aN oG;have X:uR f.ac k=Op.bytesLess f.ac[k].toList f.ac[k+1].toList:=by rw[uR,getD_some h1,getD_some h2]
   generalize f.ac[k]=s1 at h1 X;generalize f.ac[k+1]=s2 at h2 X;have nh:((k+1:Nat):Int) - 1=(k:Int)/\ -9223372036854775808<=(k:Int)/\(k:Int)<=9223372036854775807:=by omega
   refine dF Z5 ?_;refine aJ ?_;refine ag ?_;refine aI (S9 rfl rfl) ak trivial ?_;refine a8 bc (aw rfl (fun h=>?_) fun h=>bS ?_)
   .have hf:uR f.ac k=false:=by rw[X];simpa using h
    refine ws ?_;refine SS ?_;refine af (aY (br (aR (av (d:=B false) rfl ?_))));rw[j6 oG hf];rfl
   .have ht:uR f.ac k=true:=by rw[X];simpa using h
    refine aq ?_;exact af (aK (k+1) (fS eH) ⟨oG,lP C ht⟩ oG)
  .have a9:¬ k+1<f.ac.length:=by intro J;simp at h;omega
   have:k=f.ac.length - 1:=by omega
   subst this;exact⟨fS eH,C⟩
 rintro s ⟨hg,C⟩;rw[C,Bool.true_and];clear C hS;refine⟨_,hg,az ?_⟩;refine ag ?_;refine af (aW (aQ (l:=[(1,.pt (aH f)),(3,.pt (bq P0 Q0 f)),(6,.mp 2)]) (ml:=[(2,.map (oz []))]) eH eH) (aB (az ?_)));refine aP ?_;generalize hn:f.ab.length=n at cZ ⊢;refine af (bR (fun s=>∃ N,Ghost prog s ⟨aD [(1,.pt (aH f)),(3,.pt (bq P0 Q0 f))],fun _=>none,N⟩/\(range n).all (j8 f)=true) (dV (α:=Nat×Nat) (fun k=>⟨aD [(1,.pt (aH f)),(3,.pt (bq P0 Q0 f)),(6,.mp 2),(123,gz f.ab),(124,I n),(125,I k.1)],bf [(2,.map (oz (lU f.ab k.1)))],k.2⟩) (fun k=>k.1<=n/\(range k.1).all (j8 f)=true/\3<=k.2) (fun k=>n - k.1) (0,3) (aQ eH eH) ⟨Nat.zero_le _,rfl,bF _⟩ ?_) ?_)
 .rintro⟨k,N⟩ ⟨hk,C,hN⟩;dsimp only at hk C hN ⊢;refine SS ?_;refine af ⟨_,rfl,fun h=>?_,fun h=>?_⟩
  .have ao:k<n:=by simpa using h
   have hx:f.ab[k]? =some f.ab[k]:=aN oG;generalize f.ab[k]=x at hx;have M:j8 f k=(j9 f x.fin&&(!decide ((200:Int)<x.ins.length)&& !(x.fin.kind==7&&(lU f.ab k).any (·==x.fin.a)))):=by rw[j8,getD_some hx]
   have qE:=Zk hx;have Ip:=Ip (f:=f) (x:=x.fin);generalize lU f.ab k=l at M qE;refine az ?_;refine aP ?_;refine af (aW (lQ (i:=N) (l:=[(1,.pt (aH f)),(3,.pt (bq P0 Q0 f)),(6,.mp 2),(8,.pt (fJ x)),(123,gz f.ab),(124,I n),(125,I k)]) (ml:=[(2,.map (oz l))]) (up_same _ _ _) ⟨rfl,rfl,rfl,oZ,rfl,rfl,rfl,trivial⟩ ⟨Ac oG (aC oG (aC oG rfl)) (adZ l),trivial⟩) (aB (aj ?_)));generalize j9 f x.fin=e at Ip M;refine aq ?_;refine cl Ip ?_;refine dA ?_;refine af (cx rfl (fun h=>?_) fun h=>bP (aj ?_))
   .have hf:j8 f k=false:=by
     rw[M];cases e with
     |false=>rfl
     |true=>have:decide ((200:Int)<x.ins.length)=true:=by simpa using h
            rw[this];rfl
    refine aB (aj ?_);refine SS ?_;refine af (bX (br (aR (av (d:=B false) rfl ?_))));rw[j6 ao hf];rfl
   have M:j8 f k= !(x.fin.kind==7&&l.any (·==x.fin.a)):=by
    rw[M];cases e with
    |false=>simp at h
    |true=>have:decide ((200:Int)<x.ins.length)=false:=by simpa using h
           rw[this];rfl
   refine aP ?_;refine af (aw rfl (fun h7=>?_) fun h7=>bS ?_)
   .rw[h7] at M qE;refine aB (aj ?_);refine aP ?_;refine aI (yx rfl rfl rfl Me (ae6 agK _ _)) cv ⟨Mf,TD Jd _,R2 Jd _⟩ ?_;refine af (cx rfl (fun h=>?_) fun h=>bP (fh ?_))
    .have hf:j8 f k=false:=by rw[M,h];rfl
     refine aB (aj ?_);refine SS ?_;refine af (bX (br (aR (av (d:=B false) rfl ?_))));rw[j6 ao hf];rfl
    .have ht:j8 f k=true:=by rw[M,h];rfl
     refine aP ?_;refine cA (HC rfl rfl rfl rfl Me) cv ⟨Mf,TD Jd _,R2 Jd _⟩ ?_;refine af ?_;refine ag ?_;refine af (aK (k+1,_) (aQ eH ⟨?_,trivial⟩) ⟨oM,lP C ht,oM⟩ oM);dsimp only;rw[qE,if_pos rfl, <- ae7 h];exact up_same _ _ _
   .rw[h7] at M qE;refine ag ?_;refine af (aK (k+1,_) (aQ eH ⟨?_,trivial⟩) ⟨oM,lP C M,oM⟩ oM);dsimp only;rw[qE,if_neg oS];rfl
  .have a9:¬ k<n:=by simpa using h
   have:k=n:=by omega
   subst this;exact⟨N,fS eH,C⟩
 rintro s ⟨N,hg,C⟩;rw[C,Bool.true_and]
 have hE:∀ x∈f.ab,HZ f x.fin:=fun x hx=>by
  obtain⟨k,hk⟩:=cC hx;have ao:k<n:=by rw[<- hn];exact(bw.1 hk).1
  have:=bj.1 C k (by simpa using ao);rw[j8,getD_some hk] at this;simp only[aM] at this;exact Kt oG fD this.1
 have Dn:=Dn (f:=f) mX mY rfl rfl hn oG (fun b h=>by have:=(hE b h).wh;omega) (fun b h t ht=>hn▸(hE b h).to t (Gu.1 ht));refine⟨_,hg,aj ?_⟩;refine SS ?_;refine cl Dn ?_;refine SS ?_;refine af (aB (az ?_));refine aP ?_;refine af (bR (fun s=>(range n).all (tq f)=true) (dV (α:=Nat×Nat) (fun k=>⟨aD [(1,.pt (aH f)),(3,.pt (bq P0 Q0 f)),(9,bx (cM f.ab)),(157,gz f.ab),(158,I n),(159,I k.1)],fun _=>none,k.2⟩) (fun k=>k.1<=n/\(range k.1).all (tq f)=true) (fun k=>n - k.1) (0,N) (fS ⟨rfl,rfl,rfl,rfl,congrArg (fun k:Nat=>I k) hn,rfl,trivial⟩) ⟨Nat.zero_le _,rfl⟩ ?_) ?_)
 .rintro⟨k,N⟩ ⟨hk,C⟩;dsimp only at hk C ⊢;refine SS ?_;refine af ⟨_,rfl,fun h=>?_,fun h=>?_⟩
  .have ao:k<n:=by simpa using h
   have hx:f.ab[k]? =some f.ab[k]:=aN oG;have cz:f.ab[k]∈f.ab:=cy _;generalize f.ab[k]=x at hx cz;have hA:=JN hn ao;have nv:tq f k=(range x.ins.length).all (wv f k x.ins):=by rw[tq,getD_some hx]
   have qu:∀ j,wv f k x.ins j=jO f k (x.ins.getD j eB) ((x.ins.take (j+1)).all cr) (bH f.ab n k).length:=fun j=>by rw[wv,hn]
   generalize bH f.ab n k=A at hA qu;refine az ?_;refine bB ?_;refine af (aW (uO (i:=N) (l:=[(1,.pt (aH f)),(3,.pt (bq P0 Q0 f)),(9,bx (cM f.ab)),(10,I k),(11,.pt (fJ x)),(157,gz f.ab),(158,I n),(159,I k)]) (up_same _ _ _) ⟨rfl,rfl,rfl,rfl,oZ,rfl,rfl,rfl,trivial⟩) (aj ?_));refine SS ?_;refine af (az ?_);refine aP ?_
   have fq:x.ins.length<=200:=by
    have:=bj.1 ‹(range n).all (j8 f)=true› k (by simpa using ao);rw[j8,getD_some hx] at this;simp only[aM,Bool.not_eq_true',decide_eq_false_iff_not] at this;omega
   refine af (dV (α:=Nat×Nat) (fun j=>⟨aD [(1,.pt (aH f)),(3,.pt (bq P0 Q0 f)),(9,bx (cM f.ab)),(10,I k),(12,B ((x.ins.take j.1).all cr)),(157,gz f.ab),(158,I n),(159,I k),(165,iH x.ins),(166,I x.ins.length),(167,I j.1)],fun _=>none,j.2⟩) (fun j=>j.1<=x.ins.length/\(range j.1).all (wv f k x.ins)=true) (fun j=>x.ins.length - j.1) (0,N+1) (fS eH) ⟨Nat.zero_le _,rfl⟩ ?_);rintro⟨j,N⟩ ⟨hj,Mg⟩;dsimp only at hj Mg ⊢;refine SS ?_;refine af ⟨_,rfl,fun h=>?_,fun h=>?_⟩
   .have cV:j<x.ins.length:=by simpa using h
    have hy:x.ins[j]? =some x.ins[j]:=aN cV;generalize x.ins[j]=y at hy;have uy:(x.ins.take (j+1)).all cr=((x.ins.take j).all cr&&cr y):=by rw[List.take_add_one,hy,List.all_append];simp
    have qu:=qu j;rw[getD_some hy] at qu;generalize (x.ins.take j).all cr=ph at uy;refine az ?_;refine aP ?_;refine af (aW (uO (i:=N) (l:=[(1,.pt (aH f)),(3,.pt (bq P0 Q0 f)),(9,bx (cM f.ab)),(10,I k),(12,B ph),(14,.pt (bu y)),(157,gz f.ab),(158,I n),(159,I k),(165,iH x.ins),(166,I x.ins.length),(167,I j)]) (up_same _ _ _) ⟨rfl,rfl,rfl,rfl,rfl,oZ,rfl,rfl,rfl,rfl,rfl,rfl,trivial⟩) (az ?_));refine dA ?_;refine af (aW (fS (l:=[(1,.pt (aH f)),(3,.pt (bq P0 Q0 f)),(9,bx (cM f.ab)),(10,I k),(12,B ((x.ins.take (j+1)).all cr)),(14,.pt (bu y)),(157,gz f.ab),(158,I n),(159,I k),(165,iH x.ins),(166,I x.ins.length),(167,I j)]) ⟨rfl,rfl,rfl,rfl,?_,rfl,rfl,rfl,rfl,rfl,rfl,rfl,trivial⟩) (dF Z6 ?_))
    .rw[uy];cases ph<;>rfl
    have Iq:=Iq (f:=f) (b:=(k:Int)) (ahead:=(A.length:Int)) (x:=y) (phis:=(x.ins.take (j+1)).all cr);rw[<- qu] at Iq;refine aJ ?_;refine cl Iq ?_;refine SS ?_;refine a8 bc (aw rfl (fun h=>?_) fun h=>bS ?_)
    .have hf:wv f k x.ins j=false:=by simpa using h
     refine ws ?_;refine SS ?_;refine af (aY (br (br (aR (av (d:=B false) rfl ?_)))));rw[j6 ao (by rw[nv];exact j6 cV hf)]
    .have ht:wv f k x.ins j=true:=by simpa using h
     refine ag ?_;exact af (aK (j+1,_) (fS eH) ⟨oM,lP Mg ht⟩ oM)
   .have a9:¬ j<x.ins.length:=by simpa using h
    have FC:j=x.ins.length:=by omega
    subst FC;show AOps _ _ _ _ _ _ _ _ _;refine ag ?_;exact af (aK (k+1,_) (fS eH) ⟨oM,lP oN (nv.trans Mg)⟩ oM)
  .have a9:¬ k<n:=by simpa using h
   have:k=n:=by omega
   subst this;show(range k).all (tq f)=true
   assumption
 .rintro⟨env,m,nx⟩ C;refine⟨_,.refl _,aj ?_⟩;refine SS ?_;refine af (av (d:=B true) rfl ?_);rw[C]
theorem zV{f:aG}:PCall prog 95 [.agg (aH f)] (I (dH f)):=by
 have M:∀ a∈[D.agg (aH f)],Tr a:=.cons (.agg (iu f)) .nil;refine bg W4 M (.s _) ?_;rw[akI];have M0:=M0 (f:=f);refine az (ag ?_);refine af (aW (uO (i:=0) (l:=[(1,.pt (aH f))]) rfl eH) (oI (aj (SS ?_))));refine cl M0 (ag ?_);refine af (aw rfl (fun h=>aj ?_) fun h=>aj ?_)
 .have hf:jz f=false:=by simpa using h
  refine SS ?_;refine af (aY (bO (aR (av (d:=I 80) rfl ?_))));rw[dH,if_neg (by simp[hf])]
 .have hf:jz f=true:=by simpa using h
  have C:=tG hf;obtain⟨args,ha⟩:=cU C.args.1;have uk:=C.args.2;have Io:=Io (p:=.s (.map none)) (q:=.s (.map none)) (f:=f) (.s _) (.s _) rfl rfl rfl C.pos (by have:=C.mC;omega) ha oG (GA args) C.blk (fun b x hx y hy X=>C.Jf hx hy X);have J:dH f=if yB f.ab args=true then 0 else 81:=by rw[dH,if_pos hf,ha,bN]
  generalize yB f.ab args=r at Io J;refine SS ?_;refine W5 ?_;refine cl Io (ag ?_);refine af (aw rfl (fun h=>aj ?_) fun h=>nL (aj ?_))
  .have hr:r=false:=by simpa using h
   refine SS ?_;refine af (aY (bO (aR (av (d:=I 81) rfl ?_))));rw[J,hr];rfl
  .have hr:r=true:=by simpa using h
   refine SS ?_;refine af (aY (av (d:=I 0) rfl ?_));rw[J,hr];rfl
end Go.Proofs.Tryz.K
namespace Go.Argus
def Vc(a b:Int):Int:=intBitsV .andNot .u64 a b
def H0(w:List Int)(m:Nat):List Int:=w.set (m / 64) (Vc (w.getD (m / 64) 0) (IntKind.u64.wrap (1*2 ^ (min (m % 64) 64))))
def ES(w:List Int)(n:Int):List Int:=if 0<=n then H0 w n.toNat else w
def y0(w v:List Int):Nat->List Int
 |0=>w
 |k+1=>(y0 w v k).set k (Bk ((y0 w v k).getD k 0) (v.getD k 0))
def agM(w v:List Int):List Int:=y0 w v 19
@[simp] theorem aoi (w : List Int) (m : Nat) : (H0 w m).length = w.length := by simp [H0]
@[simp] theorem aoj (w : List Int) (n : Int) : (ES w n).length = w.length := by unfold ES; split <;> simp
@[simp] theorem Qk (w v : List Int) : ∀ k, (y0 w v k).length = w.length
 |0=>rfl
 |k+1=>by simp[y0,Qk w v k]
@[simp] theorem aok (w v : List Int) : (agM w v).length = w.length := Qk w v 19
def gv(x:End):List Int:=if x.kind≠3/\x.kind≠4 then [x.to] else []
def oB(x:End):List Int:=if x.kind=2\/x.kind=8 then gv x++[x.gF] else gv x
def dC(x:End)(k:Nat):List Int:=oB x++(x.aL.take k).map (·.to)
def dW(x:End):List Int:=if 0<=x.cX then dC x x.aL.length++[x.cX] else dC x x.aL.length
theorem Rh{x:End}{k:Nat}{w:kS}(h:x.aL[k]? =some w):dC x (k+1)=dC x k++[w.to]:=by
 unfold dC;rw[List.take_add_one,h,List.map_append,List.append_assoc];rfl
theorem DX(x:End):(oB x).length<=2:=by unfold oB gv;repeat' split<;>simp
theorem DF(x:End):(dW x).length<=x.aL.length+3:=by
 have:=DX x;unfold dW dC;split<;>simp<;>omega
end Go.Argus
end
namespace Go.Argus
open Go Go.Abs
theorem YX(v:BitVec 64)(i:Nat):(IntKind.u64.wrap (v.toNat:Int)).toNat.testBit i=v.getLsbD i:=by
 rw[wrap_u64 v.isLt,bN,BitVec.testBit_toNat]
theorem Jr{a:Int}(ha:eN a)(i:Nat):(BitVec.ofInt 64 a).getLsbD i=a.toNat.testBit i:=by
 obtain⟨n,rfl⟩:=cU ha.1;have h:=ha.2;rw[<- BitVec.testBit_toNat,BitVec.toNat_ofInt];congr 1;omega
theorem aiM{a b:Int}(ha:eN a)(hb:eN b)(i:Nat):(Bk a b).toNat.testBit i=(a.toNat.testBit i||b.toNat.testBit i):=by
 have:Bk a b=IntKind.u64.wrap (((BitVec.ofInt 64 a||| BitVec.ofInt 64 b).toNat:Nat):Int):=rfl;rw[this,YX,BitVec.getLsbD_or,Jr ha,Jr hb]
theorem T8{a b:Int}(ha:eN a)(hb:eN b)(i:Nat):(rk a b).toNat.testBit i=(a.toNat.testBit i&&b.toNat.testBit i):=by
 have:rk a b=IntKind.u64.wrap (((BitVec.ofInt 64 a&&& BitVec.ofInt 64 b).toNat:Nat):Int):=rfl;rw[this,YX,BitVec.getLsbD_and,Jr ha,Jr hb]
theorem J9(v:BitVec 64):eN (IntKind.u64.wrap (v.toNat:Int)):=by
 rw[wrap_u64 v.isLt];have:=v.isLt;unfold eN;omega
theorem aat(a b:Int):eN (Vc a b):=J9 (BitVec.ofInt 64 a&&& ~~~ BitVec.ofInt 64 b)
theorem QI(a b:Int):eN (Bk a b):=J9 (BitVec.ofInt 64 a||| BitVec.ofInt 64 b)
theorem aes{k:Nat}(hk:k<64):IntKind.u64.wrap (1*2 ^ (min k 64))=((2 ^ k:Nat):Int):=by
 have h1:min k 64=k:=by omega
 have h2:(2:Nat) ^ k<2 ^ 64:=Nat.pow_lt_pow_right oG hk;rw[h1,Int.one_mul, <- wrap_u64 h2]
 norm_cast
def eR(w:List Int)(r:Nat):Bool:=(w.getD (r / 64) 0).toNat.testBit (r % 64)
def gl(w:List Int):Prop:=∀ u∈w,eN u
theorem gl.get{w:List Int}(h:gl w)(i:Nat):eN (w.getD i 0):=by
 rw[bl];cases hx:w[i]? with
 |none=>exact⟨oS,oS⟩
 |some u=>exact h u (bU hx)
theorem adi{k:Nat}(hk:k<64):eN ((2 ^ k:Nat):Int):=by
 have h2:(2:Nat) ^ k<2 ^ 64:=Nat.pow_lt_pow_right oG hk;generalize (2:Nat) ^ k=z at h2;unfold eN;omega
theorem Ae{w:List Int}(h:gl w)(m:Nat):kT w m=eR w m:=by
 have C:=h.get (m / 64);unfold kT eR;generalize w.getD (m / 64) 0=u at C;have hk:min (m % 64) 64=m % 64:=by omega
 rw[hk];obtain⟨n,rfl⟩:=cU C.1
 have e:((n:Int).fdiv (2 ^ (m % 64)))=((n / 2 ^ (m % 64):Nat):Int):=by
  rw[Int.fdiv_eq_ediv_of_nonneg _ (Int.le_of_lt (Int.pow_pos oG)),Int.natCast_ediv,Int.natCast_pow];rfl
 rw[e];have hd:n / 2 ^ (m % 64)<=n:=Nat.div_le_self _ _
 have hq:eN ((n / 2 ^ (m % 64):Nat):Int):=by
  have:=C.2;revert hd;generalize n / 2 ^ (m % 64)=z;intro hd;unfold eN;omega
 have h1:eN 1:=by unfold eN;omega
 have hb:∀ i,(rk ((n / 2 ^ (m % 64):Nat):Int) 1).toNat.testBit i=(n.testBit (m % 64)&&decide (i=0)):=fun i=>by
  rw[T8 hq h1,bN];by_cases hi:i=0
  .subst hi;simp[Nat.testBit_eq_decide_div_mod_eq]
  .have:(1:Int).toNat.testBit i=false:=by
    show Nat.testBit 1 i=false;cases i with
    |zero=>omega
    |succ j=>simp[Nat.testBit_succ]
   rw[this];simp[hi]
 have hp:eN (rk ((n / 2 ^ (m % 64):Nat):Int) 1):=J9 (BitVec.ofInt 64 _&&& BitVec.ofInt 64 1);generalize rk ((n / 2 ^ (m % 64):Nat):Int) 1=z at hb hp;obtain⟨q,rfl⟩:=cU hp.1;simp only[bN] at hb ⊢;cases hn:n.testBit (m % 64) with
 |false=>
  have:q=0:=Nat.eq_of_testBit_eq fun i=>by rw[hb i,hn];simp
  subst this;rfl
 |true=>
  have:q=1:=Nat.eq_of_testBit_eq fun i=>by
   rw[hb i,hn];cases i with
   |zero=>simp
   |succ j=>simp[Nat.testBit_succ]
  subst this;rfl
theorem SU{w:List Int}{i:Nat}{u:Int}(hi:i<w.length)(r:Nat):eR (w.set i u) r=if r / 64=i then u.toNat.testBit (r % 64) else eR w r:=by
 unfold eR;simp only[bl,List.getElem?_set];split
 .rename_i h;subst h;simp[hi]
 .rename_i h;rw[if_neg fun e=>h e.symm]
theorem KB{w:List Int}(h:gl w){m:Nat}(hm:m / 64<w.length)(r:Nat):eR (wP w m) r=(eR w r||decide (r=m)):=by
 have hk:m % 64<64:=by omega
 unfold wP;rw[aes hk,SU hm];split
 .rename_i e;rw[aiM (h.get _) (adi hk),bN,Nat.testBit_two_pow,eR,e];congr 1;apply decide_eq_decide.2;omega
 .rename_i e;have:¬ r=m:=fun h=>e (by rw[h]);simp[this]
theorem gl.set{w:List Int}(h:gl w){i:Nat}{u:Int}(C:eN u):gl (w.set i u):=fun x hx=>by
 rcases List.mem_or_eq_of_mem_set hx with h1|h1
 .exact h x h1
 .subst h1;exact C
theorem gl.with{w:List Int}(h:gl w)(m:Nat):gl (wP w m):=h.set (QI _ _)
theorem gl.less{w:List Int}(h:gl w)(m:Nat):gl (H0 w m):=h.set (aat _ _)
theorem gl.ES{w:List Int}(h:gl w)(n:Int):gl (ES w n):=by
 unfold Argus.ES;split
 .exact h.less _
 .exact h
theorem gl.y0{w v:List Int}(h:gl w):∀ k,gl (y0 w v k)
 |0=>h
 |k+1=>(gl.y0 h k).set (QI _ _)
theorem QH{w v:List Int}(h:gl w)(hv:gl v)(hl:w.length=v.length)(he:∀ r,eR w r=eR v r):w=v:=by
 apply List.ext_getElem hl;intro i h1 h2;have e1:w.getD i 0=w[i]:=by simp[bl,aN h1]
 have e2:v.getD i 0=v[i]:=by simp[bl,aN h2]
 have a:=h w[i] oS;have b:=hv v[i] oS
 have:w[i].toNat=v[i].toNat:=Nat.eq_of_testBit_eq fun k=>by
  by_cases hk:k<64
  .have:=he (i*64+k);unfold eR at this;rw[show(i*64+k) / 64=i by omega,show(i*64+k) % 64=k by omega,e1,e2] at this;exact this
  .have h2:2 ^ 64<=2 ^ k:=Nat.pow_le_pow_right oG oG;unfold eN at a b;rw[Nat.testBit_lt_two_pow oG,Nat.testBit_lt_two_pow oG]
 unfold eN at a b;omega
theorem adb(n r:Nat):eR (replicate n 0) r=false:=by
 unfold eR;rw[bl,List.getElem?_replicate];split<;>simp
section
variable(beh:Nat->List Int)(alV:Nat->Bool->Int)(ent:Nat->Nat->Int)
variable{beh alV ent}{akK:Nat->Bool}{wIn:Nat->Bool->Bool}
end
def y4(s:List Bool)(c:Int):Bool:=s.getD c.toNat false
def eO(beh:Nat->List Int)(w:Int):Nat->List Bool×List Int->Nat->List Bool×List Int
 |0,s,_=>s
 |k+1,s,b=>
  let r:=(beh b).foldl (fun s c=>if y4 s.1 c=false/\c≠w then eO beh w k s c.toNat else s) (s.1.set b true,s.2)
  (r.1,r.2++[(b:Int)])
def dZ(beh:Nat->List Int)(w:Int)(k:Nat)(s:List Bool×List Int)(l:List Int):List Bool×List Int:=
 l.foldl (fun s c=>if y4 s.1 c=false/\c≠w then eO beh w k s c.toNat else s) s
theorem wl(beh:Nat->List Int)(w:Int)(k:Nat)(s:List Bool×List Int)(b:Nat):
 eO beh w (k+1) s b=((dZ beh w k (s.1.set b true,s.2) (beh b)).1,(dZ beh w k (s.1.set b true,s.2) (beh b)).2++[(b:Int)]):=rfl
theorem GP(beh:Nat->List Int)(w:Int)(k:Nat)(s:List Bool×List Int)(l:List Int)(c:Int):
 dZ beh w k s (l++[c])=(if y4 (dZ beh w k s l).1 c=false/\c≠w then eO beh w k (dZ beh w k s l) c.toNat else dZ beh w k s l):=by
 rw[dZ,List.foldl_append];rfl
theorem Hm{α:Type}{p:List α->Prop}(h0:p [])(h1:∀ l a,p l->p (l++[a]))(l:List α):p l:=by
 have h:∀ l:List α,p l.reverse:=fun l=>by
  induction l with
  |nil=>exact h0
  |cons a l ih=>rw[List.reverse_cons];exact h1 _ _ ih
 have:=h l.reverse
 rwa[List.reverse_reverse] at this
theorem Jw{l:List Bool}{b:Nat}:(l.set b true).count false<=l.count false:=by
 induction l generalizing b with
 |nil=>simp
 |cons x l ih=>
  cases b with
  |zero=>cases x<;>simp
  |succ b=>simp only[List.set_cons_succ,List.count_cons];have:=ih (b:=b);omega
theorem yr{l:List Bool}{b:Nat}(h:l[b]? =some false):(l.set b true).count false+1=l.count false:=by
 induction l generalizing b with
 |nil=>simp at h
 |cons x l ih=>
  cases b with
  |zero=>simp at h;subst h;simp
  |succ b=>simp only[List.set_cons_succ,List.count_cons];have:=ih (b:=b) (by simpa using h);omega
structure vL(beh:Nat->List Int)(w:Int)(s s':List Bool×List Int):Prop where
 len:s'.1.length=s.1.length
 cnt:s'.1.count false<=s.1.count false
 mono:∀ i,s.1.getD i false=true->s'.1.getD i false=true
 out:∃ l:List Int,s'.2=s.2++l/\l.Nodup/\∀ x,x∈l↔0<=x/\s'.1.getD x.toNat false=true/\s.1.getD x.toNat false=false
theorem vL.refl{beh:Nat->List Int}{w:Int}(s:List Bool×List Int):vL beh w s s:=⟨rfl,bF _,fun _ h=>h,[],oS,List.nodup_nil,fun x=>by
 constructor
 .intro h;simp at h
 .rintro⟨_,h1,h2⟩;rw[h1] at h2;cases h2⟩
theorem vL.trans{beh:Nat->List Int}{w:Int}{s t u:List Bool×List Int}(h1:vL beh w s t)(h2:vL beh w t u):vL beh w s u:=by
 refine⟨h2.len.trans h1.len,Nat.le_trans h2.cnt h1.cnt,fun i h=>h2.mono i (h1.mono i h),?_⟩;obtain⟨M,a1,b1,C⟩:=h1.out;obtain⟨X,a2,b2,J⟩:=h2.out;refine⟨M++X,by rw[a2,a1,List.append_assoc],?_,fun x=>?_⟩
 .rw[List.nodup_append];refine⟨b1,b2,fun a ha b hb e=>?_⟩;subst e;have:=((C a).1 ha).2.1;rw[((J a).1 hb).2.2] at this;cases this
 .rw[List.mem_append,C,J];constructor
  .rintro(⟨h0,h,h'⟩|⟨h0,h,h'⟩)
   .exact⟨h0,h2.mono _ h,h'⟩
   .refine⟨h0,h,?_⟩;cases hs:s.1.getD x.toNat false with
    |false=>rfl
    |true=>rw[h1.mono _ hs] at h';cases h'
  .rintro⟨h0,h,h'⟩;cases ht:t.1.getD x.toNat false with
   |true=>exact .inl ⟨h0,rfl,h'⟩
   |false=>exact .inr ⟨h0,h,rfl⟩
theorem getD_set_true{l:List Bool}{b i:Nat}(hb:b<l.length):(l.set b true).getD i false=(decide (i=b)||l.getD i false):=by
 simp only[bl,List.getElem?_set];split
 .rename_i h;subst h;simp[hb]
 .rename_i h;have:¬ i=b:=fun e=>h e.symm;simp[this]
section
variable{beh:Nat->List Int}{w:Int}{n:Nat}(hb:∀ b,∀ c∈beh b,0<=c/\c.toNat<n)
theorem yv{l:List Bool}{c:Nat}(h:l.getD c false=false)(hc:c<l.length):l[c]? =some false:=by
 rw[bl,aN hc] at h;rw[aN hc];simpa using h
include hb in
theorem RG:∀ (k:Nat) (s:List Bool×List Int) (b:Nat),s.1.length=n->b<n->s.1.count false<=k->s.1.getD b false=false->
 vL beh w s (eO beh w k s b)/\(eO beh w k s b).1.getD b false=true/\
 (∀ x,(eO beh w k s b).1.getD x false=true->s.1.getD x false=false->∀ c∈beh x,c≠w->(eO beh w k s b).1.getD c.toNat false=true)
 |0,s,b,hn,pC,hk,hs=>by
  have:=yr (yv hs oG);omega
 |k+1,s,b,hn,pC,hk,hs=>by
  have h0:vL beh w s (s.1.set b true,s.2++[(b:Int)]):=by
   refine⟨oS,Jw,fun i h=>?_,[(b:Int)],rfl,oS,fun x=>?_⟩
   .simp only;rw[getD_set_true oG,h,Bool.or_true]
   .simp only[getD_set_true (show b<s.1.length by omega),List.mem_singleton];constructor
    .rintro rfl;simp[<- List.getD_eq_getElem?_getD,hs]
    .rintro⟨h1,h2,h3⟩;rw[h3,Bool.or_false,decide_eq_true_eq] at h2;omega
  have hF:∀ l:List Int,(∀ c∈l,0<=c/\c.toNat<n)->∀ o,let r:=dZ beh w k (s.1.set b true,o) l
   vL beh w (s.1.set b true,o) r/\(∀ c∈l,c≠w->r.1.getD c.toNat false=true)/\
   (∀ x,r.1.getD x false=true->(s.1.set b true).getD x false=false->∀ c∈beh x,c≠w->r.1.getD c.toNat false=true):=by
   intro l
   induction l using Hm with
   |h0=>intro _ o;exact⟨.refl _,fun c h=>by simp at h,fun x h h'=>by rw[show(dZ beh w k (s.1.set b true,o) []).1=s.1.set b true from rfl,h'] at h;cases h⟩
   |h1 l c ih=>
    intro hl o;obtain⟨C,X,g3⟩:=ih (fun c h=>hl c (by simp[h])) o;simp only;rw[GP];generalize dZ beh w k (s.1.set b true,o) l=t at C X g3;have hc:=hl c oS;have cJ:t.1.length=n:=by rw[C.len];simp[hn]
    split
    .rename_i sT;have sS:t.1.getD c.toNat false=false:=sT.1
     have Fa:t.1.count false<=k:=by
      have a1:=C.cnt;have a2:=yr (yv hs oG);simp only at a1;omega
     obtain⟨q1,q2,q3⟩:=RG k t c.toNat cJ hc.2 Fa sS;refine⟨C.trans q1,fun M h' J=>?_,fun x h1 h2 M CY J=>?_⟩
     .rw[List.mem_append] at h';rcases h' with h'|h'
      .exact q1.mono _ (X M h' J)
      .simp at h';subst h';exact q2
     .cases ht:t.1.getD x false with
      |true=>exact q1.mono _ (g3 x ht h2 M CY J)
      |false=>exact q3 x h1 ht M CY J
    .rename_i sT;refine⟨C,fun M h' J=>?_,g3⟩;rw[List.mem_append] at h';rcases h' with h'|h'
     .exact X M h' J
     .simp at h';subst h';cases ht:t.1.getD M.toNat false with
      |true=>rfl
      |false=>exact absurd ⟨ht,J⟩ sT
  rw[wl];obtain⟨C,X,g3⟩:=hF (beh b) (hb b) s.2;generalize dZ beh w k (s.1.set b true,s.2) (beh b)=t at C X g3;have jv:t.1.getD b false=true:=C.mono b (by simp only;rw[getD_set_true oG];simp);refine⟨⟨by have:=C.len;simp at this;exact this,Nat.le_trans C.cnt Jw,fun i h=>C.mono i (by simp only;rw[getD_set_true oG,h,Bool.or_true]),?_⟩,jv,fun x h1 h2 c hc J=>?_⟩
  .obtain⟨l,e,nd,hm⟩:=C.out;simp only at e hm;refine⟨l++[(b:Int)],by simp only;rw[e,List.append_assoc],?_,fun x=>?_⟩
   .rw[List.nodup_append];refine⟨nd,oS,fun a ha b' kX e=>?_⟩;simp at kX;subst kX e;have:=((hm _).1 ha).2.2;rw[getD_set_true oG] at this;simp at this
   .rw[List.mem_append,hm,getD_set_true oG,List.mem_singleton];simp only;constructor
    .rintro(⟨h0,h1,h2⟩|rfl)
     .simp only[Bool.or_eq_false_iff] at h2;exact⟨h0,h1,h2.2⟩
     .exact⟨oG,by simpa using jv,by simpa using hs⟩
    .rintro⟨h0,h1,h2⟩;by_cases hx:x=(b:Int)
     .exact .inr hx
     .refine .inl ⟨h0,h1,?_⟩;rw[h2];have:¬ x.toNat=b:=by omega
      simp[this]
  .simp only at h1 ⊢;by_cases hx:x=b
   .subst hx;exact X c hc J
   .exact g3 x h1 (by rw[getD_set_true oG,h2];simp[hx]) c hc J
end
def cO(beh:Nat->List Int)(n:Nat)(w:Int):List Bool:=if w=0 then replicate n false else(eO beh w n (replicate n false,[]) 0).1
def cS(beh:Nat->List Int)(n:Nat):List Int:=(eO beh (-1) n (replicate n false,[]) 0).2.reverse
section
variable{beh:Nat->List Int}{n:Nat}(hb:∀ b,∀ c∈beh b,0<=c/\c.toNat<n)(hn:0<n)
include hb hn
theorem Fo(w:Int):vL beh w (replicate n false,[]) (eO beh w n (replicate n false,[]) 0)/\(eO beh w n (replicate n false,[]) 0).1.getD 0 false=true/\
 (∀ x,(eO beh w n (replicate n false,[]) 0).1.getD x false=true->∀ c∈beh x,c≠w->(eO beh w n (replicate n false,[]) 0).1.getD c.toNat false=true):=by
 have C:∀ i,(replicate n false).getD i false=false:=fun i=>by
  rw[bl,List.getElem?_replicate];split<;>rfl
 obtain⟨h1,h2,h3⟩:=RG (w:=w) hb n (replicate n false,[]) 0 oS hn oS (C 0);exact⟨h1,h2,fun x hx=>h3 x hx (C x)⟩
theorem wk(w:Int):(cO beh n w).length=n:=by
 unfold cO;split
 .simp
 .rw[(Fo hb hn w).1.len];simp
theorem J3{x:Int}:x∈cS beh n↔0<=x/\(cO beh n (-1)).getD x.toNat false=true:=by
 obtain⟨h1,_,_⟩:=Fo hb hn (-1);obtain⟨l,e,_,hm⟩:=h1.out;unfold cS cO;rw[if_neg oG,List.mem_reverse,e];simp only[List.nil_append];rw[hm]
 have C:(replicate n false).getD x.toNat false=false:=by
  rw[bl,List.getElem?_replicate];split<;>rfl
 simp only[C,and_true]
theorem JF:(cS beh n).Nodup:=by
 obtain⟨h1,_,_⟩:=Fo hb hn (-1);obtain⟨l,e,nd,_⟩:=h1.out;unfold cS;rw[e];exact List.pairwise_reverse.2 (nd.imp fun h e=>h e.symm)
theorem Pj{x:Nat}(hx:(cO beh n (-1)).getD x false=true):∀ c∈beh x,(cO beh n (-1)).getD c.toNat false=true:=by
 obtain⟨_,_,h3⟩:=Fo hb hn (-1);unfold cO at hx ⊢;rw[if_neg oG] at hx ⊢;intro c hc;exact h3 x hx c hc (by have:=hb x c hc;omega)
end
end Go.Argus
section
open Go Go.Abs Go.Proofs Go.Argus
namespace Go.Proofs.Tryz.K
def zW(x:Argus.End)(l:List Int)(s:St):Prop:=∃ r m nx,r<nx/\m r=some (.cells (l.map I) 3)/\Ghost prog s ⟨aD [(1,.pt (bh x)),(3,.rs r 0 l.length)],m,nx⟩
theorem E'{x:Argus.End}(hlen:x.aL.length<=100000):OCall prog 115 [.agg (bh x)] ((dW x).map I) (dW x).length 3:=by
 have a7:∀ a∈[D.agg (bh x)],Tr a:=.cons (.agg (lT x)) .nil;refine zK Vd a7 (.map fun _=>.s _) ?_;rw[agN];refine az (ag ?_);refine af (aW (bG [(0,bh x,69)] eH (l:=[(1,.pt (bh x))]) eH) (az (SS ?_)));refine af ⟨_,.nilrow _ _ _ 3 3 rfl,(eI (zW x (gv x)) (aj ?_) fun s hs=>?_)⟩
 .have yes:x.kind≠3/\x.kind≠4->gv x=[x.to]:=fun h=>by rw[gv,if_pos h]
  have no:¬ (x.kind≠3/\x.kind≠4)->gv x=[]:=fun h=>by rw[gv,if_neg h]
  have ax:up (fun _=>(none:Option Row)) 1 (some (.cells [] 3)) 1=some (.cells [] 3):=up_same _ _ _;by_cases h3:x.kind=3
  .have dv:(x.kind !=3)=false:=by simp[h3]
   refine aP ?_;(iterate 3 refine z fun _ _=>?_);refine SS ?_;refine af (aw rfl (fun h=>oH) fun h=>bd ?_);rw[no (by simp[h3])];exact⟨_,_,_,Nat.lt_succ_self _,up_same _ _ _,ap eH⟩
  .by_cases h4:x.kind=4
   .have dv:(x.kind !=3)=true:=by simp[h4]
    have Mh:(x.kind !=4)=false:=by simp[h4]
    refine bK ?_;refine af (aw rfl (fun h=>(by simp[h4] at h)) fun h=>bd ?_);rw[no (by simp[h4])];exact⟨_,_,_,Nat.lt_succ_self _,up_same _ _ _,ap eH⟩
   .have dv:(x.kind !=3)=true:=by simp[h3]
    have Mh:(x.kind !=4)=true:=by simp[h4]
    refine bK ?_;refine af (aw rfl (fun h=>?_) fun h=>(by simp[h4] at h));refine gB (bB ?_);refine af ?_;rw[yes ⟨h3,h4⟩];exact⟨_,_,_,Nat.lt_succ_self _,up_same _ _ _,ap eH⟩
 obtain⟨r,m,nx,hr,ax,hg⟩:=hs;refine⟨_,hg,eI (zW x (oB x)) (aj ?_) fun s hs=>?_⟩
 .have C:oB x=if x.kind=2\/x.kind=8 then gv x++[x.gF] else gv x:=rfl
  have J:(gv x).length<=1:=by unfold gv;split<;>simp
  generalize gv x=l at ax C J;have X:(l.map I).length=l.length:=by simp
  by_cases h2:x.kind=2\/x.kind=8
  .rw[if_pos h2] at C;refine bK ?_;refine af (aw rfl (fun h=>gB ?_) fun h=>(by rcases h2 with h2|h2<;>simp[h2] at h));refine bB ?_;refine af ?_;rw[C];refine⟨_,_,_,Nat.lt_succ_self _,(up_same _ _ _).trans (by rw[List.map_append];rfl),ap ⟨rfl,?_,trivial⟩⟩;show D.rs _ 0 _=D.rs _ 0 _;rw[List.length_append];rfl
  .rw[if_neg h2] at C;refine bK ?_;refine af (aw rfl (fun h=>(by exfalso;apply h2;revert h;by_cases e2:x.kind=2<;>by_cases e8:x.kind=8<;>simp[e2,e8])) fun h=>bd ?_);rw[C];exact⟨r,m,nx,hr,ax,ap eH⟩
 clear hg hr ax;obtain⟨r,m,nx,hr,ax,hg⟩:=hs;refine⟨_,hg,eI (zW x (dC x x.aL.length)) (az ?_) fun s hs=>?_⟩
 .refine aP ?_
  refine af (dV (α:=Nat×Nat×Mem×Nat) (fun s=>⟨aD [(1,.pt (bh x)),(3,.rs s.2.1 0 (dC x s.1).length),(33,qJ x.aL),(34,I x.aL.length),(35,I s.1)],s.2.2.1,s.2.2.2⟩)
   (fun s=>s.1<=x.aL.length/\s.2.1<s.2.2.2/\s.2.2.1 s.2.1=some (.cells ((dC x s.1).map I) 3)) (fun s=>x.aL.length - s.1) (0,r,m,nx) (ap ⟨rfl,?_,rfl,rfl,rfl,trivial⟩) ⟨Nat.zero_le _,hr,?_⟩ ?_)
  .show D.rs r 0 _=D.rs r 0 _;simp[dC]
  .show m r=_;rw[ax];simp[dC]
  clear hg hr ax;rintro⟨j,r,m,nx⟩ ⟨hj,hr,ax⟩;dsimp only at hj hr ax ⊢;refine SS ?_;refine af ⟨_,rfl,fun h=>?_,fun h=>?_⟩
  .have cV:j<x.aL.length:=by simpa using h
   have hy:x.aL[j]? =some x.aL[j]:=aN cV;generalize x.aL[j]=w at hy;have M:=Rh hy;have xR:(dC x (j+1)).length=(dC x j).length+1:=by rw[M];simp
   have X:((dC x j).map I).length=(dC x j).length:=by simp
   have J:(dC x j).length<=2+j:=by have:=DX x;unfold dC;simp;omega
   generalize dC x j=l at ax M X xR J;refine ws (aP ?_);refine af (fh (ag ?_));refine Wd ?_;refine SS ?_;refine vo (uX rfl (aC oG (aC oG (aC oG ax))) rfl V.h V.h (wm (up_same _ _ _) rfl) rfl) ak ⟨V.h,rfl,(by first|omega|exact bE rfl|(simp;done)|(simp;omega)),oC,(by first|rfl|(simp;done)|(simp;omega)),(by unfold maxLen;first|omega|(simp;omega)),(by rw[b3];first|omega|(simp;omega)),(by first|(simp;done)|(simp;omega))⟩ ?_;refine SS ?_;refine af (ag ?_);refine af (aK (j+1,nx+1+1,_,_) (ap ⟨rfl,?_,rfl,rfl,rfl,trivial⟩) ⟨oM,oM,?_⟩ oM)
   .show D.rs _ 0 _=D.rs _ 0 _;rw[xR]
   .dsimp only;rw[M,List.map_append];exact up_same _ _ _
  .have a9:¬ j<x.aL.length:=by simpa using h
   have:j=x.aL.length:=by omega
   subst this;exact⟨r,m,nx,hr,ax,ap eH⟩
 clear hg hr ax;obtain⟨r,m,nx,hr,ax,hg⟩:=hs;refine⟨_,hg,eI (zW x (dW x)) (aj ?_) fun s hs=>?_⟩
 .have hd:dW x=if 0<=x.cX then dC x x.aL.length++[x.cX] else dC x x.aL.length:=rfl
  have J:(dC x x.aL.length).length<=2+x.aL.length:=by have:=DX x;unfold dC;simp;omega
  generalize dC x x.aL.length=l at ax hd J;have X:(l.map I).length=l.length:=by simp
  refine aq ?_;refine af (aw rfl (fun h=>gB ?_) fun h=>bd ?_)
  .rw[if_pos (by simpa using h)] at hd;refine bB ?_;refine af ?_;rw[hd];refine⟨_,_,_,Nat.lt_succ_self _,(up_same _ _ _).trans (by rw[List.map_append];rfl),ap ⟨rfl,?_,trivial⟩⟩;show D.rs _ 0 _=D.rs _ 0 _;rw[List.length_append];rfl
  .rw[if_neg (by simpa using h)] at hd;rw[hd];exact⟨r,m,nx,hr,ax,ap eH⟩
 clear hg hr ax;obtain⟨r,m,nx,hr,ax,hg⟩:=hs;refine⟨_,hg,aj ?_⟩;refine ag ?_;exact af (av rfl ⟨r,rfl,ax⟩)
end Go.Proofs.Tryz.K
namespace Go.Abs
theorem Zl{P:Program}{Y:YSpec}{rf:Bool}{Q:Exit->St->Prop}{st:St}{b:Code}[eC Y](h:∃ st',Ghost P st st'/\AW P Y rf b Q st'):AW P Y rf (.seq .skip b) Q st:=by
 obtain⟨st',h1,h2⟩:=h;exact⟨st',h1,h2⟩
end Go.Abs
namespace Go.Argus
def bA(f:aG)(beh ahd:List (List Int))(c:D):List D:=[S f.name,B f.iter,I f.args,U8 f.result,lh f.al,lh f.aZ,r9 f.ac,gz f.ab,bx beh,bx ahd,c]
theorem J1{f:aG}{beh ahd:List (List Int)}{c:D}(hc:Tr c):∀ a∈bA f beh ahd c,Tr a:=.cons (.s _) (.cons (.s _) (.cons (.s _) (.cons (.s _) (.cons (r6 _) (.cons (r6 _) (.cons (Ag _) (.cons (GO _) (.cons (yz _) (.cons (yz _) (.cons hc .nil))))))))))
theorem Ab{f:aG}{beh ahd:List (List Int)}{c:D}(hc:Tr c):Tr (.pt (bA f beh ahd c)):=.pt (J1 hc)
@[simp] theorem an8 (f : aG) (beh ahd : List (List Int)) (c : D) : (bA f beh ahd c).length = 11 := rfl
def ET(x:b7):List bC:=x.ins.takeWhile cr
def eQ(l:List Int)(x:Int):Bool:=l.any fun y=>x==y
theorem tg{l:List Int}{x:Int}:eQ l x=true↔x∈l:=by simp[eQ]
def ae8(A:List Int)(a:Int)(x:b7):List Int:=(ET x).map fun y=>y.args.getD (oc (fun y=>a==y) A).toNat 0
def akJ(b:Int)(l:List Int):Nat:=l.countP fun y=>y==b
def ae9(x:End)(b:Int):Bool:=if((akJ b (dW x):Int)==1)=true then x.to==b else false
def Ha(x:End)(b:Int):Int:=if ae9 x b=true then eT x else -1
def akK(y:b7)(r:Int):Bool:=(ET y).any fun z=>z.to==r
def nI(n:Nat)(b:Int):Bool:=if decide (0<=b)=true then decide (b<(n:Int)) else false
theorem yu{n:Nat}{b:Int}:nI n b=true↔0<=b/\b<n:=by unfold nI;split<;>simp_all;omega
end Go.Argus
namespace Go.Proofs.Tryz.K
theorem M8{l:List Int}{v:Int}:PCall prog 110 [au l,I v] (I (oc (fun y=>v==y) l)):=by
 refine mJ Mi.he (.cons (cL _) (.cons (.s _) .nil)) fun C=>?_;have hlen:=(C (au l) oS).sl.1;unfold maxLen at hlen;refine bg Mi (.cons (cL _) (.cons (.s _) .nil)) (Tr.s _) ?_;rw[agO];refine ws (SS ?_);refine af (aB (az (aq ?_)))
 refine af (bR (fun s=>Ghost prog s ⟨aD [],fun _=>none,0⟩/\∀ (j:Nat) y,l[j]? =some y->(v==y)=false) (dV (α:=Nat) (fun k=>⟨aD [(0,au l),(1,I v),(7,I l.length),(8,I k)],fun _=>none,0⟩)
  (fun k=>k<=l.length/\∀ j y,j<k->l[j]? =some y->(v==y)=false) (fun k=>l.length - k) 0 (ap eH) ⟨oG,fun j y hj=>by omega⟩ ?_) ?_)
 .rintro k ⟨hk,hinv⟩;refine SS ?_;refine af ⟨_,rfl,fun h=>?_,fun h=>?_⟩
  .have ao:k<l.length:=by simpa using h
   have hx:l[k]? =some l[k]:=by simp[ao]
   generalize l[k]=x at hx;refine ws (ag ?_);refine er (bB ?_);refine af (aw rfl (fun hp=>?_) fun hp=>?_)
   .refine ws (ag ?_);refine af (aY (br (aR (av rfl ?_))));rw[DD hx hp hinv];rfl
   .refine bS (ag ?_);refine af (aK (k+1) (ap eH) ⟨oG,fun j y hj hy=>?_⟩ oG);by_cases e:j=k
    .subst e;rw[hx] at hy;cases hy;exact hp
    .exact hinv j y oG hy
  .have M:¬ k<l.length:=by simpa using h
   exact⟨.forget _ _ _ _ fun _=>.inr rfl,fun j y hy=>hinv j y (by have:=(bw.1 hy).1;omega) hy⟩
 .rintro s ⟨hg,J⟩;refine⟨_,hg,aj ?_⟩;refine SS ?_;refine af (av rfl ?_);rw[DE J];rfl
theorem k8{l:List Int}{v:Int}:PCall prog 54 [au l,I v] (B (eQ l v)):=by
 have M8:=M8 (l:=l) (v:=v);refine bg W6 (.cons (cL _) (.cons (.s _) .nil)) (Tr.s _) ?_;rw[akL];refine ws (SS ?_);refine er (ag ?_);refine cl M8 (ag ?_);refine af (av (d:=.s (.bool _)) rfl ?_);rw[eQ, <- DM]
section
variable{f:aG}{beh ahd:List (List Int)}{c:D}(hc:Tr c)(gg:c.one=true)
include hc gg
theorem qv{b:Int}:PCall prog 69 [.pt (bA f beh ahd c),I b] (B (nI f.ab.length b)):=by
 have _:=gg;refine bg W7 (.cons (Ab hc) (.cons (.s _) .nil)) (Tr.s _) ?_;rw[akM];refine ws (SS ?_);refine er (aJ ?_);refine aP ?_;refine af (av (d:=.s (.bool _)) rfl ?_);simp[nI]
end
section
variable{f:aG}{beh ahd:List (List Int)}{c:D}(hc:Tr c)(gg:c.one=true)
include hc gg
end
end Go.Proofs.Tryz.K
end
