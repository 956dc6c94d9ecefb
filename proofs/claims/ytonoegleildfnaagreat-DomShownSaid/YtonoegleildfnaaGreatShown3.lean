/- Part 3 of the proof; the last part says what is proved. -/
import Derived.Test.YtonoegleildfnaaGreatShown2
import Derived.Below
import Derived.Carry
import Derived.ChangeOld
import Derived.OpenShut
namespace Go.Abs
open Go.Argus
class V{α:Type}(x:α)(y:outParam α):Prop where h:x=y
section
variable{P:Program}{Y:YSpec}{ops:Array Oper}{dr:Bool}{cf:List (Nat×Nat)}{Q:Exit->St->Prop}{r:List Oper}{v:Env}{m:Mem}{n:Nat}{q:Tra}{x:Oper}{s:St}{e:List Nat×List Nat}
variable{t:Option Nat}{u:Nat}{ty:TypeId}{pos:String}{after:Array Edge}{j:Nat}{b c:Bool}{op:Op}
def SO(P:Program)(Y:YSpec)(ops:Array Oper)(dr:Bool)(o:Oper)(v:Env)(m:Mem)(n:Nat)(s:St)(e:List Nat×List Nat):Prop:=
 ∀ cf Q r q,AOps P Y ops dr cf Q r s (q++[e])->AOps P Y ops dr cf Q (o::r) ⟨v,m,n⟩ q
theorem ak{l:List Operand}(h:eZ v l:=by repeat' (first|exact trivial|exact hc|exact rfl|refine And.intro ?_ ?_)):eZ v l:=h
theorem z(K:∀ (x:D) rd,AOps P Y ops dr cf Q r (St.put ⟨v,m,n⟩ t (.opt false x)) (q++[(rd,[])]))(hj:(ops[j]?).bind (·.dst)=some u:=by exact rfl)(hg:guardC (v u) b=some false:=by exact rfl):
 AOps P Y ops dr cf Q (⟨t,op,ty,pos,after,some (j,b)⟩::r) ⟨v,m,n⟩ q:=ML hj hg K
theorem cl{f:FuncId}{gs:List D}{d:D}{t:Nat}(h:PCall P f gs d)(K:AOps P Y ops dr cf Q r ⟨up v t d,m,n⟩ (q++[([],[])]))(hc:callD (rho v op) op=some (f,gs):=by exact rfl)(ha:eZ v op.operands.toList:=by exact ak):
 AOps P Y ops dr cf Q (⟨some t,op,ty,pos,after,none⟩::r) ⟨v,m,n⟩ q:=Xn h hc ha K
theorem gc{f:FuncId}{gs:List D}{d:D}{t:Nat}(h:PCall P f gs d)(K:AOps P Y ops dr cf Q r ⟨up v t (.opt c d),m,n⟩ (q++[([],[])]))(hj:(ops[j]?).bind (·.dst)=some u:=by exact rfl)(hg:guardC (v u) b=some c:=by exact rfl)(hl:callD (rho v op) op=some (f,gs):=by exact rfl)(ha:c=true->eZ v op.operands.toList:=by exact fun hc=>ak):
 AOps P Y ops dr cf Q (⟨some t,op,ty,pos,after,some (j,b)⟩::r) ⟨v,m,n⟩ q:=ud hj hg hl (fun hc=>⟨ha hc,h⟩) K
theorem J32(K:AOps P Y ops dr cf Q r s (q++[e]))(h:SO P Y ops dr x v m n s e:=by intro _ _ _ _ k;exact aT rfl rfl (je (vs:=w9 _ _) rfl V.h V.h rfl) (fun hc=>⟨ak,(jf V.h V.h (by simp))⟩) k):AOps P Y ops dr cf Q (x::r) ⟨v,m,n⟩ q:=h _ _ _ _ K
theorem J74(K:AOps P Y ops dr cf Q r s (q++[e]))(h:SO P Y ops dr x v m n s e:=by intro _ _ _ _ k;exact aT rfl rfl (je (vs:=aX _) rfl V.h V.h rfl) (fun hc=>⟨ak,(jf V.h V.h (by simp))⟩) k):AOps P Y ops dr cf Q (x::r) ⟨v,m,n⟩ q:=h _ _ _ _ K
theorem QM(K:AOps P Y ops dr cf Q r s (q++[e]))(h:SO P Y ops dr x v m n s e:=by intro _ _ _ _ k;exact au (df rfl rfl V.h V.h rfl) ak (dg V.h V.h (by first|(simp;done)|omega|exact aP rfl)) k):AOps P Y ops dr cf Q (x::r) ⟨v,m,n⟩ q:=h _ _ _ _ K
theorem Rm(K:AOps P Y ops dr cf Q r s (q++[e]))(h:SO P Y ops dr x v m n s e:=by intro _ _ _ _ k;exact aT rfl rfl (yW rfl rfl gL) (fun hc=>⟨ak,rfl⟩) k):AOps P Y ops dr cf Q (x::r) ⟨v,m,n⟩ q:=h _ _ _ _ K
theorem Q4(K:AOps P Y ops dr cf Q r s (q++[e]))(h:SO P Y ops dr x v m n s e:=by intro _ _ _ _ k;exact sH (r5 rfl (al oG aj) rfl V.h V.h (rH (up_same _ _ _) rfl) rfl) ak ⟨V.h,rfl,(by first|omega|exact aP rfl|(simp;done)|(simp;omega)),(by decide),(by first|rfl|(simp;done)|(simp;omega)),(by unfold maxLen;first|omega|(simp;omega)),(by rw[b3];first|omega|(simp;omega)),(by first|(simp;done)|(simp;omega))⟩ k):AOps P Y ops dr cf Q (x::r) ⟨v,m,n⟩ q:=h _ _ _ _ K
theorem QP(K:AOps P Y ops dr cf Q r s (q++[e]))(h:SO P Y ops dr x v m n s e:=by intro _ _ _ _ k;exact au (nz (v:=.z) rfl rfl) ak (by first|decide|simp) k):AOps P Y ops dr cf Q (x::r) ⟨v,m,n⟩ q:=h _ _ _ _ K
theorem aff(K:AOps P Y ops dr cf Q r s (q++[e]))(h:SO P Y ops dr x v m n s e:=by intro _ _ _ _ k;exact aT rfl rfl (Fb rfl rfl) (fun hc=>⟨ak,rfl⟩) k):AOps P Y ops dr cf Q (x::r) ⟨v,m,n⟩ q:=h _ _ _ _ K
theorem afg(K:AOps P Y ops dr cf Q r s (q++[e]))(h:SO P Y ops dr x v m n s e:=by intro _ _ _ _ k;exact au (je (vs:=w9 _ _) rfl V.h V.h rfl) ak (jf V.h V.h (by simp)) k):AOps P Y ops dr cf Q (x::r) ⟨v,m,n⟩ q:=h _ _ _ _ K
theorem PY(K:AOps P Y ops dr cf Q r s (q++[e]))(h:SO P Y ops dr x v m n s e:=by intro _ _ _ _ k;exact sH (r5 rfl rfl rfl V.h V.h (TZ PX) rfl) ak ⟨V.h,rfl,(by first|omega|exact aP rfl|(simp;done)|(simp;omega)),(by decide),(by first|rfl|(simp;done)|(simp;omega)),(by unfold maxLen;first|omega|(simp;omega)),(by rw[b3];first|omega|(simp;omega)),(by first|(simp;done)|(simp;omega))⟩ k):AOps P Y ops dr cf Q (x::r) ⟨v,m,n⟩ q:=h _ _ _ _ K
theorem OC(K:AOps P Y ops dr cf Q r s (q++[e]))(h:SO P Y ops dr x v m n s e:=by intro _ _ _ _ k;exact au (L9 rfl rfl zv) ak rfl k):AOps P Y ops dr cf Q (x::r) ⟨v,m,n⟩ q:=h _ _ _ _ K
theorem aa2(K:AOps P Y ops dr cf Q r s (q++[e]))(h:SO P Y ops dr x v m n s e:=by intro _ _ _ _ k;exact bB (dC (d:=.s (.bool _)) (cs':=_) rfl rfl rfl rfl rfl) ak (cF V.h V.h (by first|(simp;done)|exact⟨rfl,aP rfl⟩|(simp;omega)) rfl) k):AOps P Y ops dr cf Q (x::r) ⟨v,m,n⟩ q:=h _ _ _ _ K
theorem afh(K:AOps P Y ops dr cf Q r s (q++[e]))(h:SO P Y ops dr x v m n s e:=by intro _ _ _ _ k;exact fa (qd (cs:=w9 _ _) rfl) ak (by first|rfl|exact pX dz dY|exact iM _|exact qm ka) k):AOps P Y ops dr cf Q (x::r) ⟨v,m,n⟩ q:=h _ _ _ _ K
theorem afi(K:AOps P Y ops dr cf Q r s (q++[e]))(h:SO P Y ops dr x v m n s e:=by intro _ _ _ _ k;exact aT rfl rfl (tZ rfl rfl V.h V.h (AT) (by assumption)) (fun hc=>⟨ak,(ua V.h (AT) (by assumption))⟩) k):AOps P Y ops dr cf Q (x::r) ⟨v,m,n⟩ q:=h _ _ _ _ K
theorem Oz(K:AOps P Y ops dr cf Q r s (q++[e]))(h:SO P Y ops dr x v m n s e:=by intro _ _ _ _ k;exact au (WM rfl rfl Ox) ak ⟨rfl,by omega⟩ k):AOps P Y ops dr cf Q (x::r) ⟨v,m,n⟩ q:=h _ _ _ _ K
theorem OU(K:AOps P Y ops dr cf Q r s (q++[e]))(h:SO P Y ops dr x v m n s e:=by intro _ _ _ _ k;exact aT rfl rfl (oZ rfl aj V.h) (fun hc=>⟨ak,(mS V.h)⟩) k):AOps P Y ops dr cf Q (x::r) ⟨v,m,n⟩ q:=h _ _ _ _ K
theorem OF(K:AOps P Y ops dr cf Q r s (q++[e]))(h:SO P Y ops dr x v m n s e:=by intro _ _ _ _ k;exact aT rfl rfl (L9 rfl rfl zv) (fun hc=>⟨ak,rfl⟩) k):AOps P Y ops dr cf Q (x::r) ⟨v,m,n⟩ q:=h _ _ _ _ K
theorem PU(K:AOps P Y ops dr cf Q r s (q++[e]))(h:SO P Y ops dr x v m n s e:=by intro _ _ _ _ k;exact aT rfl rfl (je (vs:=b7 _) rfl V.h V.h rfl) (fun hc=>⟨ak,(jf V.h V.h (by simp))⟩) k):AOps P Y ops dr cf Q (x::r) ⟨v,m,n⟩ q:=h _ _ _ _ K
theorem afj(K:AOps P Y ops dr cf Q r s (q++[e]))(h:SO P Y ops dr x v m n s e:=by intro _ _ _ _ k;exact au (df rfl aj V.h V.h (jW (by first|rfl|exact aP rfl|(simp;done)|(simp;omega)|omega))) ak (dg V.h V.h (by first|rfl|exact aP rfl|(simp;done)|(simp;omega)|omega)) k):AOps P Y ops dr cf Q (x::r) ⟨v,m,n⟩ q:=h _ _ _ _ K
theorem afk(K:AOps P Y ops dr cf Q r s (q++[e]))(h:SO P Y ops dr x v m n s e:=by intro _ _ _ _ k;exact aT rfl rfl (Fh rfl rfl oG) (fun hc=>⟨ak,rfl⟩) k):AOps P Y ops dr cf Q (x::r) ⟨v,m,n⟩ q:=h _ _ _ _ K
theorem O7(K:AOps P Y ops dr cf Q r s (q++[e]))(h:SO P Y ops dr x v m n s e:=by intro _ _ _ _ k;exact au (V7 rfl rfl) ak V.h k):AOps P Y ops dr cf Q (x::r) ⟨v,m,n⟩ q:=h _ _ _ _ K
theorem Pj(K:AOps P Y ops dr cf Q r s (q++[e]))(h:SO P Y ops dr x v m n s e:=by intro _ _ _ _ k;exact aT rfl rfl (gT (v:=.s (.string _)) rfl) (fun hc=>⟨ak,trivial⟩) k):AOps P Y ops dr cf Q (x::r) ⟨v,m,n⟩ q:=h _ _ _ _ K
theorem abH(K:AOps P Y ops dr cf Q r s (q++[e]))(h:SO P Y ops dr x v m n s e:=by intro _ _ _ _ k;exact fa (xR (cs:=[]) V.h V.h V.h rfl rfl) ak ⟨rfl,by decide,V.h,by decide⟩ k):AOps P Y ops dr cf Q (x::r) ⟨v,m,n⟩ q:=h _ _ _ _ K
theorem Pg(K:AOps P Y ops dr cf Q r s (q++[e]))(h:SO P Y ops dr x v m n s e:=by intro _ _ _ _ k;exact bB (dC (d:=.rs _ _ _) (cs':=_) rfl rfl (al oG (al oG (al oG aj))) rfl rfl) ak (cF V.h V.h (by first|(simp;done)|exact⟨rfl,aP rfl⟩|(simp;omega)) rfl) k):AOps P Y ops dr cf Q (x::r) ⟨v,m,n⟩ q:=h _ _ _ _ K
theorem Pp(K:AOps P Y ops dr cf Q r s (q++[e]))(h:SO P Y ops dr x v m n s e:=by intro _ _ _ _ k;exact aT rfl rfl (tZ rfl rfl V.h V.h (AS) (by assumption)) (fun hc=>⟨ak,(ua V.h (AS) (by assumption))⟩) k):AOps P Y ops dr cf Q (x::r) ⟨v,m,n⟩ q:=h _ _ _ _ K
theorem afl(K:AOps P Y ops dr cf Q r s (q++[e]))(h:SO P Y ops dr x v m n s e:=by intro _ _ _ _ k;exact au (tZ rfl rfl V.h V.h (IZ) (by assumption)) ak (ua V.h (IZ) (by assumption)) k):AOps P Y ops dr cf Q (x::r) ⟨v,m,n⟩ q:=h _ _ _ _ K
theorem afm(K:AOps P Y ops dr cf Q r s (q++[e]))(h:SO P Y ops dr x v m n s e:=by intro _ _ _ _ k;exact aT rfl rfl (kv rfl rfl bX V.h V.h) (fun hc=>⟨ak,⟨V.h,by omega⟩⟩) k):AOps P Y ops dr cf Q (x::r) ⟨v,m,n⟩ q:=h _ _ _ _ K
theorem afn(K:AOps P Y ops dr cf Q r s (q++[e]))(h:SO P Y ops dr x v m n s e:=by intro _ _ _ _ k;exact aT rfl rfl (eD rfl bX kd V.h) (fun hc=>⟨ak,(eE V.h V.h kd)⟩) k):AOps P Y ops dr cf Q (x::r) ⟨v,m,n⟩ q:=h _ _ _ _ K
theorem afo(K:AOps P Y ops dr cf Q r s (q++[e]))(h:SO P Y ops dr x v m n s e:=by intro _ _ _ _ k;exact aT rfl rfl (kv rfl rfl dZ V.h V.h) (fun hc=>⟨ak,⟨V.h,by omega⟩⟩) k):AOps P Y ops dr cf Q (x::r) ⟨v,m,n⟩ q:=h _ _ _ _ K
theorem afp(K:AOps P Y ops dr cf Q r s (q++[e]))(h:SO P Y ops dr x v m n s e:=by intro _ _ _ _ k;exact aT rfl rfl (eD rfl dZ gB V.h) (fun hc=>⟨ak,(eE V.h V.h gB)⟩) k):AOps P Y ops dr cf Q (x::r) ⟨v,m,n⟩ q:=h _ _ _ _ K
theorem OA(K:AOps P Y ops dr cf Q r s (q++[e]))(h:SO P Y ops dr x v m n s e:=by intro _ _ _ _ k;exact au (WN rfl rfl Oy) ak ⟨rfl,by omega⟩ k):AOps P Y ops dr cf Q (x::r) ⟨v,m,n⟩ q:=h _ _ _ _ K
theorem Pe(K:AOps P Y ops dr cf Q r s (q++[e]))(h:SO P Y ops dr x v m n s e:=by intro _ _ _ _ k;exact bB (dC (d:=.rs _ _ _) (cs':=_) rfl rfl (al oG (al oG aj)) rfl rfl) ak (cF V.h V.h (by first|(simp;done)|exact⟨rfl,aP rfl⟩|(simp;omega)) rfl) k):AOps P Y ops dr cf Q (x::r) ⟨v,m,n⟩ q:=h _ _ _ _ K
theorem Pw(K:AOps P Y ops dr cf Q r s (q++[e]))(h:SO P Y ops dr x v m n s e:=by intro _ _ _ _ k;exact bB (dC (d:=.s (.bool _)) (cs':=_) rfl rfl bX rfl rfl) ak (cF V.h V.h (by first|(simp;done)|exact⟨rfl,aP rfl⟩|(simp;omega)) rfl) k):AOps P Y ops dr cf Q (x::r) ⟨v,m,n⟩ q:=h _ _ _ _ K
theorem OJ(K:AOps P Y ops dr cf Q r s (q++[e]))(h:SO P Y ops dr x v m n s e:=by intro _ _ _ _ k;exact fa (xR V.h V.h V.h rfl rfl) ak ⟨rfl,by decide,V.h,by decide⟩ k):AOps P Y ops dr cf Q (x::r) ⟨v,m,n⟩ q:=h _ _ _ _ K
theorem afq(K:AOps P Y ops dr cf Q r s (q++[e]))(h:SO P Y ops dr x v m n s e:=by intro _ _ _ _ k;exact aT rfl rfl (aeS rfl) (fun hc=>⟨ak,V.h⟩) k):AOps P Y ops dr cf Q (x::r) ⟨v,m,n⟩ q:=h _ _ _ _ K
theorem Pm(K:AOps P Y ops dr cf Q r s (q++[e]))(h:SO P Y ops dr x v m n s e:=by intro _ _ _ _ k;exact au (Wv rfl rfl V.h V.h (by assumption) (by assumption)) ak (Ww V.h (by assumption) (by assumption) oG) k):AOps P Y ops dr cf Q (x::r) ⟨v,m,n⟩ q:=h _ _ _ _ K
theorem Pn(K:AOps P Y ops dr cf Q r s (q++[e]))(h:SO P Y ops dr x v m n s e:=by intro _ _ _ _ k;exact au (je rfl V.h V.h (UC (by assumption))) ak (jf V.h V.h (by simp;omega)) k):AOps P Y ops dr cf Q (x::r) ⟨v,m,n⟩ q:=h _ _ _ _ K
theorem afr(K:AOps P Y ops dr cf Q r s (q++[e]))(h:SO P Y ops dr x v m n s e:=by intro _ _ _ _ k;exact bB (iE rfl rfl rfl (VX (by first|rfl|exact aP rfl|(simp;done)|(simp;omega)|omega) (by first|rfl|exact aP rfl|(simp;done)|(simp;omega)|omega))) ak (U0 (by first|rfl|exact aP rfl|(simp;done)|(simp;omega)|omega) (by first|rfl|exact aP rfl|(simp;done)|(simp;omega)|omega) (by first|rfl|exact iM _|(simp[iM];done)|exact D5)) k):AOps P Y ops dr cf Q (x::r) ⟨v,m,n⟩ q:=h _ _ _ _ K
theorem abc(K:AOps P Y ops dr cf Q r s (q++[e]))(h:SO P Y ops dr x v m n s e:=by intro _ _ _ _ k;exact sH (r5 rfl rfl rfl V.h V.h (rH rfl rfl) rfl) ak ⟨V.h,rfl,(by first|omega|exact aP rfl|(simp;done)|(simp;omega)),(by decide),(by first|rfl|(simp;done)|(simp;omega)),(by unfold maxLen;first|omega|(simp;omega)),(by rw[b3];first|omega|(simp;omega)),(by first|(simp;done)|(simp;omega))⟩ k):AOps P Y ops dr cf Q (x::r) ⟨v,m,n⟩ q:=h _ _ _ _ K
theorem afs(K:AOps P Y ops dr cf Q r s (q++[e]))(h:SO P Y ops dr x v m n s e:=by intro _ _ _ _ k;exact bB (iE rfl rfl aj (VX (by first|rfl|exact aP rfl|(simp;done)|(simp;omega)|omega) (by first|rfl|exact aP rfl|(simp;done)|(simp;omega)|omega))) ak (U0 (by first|rfl|exact aP rfl|(simp;done)|(simp;omega)|omega) (by first|rfl|exact aP rfl|(simp;done)|(simp;omega)|omega) (by first|rfl|exact iM _|(simp[iM];done)|exact D5)) k):AOps P Y ops dr cf Q (x::r) ⟨v,m,n⟩ q:=h _ _ _ _ K
theorem aft(K:AOps P Y ops dr cf Q r s (q++[e]))(h:SO P Y ops dr x v m n s e:=by intro _ _ _ _ k;exact au (WU rfl rfl) ak ⟨V.h,by omega,by omega⟩ k):AOps P Y ops dr cf Q (x::r) ⟨v,m,n⟩ q:=h _ _ _ _ K
theorem afu(K:AOps P Y ops dr cf Q r s (q++[e]))(h:SO P Y ops dr x v m n s e:=by intro _ _ _ _ k;exact aT rfl rfl (WU rfl rfl) (fun hc=>⟨ak,⟨V.h,by omega,by omega⟩⟩) k):AOps P Y ops dr cf Q (x::r) ⟨v,m,n⟩ q:=h _ _ _ _ K
theorem afv(K:AOps P Y ops dr cf Q r s (q++[e]))(h:SO P Y ops dr x v m n s e:=by intro _ _ _ _ k;exact aT rfl rfl (gT (v:=.z) rfl) (fun hc=>⟨ak,trivial⟩) k):AOps P Y ops dr cf Q (x::r) ⟨v,m,n⟩ q:=h _ _ _ _ K
theorem afw(K:AOps P Y ops dr cf Q r s (q++[e]))(h:SO P Y ops dr x v m n s e:=by intro _ _ _ _ k;exact au (tZ rfl rfl V.h V.h (TQ) (by assumption)) ak (ua V.h (TQ) (by assumption)) k):AOps P Y ops dr cf Q (x::r) ⟨v,m,n⟩ q:=h _ _ _ _ K
theorem abw(K:AOps P Y ops dr cf Q r s (q++[e]))(h:SO P Y ops dr x v m n s e:=by intro _ _ _ _ k;exact aT rfl rfl (Lw rfl rfl) (fun hc=>⟨ak,trivial⟩) k):AOps P Y ops dr cf Q (x::r) ⟨v,m,n⟩ q:=h _ _ _ _ K
theorem O8(K:AOps P Y ops dr cf Q r s (q++[e]))(h:SO P Y ops dr x v m n s e:=by intro _ _ _ _ k;exact au (E' rfl rfl) ak rfl k):AOps P Y ops dr cf Q (x::r) ⟨v,m,n⟩ q:=h _ _ _ _ K
theorem Pt(K:AOps P Y ops dr cf Q r s (q++[e]))(h:SO P Y ops dr x v m n s e:=by intro _ _ _ _ k;exact au (DU (cs:=aF _ _ _) V.h V.h V.h rfl rfl) ak ⟨V.h,V.h⟩ k):AOps P Y ops dr cf Q (x::r) ⟨v,m,n⟩ q:=h _ _ _ _ K
theorem OL(K:AOps P Y ops dr cf Q r s (q++[e]))(h:SO P Y ops dr x v m n s e:=by intro _ _ _ _ k;exact bB (dC (d:=.s (.int _ _)) (cs':=[_]) rfl rfl rfl rfl rfl) ak (cF V.h V.h (by first|(simp;done)|exact⟨rfl,aP rfl⟩|(simp;omega)) rfl) k):AOps P Y ops dr cf Q (x::r) ⟨v,m,n⟩ q:=h _ _ _ _ K
theorem abC(K:AOps P Y ops dr cf Q r s (q++[e]))(h:SO P Y ops dr x v m n s e:=by intro _ _ _ _ k;exact bB (iE (cs':=bm _) rfl rfl rfl rfl) ak (cF V.h V.h (by first|(simp;done)|exact⟨rfl,aP rfl⟩|(simp;omega)) (by rfl)) k):AOps P Y ops dr cf Q (x::r) ⟨v,m,n⟩ q:=h _ _ _ _ K
theorem abD(K:AOps P Y ops dr cf Q r s (q++[e]))(h:SO P Y ops dr x v m n s e:=by intro _ _ _ _ k;exact aT rfl rfl (df rfl rfl V.h V.h rfl) (fun hc=>⟨ak,(dg V.h V.h (by first|(simp;done)|omega|exact aP rfl))⟩) k):AOps P Y ops dr cf Q (x::r) ⟨v,m,n⟩ q:=h _ _ _ _ K
theorem OB(K:AOps P Y ops dr cf Q r s (q++[e]))(h:SO P Y ops dr x v m n s e:=by intro _ _ _ _ k;exact au (W9 rfl rfl) ak rfl k):AOps P Y ops dr cf Q (x::r) ⟨v,m,n⟩ q:=h _ _ _ _ K
theorem aaq(K:AOps P Y ops dr cf Q r s (q++[e]))(h:SO P Y ops dr x v m n s e:=by intro _ _ _ _ k;exact au (Xa rfl rfl) ak oG k):AOps P Y ops dr cf Q (x::r) ⟨v,m,n⟩ q:=h _ _ _ _ K
theorem aar(K:AOps P Y ops dr cf Q r s (q++[e]))(h:SO P Y ops dr x v m n s e:=by intro _ _ _ _ k;exact au (ZJ rfl rfl) ak rfl k):AOps P Y ops dr cf Q (x::r) ⟨v,m,n⟩ q:=h _ _ _ _ K
theorem OE(K:AOps P Y ops dr cf Q r s (q++[e]))(h:SO P Y ops dr x v m n s e:=by intro _ _ _ _ k;exact au (eD rfl (up_same _ _ _) rfl V.h) ak (eE V.h V.h rfl) k):AOps P Y ops dr cf Q (x::r) ⟨v,m,n⟩ q:=h _ _ _ _ K
theorem OM(K:AOps P Y ops dr cf Q r s (q++[e]))(h:SO P Y ops dr x v m n s e:=by intro _ _ _ _ k;exact bB (dC (d:=.rs _ _ _) (cs':=[_]) rfl rfl (al oG (al oG (al oG aj))) rfl rfl) ak (cF V.h V.h (by first|(simp;done)|exact⟨rfl,aP rfl⟩|(simp;omega)) rfl) k):AOps P Y ops dr cf Q (x::r) ⟨v,m,n⟩ q:=h _ _ _ _ K
theorem Pd(K:AOps P Y ops dr cf Q r s (q++[e]))(h:SO P Y ops dr x v m n s e:=by intro _ _ _ _ k;exact au (kv rfl rfl (al oG (al oG aj)) V.h V.h) ak ⟨V.h,by omega⟩ k):AOps P Y ops dr cf Q (x::r) ⟨v,m,n⟩ q:=h _ _ _ _ K
theorem Pf(K:AOps P Y ops dr cf Q r s (q++[e]))(h:SO P Y ops dr x v m n s e:=by intro _ _ _ _ k;exact au (kv rfl rfl (al oG (al oG (al oG aj))) V.h V.h) ak ⟨V.h,by omega⟩ k):AOps P Y ops dr cf Q (x::r) ⟨v,m,n⟩ q:=h _ _ _ _ K
theorem Py(K:AOps P Y ops dr cf Q r s (q++[e]))(h:SO P Y ops dr x v m n s e:=by intro _ _ _ _ k;exact bB (dC (d:=.rs _ _ _) (cs':=[_]) rfl rfl rfl rfl rfl) ak (cF V.h V.h (by first|(simp;done)|exact⟨rfl,aP rfl⟩|(simp;omega)) rfl) k):AOps P Y ops dr cf Q (x::r) ⟨v,m,n⟩ q:=h _ _ _ _ K
theorem aaN(K:AOps P Y ops dr cf Q r s (q++[e]))(h:SO P Y ops dr x v m n s e:=by intro _ _ _ _ k;exact bB (dC (d:=.s (.pointer none)) (cs':=[_]) rfl rfl rfl rfl rfl) ak (cF V.h V.h (by first|(simp;done)|exact⟨rfl,aP rfl⟩|(simp;omega)) rfl) k):AOps P Y ops dr cf Q (x::r) ⟨v,m,n⟩ q:=h _ _ _ _ K
theorem aaQ(K:AOps P Y ops dr cf Q r s (q++[e]))(h:SO P Y ops dr x v m n s e:=by intro _ _ _ _ k;exact bB (dC (d:=.pt _) (cs':=[_]) rfl rfl rfl rfl rfl) ak (cF V.h V.h (by first|(simp;done)|exact⟨rfl,aP rfl⟩|(simp;omega)) rfl) k):AOps P Y ops dr cf Q (x::r) ⟨v,m,n⟩ q:=h _ _ _ _ K
theorem afx(K:AOps P Y ops dr cf Q r s (q++[e]))(h:SO P Y ops dr x v m n s e:=by intro _ _ _ _ k;exact au (oZ rfl (al oG (al oG (al oG aj))) V.h) ak (mS V.h) k):AOps P Y ops dr cf Q (x::r) ⟨v,m,n⟩ q:=h _ _ _ _ K
theorem afy(K:AOps P Y ops dr cf Q r s (q++[e]))(h:SO P Y ops dr x v m n s e:=by intro _ _ _ _ k;exact aT rfl rfl (aeT rfl rfl) (fun hc=>⟨ak,V.h⟩) k):AOps P Y ops dr cf Q (x::r) ⟨v,m,n⟩ q:=h _ _ _ _ K
theorem afz(K:AOps P Y ops dr cf Q r s (q++[e]))(h:SO P Y ops dr x v m n s e:=by intro _ _ _ _ k;exact aT rfl rfl (Mz rfl rfl oG) (fun hc=>⟨ak,rfl⟩) k):AOps P Y ops dr cf Q (x::r) ⟨v,m,n⟩ q:=h _ _ _ _ K
variable{rf:Bool}{W:Exit->St->Prop}{o:Array Oper}{B:Code}{i:Nat}{k:St}
theorem ws[cR Y](h:AOps P Y o false [] (dV fun k=>AW P Y rf B W k) o.toList k []):AW P Y rf (.seq (.region i o false) B) W k:=ai h
theorem er[cR Y](h:AOps P Y o false [] (dV fun k=>AW P Y rf B W k) o.toList k []):AOps P Y ops dr [] (dV fun k=>AW P Y rf (.seq (.region i o false) B) W k) [] k q:=aa (ai h)
end
end Go.Abs
theorem eH{p:Prop}(h:p:=by repeat' (first|exact trivial|exact rfl|refine And.intro ?_ ?_)):p:=h
namespace Go.Proofs.Tryz.K
open Go.Abs
theorem kR{α:Sort _}{a b:α}(h:a=b:=by kernel_rfl):a=b:=h
instance:V (prog.cellsOf 1) 1:=⟨kR⟩
instance:V (aggP prog 1) false:=⟨a1⟩
instance:V (tyOk prog 1) true:=⟨kR⟩
instance:V (prog.bytesOf 1) 8:=⟨b1⟩
instance:V (prog.cellsOf 2) 1:=⟨kR⟩
instance:V (prog.bytesOf 2) 8:=⟨b2⟩
instance:V (aggP prog 2) false:=⟨a2⟩
instance:V (tyOk prog 2) true:=⟨kR⟩
instance:V (prog.cellsOf 3) 1:=⟨c3⟩
instance:V (prog.bytesOf 3) 8:=⟨b3⟩
instance:V (aggP prog 3) false:=⟨a3⟩
instance:V (tyOk prog 3) true:=⟨kR⟩
instance:V (zeroP prog 3) [.s (.int .i64 0)]:=⟨kR⟩
instance:V (prog.cellsOf 4) 1:=⟨c4⟩
instance:V (prog.bytesOf 4) 1:=⟨b4⟩
instance:V (aggP prog 4) false:=⟨a4⟩
instance:V (tyOk prog 4) true:=⟨kR⟩
instance:V (zeroP prog 4) [.s (.bool false)]:=⟨kR⟩
instance:V (boT prog 4) true:=⟨kR⟩
instance:V (prog.cellsOf 5) 1:=⟨c5⟩
instance:V (prog.bytesOf 5) 1:=⟨b5⟩
instance:V (aggP prog 5) false:=⟨a5⟩
instance:V (tyOk prog 5) true:=⟨kR⟩
instance:V (zeroP prog 5) [.s (.int .u8 0)]:=⟨kR⟩
instance:V (prog.bytesOf 6) 1:=⟨b6⟩
instance:V (aggP prog 6) false:=⟨a6⟩
instance:V (prog.cellsOf 9) 1:=⟨kR⟩
instance:V (aggP prog 9) false:=⟨kR⟩
instance:V (tyOk prog 9) true:=⟨kR⟩
instance:V (stT prog 9) true:=⟨kR⟩
instance:V (elemP prog 15) 275:=⟨H9⟩
instance:V (elemP prog 16) 278:=⟨H'⟩
instance:V (elemP prog 17) 287:=⟨H3⟩
instance:V (prog.cellsOf 22) 1:=⟨kR⟩
instance:V (aggP prog 22) false:=⟨kR⟩
instance:V (tyOk prog 22) true:=⟨kR⟩
instance:V (elemP prog 22) 5:=⟨Q1⟩
instance:V (slT prog 22) true:=⟨Pr⟩
instance:V (prog.cellsOf 23) 1:=⟨kR⟩
instance:V (aggP prog 23) false:=⟨kR⟩
instance:V (tyOk prog 23) true:=⟨kR⟩
instance:V (elemP prog 23) 9:=⟨kR⟩
instance:V (slT prog 23) true:=⟨kR⟩
instance:V (prog.cellsOf 24) 1:=⟨kR⟩
instance:V (aggP prog 24) false:=⟨kR⟩
instance:V (tyOk prog 24) true:=⟨kR⟩
instance:V (elemP prog 24) 72:=⟨kR⟩
instance:V (slT prog 24) true:=⟨kR⟩
instance:V (prog.cellsOf 26) 8:=⟨kR⟩
instance:V (aggP prog 26) true:=⟨kR⟩
instance:V (tyOk prog 26) true:=⟨kR⟩
instance:V (fieldP prog 26 0) (some (0,9)):=⟨kR⟩
instance:V (fieldP prog 26 1) (some (1,4)):=⟨kR⟩
instance:V (fieldP prog 26 2) (some (2,3)):=⟨kR⟩
instance:V (fieldP prog 26 3) (some (3,5)):=⟨kR⟩
instance:V (fieldP prog 26 4) (some (4,22)):=⟨kR⟩
instance:V (fieldP prog 26 5) (some (5,22)):=⟨kR⟩
instance:V (fieldP prog 26 6) (some (6,23)):=⟨kR⟩
instance:V (fieldP prog 26 7) (some (7,24)):=⟨kR⟩
instance:V (prog.cellsOf 27) 1:=⟨xF⟩
instance:V (prog.bytesOf 27) 24:=⟨Qx⟩
instance:V (aggP prog 27) false:=⟨kR⟩
instance:V (tyOk prog 27) true:=⟨kR⟩
instance:V (zeroP prog 27) [.z]:=⟨kR⟩
instance:V (elemP prog 27) 3:=⟨CF⟩
instance:V (slT prog 27) true:=⟨B7⟩
instance:V (prog.cellsOf 28) 1:=⟨kR⟩
instance:V (aggP prog 28) false:=⟨kR⟩
instance:V (tyOk prog 28) true:=⟨kR⟩
instance:V (elemP prog 28) 27:=⟨kR⟩
instance:V (slT prog 28) true:=⟨kR⟩
instance:V (prog.cellsOf 30) 3:=⟨Hz⟩
instance:V (aggP prog 30) true:=⟨Hy⟩
instance:V (tyOk prog 30) true:=⟨t30⟩
instance:V (zeroP prog 30) [.z,.z,.z]:=⟨kR⟩
instance:V (fieldP prog 30 0) (some (0,27)):=⟨kR⟩
instance:V (fieldP prog 30 1) (some (1,28)):=⟨kR⟩
instance:V (fieldP prog 30 2) (some (2,28)):=⟨kR⟩
instance:V (prog.cellsOf 52) 1:=⟨kR⟩
instance:V (aggP prog 52) false:=⟨kR⟩
instance:V (tyOk prog 52) true:=⟨kR⟩
instance:V (zeroP prog 52) [.z]:=⟨kR⟩
instance:V (elemP prog 52) 4:=⟨kR⟩
instance:V (slT prog 52) true:=⟨kR⟩
instance:V (prog.cellsOf 66) 6:=⟨kR⟩
instance:V (aggP prog 66) true:=⟨kR⟩
instance:V (tyOk prog 66) true:=⟨kR⟩
instance:V (zeroP prog 66) [.s (.int .u8 0),.s (.int .i64 0),.s (.int .i64 0),.s (.int .i64 0),.s (.int .i64 0),.z]:=⟨kR⟩
instance:V (fieldP prog 66 0) (some (0,5)):=⟨kR⟩
instance:V (fieldP prog 66 1) (some (1,3)):=⟨kR⟩
instance:V (fieldP prog 66 2) (some (2,3)):=⟨kR⟩
instance:V (fieldP prog 66 3) (some (3,3)):=⟨kR⟩
instance:V (fieldP prog 66 4) (some (4,3)):=⟨kR⟩
instance:V (fieldP prog 66 5) (some (5,27)):=⟨kR⟩
instance:V (prog.cellsOf 67) 1:=⟨kR⟩
instance:V (aggP prog 67) false:=⟨kR⟩
instance:V (tyOk prog 67) true:=⟨kR⟩
instance:V (elemP prog 67) 199:=⟨kR⟩
instance:V (slT prog 67) true:=⟨kR⟩
instance:V (prog.cellsOf 69) 15:=⟨kR⟩
instance:V (aggP prog 69) true:=⟨kR⟩
instance:V (tyOk prog 69) true:=⟨kR⟩
instance:V (zeroP prog 69) [.s (.int .u8 0),.s (.int .i64 0),.s (.int .i64 0),.s (.int .i64 0),.s (.int .i64 0),.s (.string "".toUTF8),.s (.int .u8 0),.s (.int .i64 0),.s (.int .i64 0),.s (.int .i64 0),.s (.int .i64 0),.z,.z,.z,.s (.int .i64 0)]:=⟨kR⟩
instance:V (fieldP prog 69 0) (some (0,5)):=⟨kR⟩
instance:V (fieldP prog 69 1) (some (1,3)):=⟨kR⟩
instance:V (fieldP prog 69 2) (some (2,3)):=⟨kR⟩
instance:V (fieldP prog 69 3) (some (3,3)):=⟨kR⟩
instance:V (fieldP prog 69 4) (some (4,3)):=⟨kR⟩
instance:V (fieldP prog 69 5) (some (5,9)):=⟨kR⟩
instance:V (fieldP prog 69 6) (some (6,66)):=⟨kR⟩
instance:V (fieldP prog 69 7) (some (12,27)):=⟨kR⟩
instance:V (fieldP prog 69 8) (some (13,67)):=⟨kR⟩
instance:V (fieldP prog 69 9) (some (14,3)):=⟨kR⟩
instance:V (prog.cellsOf 70) 1:=⟨kR⟩
instance:V (aggP prog 70) false:=⟨kR⟩
instance:V (tyOk prog 70) true:=⟨kR⟩
instance:V (elemP prog 70) 66:=⟨kR⟩
instance:V (slT prog 70) true:=⟨kR⟩
instance:V (prog.cellsOf 72) 16:=⟨kR⟩
instance:V (aggP prog 72) true:=⟨kR⟩
instance:V (tyOk prog 72) true:=⟨kR⟩
instance:V (zeroP prog 72) [.z,.s (.int .u8 0),.s (.int .i64 0),.s (.int .i64 0),.s (.int .i64 0),.s (.int .i64 0),.s (.string "".toUTF8),.s (.int .u8 0),.s (.int .i64 0),.s (.int .i64 0),.s (.int .i64 0),.s (.int .i64 0),.z,.z,.z,.s (.int .i64 0)]:=⟨kR⟩
instance:V (fieldP prog 72 0) (some (0,70)):=⟨kR⟩
instance:V (fieldP prog 72 1) (some (1,69)):=⟨kR⟩
instance:V (prog.cellsOf 79) 1:=⟨kR⟩
instance:V (aggP prog 79) false:=⟨kR⟩
instance:V (tyOk prog 79) true:=⟨kR⟩
instance:V (zeroP prog 79) [.s (.pointer none)]:=⟨kR⟩
instance:V (tyOk prog 89) true:=⟨kR⟩
instance:V (zeroP prog 89) [.s (.string "".toUTF8),.s (.bool false),.s (.int .i64 0),.s (.int .u8 0),.z,.z,.z,.z,.z,.z,.z]:=⟨kR⟩
instance:V (fieldP prog 89 0) (some (0,26)):=⟨kR⟩
instance:V (fieldP prog 89 1) (some (8,28)):=⟨kR⟩
instance:V (fieldP prog 89 2) (some (9,28)):=⟨kR⟩
instance:V (fieldP prog 89 3) (some (10,52)):=⟨kR⟩
instance:V (prog.cellsOf 98) 1:=⟨kR⟩
instance:V (aggP prog 98) false:=⟨kR⟩
instance:V (tyOk prog 98) true:=⟨kR⟩
instance:V (prog.cellsOf 128) 1:=⟨kR⟩
instance:V (aggP prog 128) false:=⟨kR⟩
instance:V (tyOk prog 128) true:=⟨kR⟩
instance:V (zeroP prog 128) [.s .nilFunc]:=⟨kR⟩
instance:V (prog.cellsOf 131) 1:=⟨kR⟩
instance:V (aggP prog 131) false:=⟨kR⟩
instance:V (tyOk prog 131) true:=⟨kR⟩
instance:V (prog.cellsOf 133) 10:=⟨PR⟩
instance:V (aggP prog 133) true:=⟨PQ⟩
instance:V (tyOk prog 133) true:=⟨t133⟩
instance:V (zeroP prog 133) [.s (.string "".toUTF8),.s (.bool false),.s (.int .i64 0),.s (.int .u8 0),.z,.z,.z,.z,.s (.map none),.s (.map none)]:=⟨kR⟩
instance:V (fieldP prog 133 0) (some (0,26)):=⟨kR⟩
instance:V (fieldP prog 133 1) (some (8,131)):=⟨kR⟩
instance:V (fieldP prog 133 2) (some (9,131)):=⟨kR⟩
instance:V (prog.cellsOf 165) 1:=⟨kR⟩
instance:V (aggP prog 165) false:=⟨kR⟩
instance:V (tyOk prog 165) true:=⟨kR⟩
instance:V (zeroP prog 165) [.s (.map none)]:=⟨kR⟩
instance:V (prog.cellsOf 166) 1:=⟨kR⟩
instance:V (aggP prog 166) false:=⟨kR⟩
instance:V (tyOk prog 166) true:=⟨kR⟩
instance:V (zeroP prog 166) [.s (.map none)]:=⟨kR⟩
instance:V (prog.cellsOf 168) 2:=⟨sJ⟩
instance:V (prog.bytesOf 168) 16:=⟨OK⟩
instance:V (aggP prog 168) true:=⟨OT⟩
instance:V (tyOk prog 168) true:=⟨t168⟩
instance:V (zeroP prog 168) [.s (.int .i64 0),.s (.bool false)]:=⟨kR⟩
instance:V (fieldP prog 168 0) (some (0,3)):=⟨kR⟩
instance:V (fieldP prog 168 1) (some (1,4)):=⟨kR⟩
instance:V (prog.cellsOf 169) 1:=⟨kR⟩
instance:V (aggP prog 169) false:=⟨kR⟩
instance:V (tyOk prog 169) true:=⟨kR⟩
instance:V (zeroP prog 169) [.z]:=⟨kR⟩
instance:V (elemP prog 169) 168:=⟨B9⟩
instance:V (slT prog 169) true:=⟨BP⟩
instance:V (tyOk prog 172) true:=⟨kR⟩
instance:V (zeroP prog 172) [.s (.int .i64 0),.s (.bool false),.s (.int .i64 0),.s (.bool false)]:=⟨kR⟩
instance:V (tyOk prog 174) true:=⟨kR⟩
instance:V (zeroP prog 174) [.z,.z]:=⟨kR⟩
instance:V (elemP prog 174) 27:=⟨kR⟩
instance:V (arT prog 174) true:=⟨kR⟩
instance:V (lenP prog 174) 2:=⟨kR⟩
instance:V (prog.cellsOf 199) 2:=⟨kR⟩
instance:V (aggP prog 199) true:=⟨kR⟩
instance:V (tyOk prog 199) true:=⟨kR⟩
instance:V (zeroP prog 199) [.s (.string "".toUTF8),.s (.int .i64 0)]:=⟨kR⟩
instance:V (fieldP prog 199 0) (some (0,9)):=⟨kR⟩
instance:V (fieldP prog 199 1) (some (1,3)):=⟨kR⟩
instance:V (prog.cellsOf 205) 6:=⟨kR⟩
instance:V (aggP prog 205) true:=⟨Gz⟩
instance:V (tyOk prog 205) true:=⟨kR⟩
instance:V (zeroP prog 205) [.s (.int .i64 0),.s (.int .i64 0),.s (.int .i64 0),.s (.int .i64 0),.s (.int .i64 0),.s (.int .i64 0)]:=⟨GA⟩
instance:V (fieldP prog 205 0) (some (0,3)):=⟨kR⟩
instance:V (fieldP prog 205 1) (some (1,3)):=⟨kR⟩
instance:V (fieldP prog 205 2) (some (2,3)):=⟨kR⟩
instance:V (fieldP prog 205 3) (some (3,3)):=⟨kR⟩
instance:V (fieldP prog 205 4) (some (4,3)):=⟨kR⟩
instance:V (fieldP prog 205 5) (some (5,3)):=⟨kR⟩
instance:V (elemP prog 227) 231:=⟨kR⟩
instance:V (slT prog 227) true:=⟨kR⟩
instance:V (prog.cellsOf 231) 20:=⟨od⟩
instance:V (prog.bytesOf 231) 160:=⟨Pa⟩
instance:V (aggP prog 231) true:=⟨qE⟩
instance:V (tyOk prog 231) true:=⟨t231⟩
instance:V (zeroP prog 231) [.s (.int .u64 0),.s (.int .u64 0),.s (.int .u64 0),.s (.int .u64 0),.s (.int .u64 0),.s (.int .u64 0),.s (.int .u64 0),.s (.int .u64 0),.s (.int .u64 0),.s (.int .u64 0),.s (.int .u64 0),.s (.int .u64 0),.s (.int .u64 0),.s (.int .u64 0),.s (.int .u64 0),.s (.int .u64 0),.s (.int .u64 0),.s (.int .u64 0),.s (.int .u64 0),.s (.int .u64 0)]:=⟨O'⟩
instance:V (elemP prog 231) 98:=⟨kR⟩
instance:V (arT prog 231) true:=⟨kR⟩
instance:V (lenP prog 231) 20:=⟨kR⟩
instance:V (prog.underlying 8) (some (.struct (fO prog 8))):=⟨u8⟩
instance:V (prog.underlying 22) (some (.slice 5)):=⟨kR⟩
instance:V (prog.underlying 30) (some (.struct (fO prog 30))):=⟨kR⟩
instance:V (((fO prog 30).toList.map fun f=>(f.offset,prog.cellsOf f.type))) [(0,1),(1,1),(2,1)]:=⟨kR⟩
instance:V (((fO prog 30).toList.all fun f=>(prog.info? f.type).isSome)) true:=⟨kR⟩
instance:V (prog.underlying 66) (some (.struct (fO prog 66))):=⟨kR⟩
instance:V (((fO prog 66).toList.map fun f=>(f.offset,prog.cellsOf f.type))) [(0,1),(1,1),(2,1),(3,1),(4,1),(5,1)]:=⟨kR⟩
instance:V (((fO prog 66).toList.all fun f=>(prog.info? f.type).isSome)) true:=⟨kR⟩
instance:V (prog.underlying 89) (some (.struct (fO prog 89))):=⟨kR⟩
instance:V (((fO prog 89).toList.map fun f=>(f.offset,prog.cellsOf f.type))) [(0,8),(8,1),(9,1),(10,1)]:=⟨kR⟩
instance:V (((fO prog 89).toList.all fun f=>(prog.info? f.type).isSome)) true:=⟨kR⟩
instance:V (mkeyP prog 127) 3:=⟨FE⟩
instance:V (mapT prog 127) true:=⟨FF⟩
instance:V (mkeyP prog 131) 5:=⟨kR⟩
instance:V (mapT prog 131) true:=⟨kR⟩
instance:V (melP prog 131) 205:=⟨FN⟩
instance:V (prog.underlying 133) (some (.struct (fO prog 133))):=⟨kR⟩
instance:V (((fO prog 133).toList.map fun f=>(f.offset,prog.cellsOf f.type))) [(0,8),(8,1),(9,1)]:=⟨kR⟩
instance:V (((fO prog 133).toList.all fun f=>(prog.info? f.type).isSome)) true:=⟨kR⟩
instance:V (mkeyP prog 165) 172:=⟨qq⟩
instance:V (mapT prog 165) true:=⟨qt⟩
instance:V (mkeyP prog 166) 168:=⟨wB⟩
instance:V (mapT prog 166) true:=⟨wC⟩
instance:V (prog.underlying 168) (some (.struct (fO prog 168))):=⟨kR⟩
instance:V (((fO prog 168).toList.map fun f=>(f.offset,prog.cellsOf f.type))) [(0,1),(1,1)]:=⟨kR⟩
instance:V (((fO prog 168).toList.all fun f=>(prog.info? f.type).isSome)) true:=⟨kR⟩
instance:V (prog.underlying 172) (some (.struct (fO prog 172))):=⟨kR⟩
instance:V (((fO prog 172).toList.map fun f=>(f.offset,prog.cellsOf f.type))) [(0,2),(2,2)]:=⟨kR⟩
instance:V (((fO prog 172).toList.all fun f=>(prog.info? f.type).isSome)) true:=⟨kR⟩
instance:V (prog.underlying 205) (some (.struct (fO prog 205))):=⟨kR⟩
instance:V (((fO prog 205).toList.map fun f=>(f.offset,prog.cellsOf f.type))) [(0,1),(1,1),(2,1),(3,1),(4,1),(5,1)]:=⟨kR⟩
instance:V (((fO prog 205).toList.all fun f=>(prog.info? f.type).isSome)) true:=⟨kR⟩
instance:V (prog.underlying 2) (some (.int .i64)):=⟨u2⟩
instance:V (prog.underlying 3) (some (.int .i64)):=⟨u3⟩
instance:V (prog.underlying 5) (some (.int .u8)):=⟨u5⟩
instance:V (prog.underlying 189) (some (.int .u64)):=⟨kR⟩
end Go.Proofs.Tryz.K
namespace Go.Abs
open Go.Argus
section
variable{P:Program}{Y:YSpec}{ops:Array Oper}{dr:Bool}{cf:List (Nat×Nat)}{Q:Exit->St->Prop}{r:List Oper}{v:Env}{m:Mem}{n:Nat}{q:Tra}{x:Oper}{s:St}{e:List Nat×List Nat}
theorem iY{p:Prop}(h:p:=by first|rfl|exact aP rfl|(simp;done)|(simp;omega)|omega):p:=h
theorem oz{p:Prop}(h:p:=by first|(simp;done)|exact⟨rfl,aP rfl⟩|(simp;omega)):p:=h
theorem Hc{p:Prop}(h:p:=by first|rfl|exact iM _|(simp[iM];done)|exact D5):p:=h
theorem uQ{p:Prop}(h:p:=by first|(simp;done)|omega|exact aP rfl):p:=h
theorem q8{p:Prop}(h:p:=by first|(simp;done)|fail):p:=h
theorem xr{p:Prop}(h:p:=by first|decide|simp):p:=h
def oT(x:Oper):Nat:=2*(match x.op with
 | .move ..=>1
 | .assign ..=>2
 | .pick ..=>3
 | .alloc ..=>4
 | .box ..=>5
 | .build ..=>6
 | .buildSlice ..=>7
 | .insert ..=>8
 | .load ..=>9
 | .store ..=>10
 | .nilCheck ..=>11
 | .unOp ..=>12
 | .convert ..=>13
 | .makeFunc ..=>14
 | .makeMap ..=>15
 | .makeSlice ..=>16
 | .slice ..=>17
 | .fieldAddr ..=>18
 | .field ..=>19
 | .indexAddr ..=>20
 | .index ..=>21
 | .lookup ..=>22
 | .mapUpdate ..=>23
 | .extract ..=>24
 | .call ..=>25
 | .binOp .add ..=>26
 | .binOp .sub ..=>27
 | .binOp .mul ..=>28
 | .binOp .quo ..=>29
 | .binOp .rem ..=>30
 | .binOp .and ..=>31
 | .binOp .or ..=>32
 | .binOp .xor ..=>33
 | .binOp .shl ..=>34
 | .binOp .shr ..=>35
 | .binOp .andNot ..=>36
 | .binOp .eql ..=>37
 | .binOp .neq ..=>38
 | .binOp .lss ..=>39
 | .binOp .leq ..=>40
 | .binOp .gtr ..=>41
 | .binOp .geq ..=>42
 |_=>0)+(match x.guard with
 |none=>0
 |_=>1)
theorem SS2(ht:oT x=2:=by exact rfl)(h:SO P Y ops dr x v m n s e:=by intro _ _ _ _ k;first|exact au (gT (v:=.s (.int _ _)) rfl) ak trivial k|exact au (gT (v:=.s (.bool _)) rfl) ak trivial k|exact au (gT (v:=.sl _ _) rfl) ak trivial k|exact au (gT (v:=.rs _ _ _) rfl) ak trivial k|exact au (gT (v:=.pt _) rfl) ak trivial k|exact au (gT (v:=.fn _ _ _) rfl) ak trivial k|exact au (gT (v:=.s (.string _)) rfl) ak trivial k|exact au (gT (v:=.mp _) rfl) ak trivial k|exact au (gT (v:=.rp _ _) rfl) ak trivial k|exact au (gT (v:=_) rfl) ak trivial k|fail):SO P Y ops dr x v m n s e:=h
theorem SS4(ht:oT x=4:=by exact rfl)(h:SO P Y ops dr x v m n s e:=by intro _ _ _ _ k;first|exact au (ku (v:=.s (.bool _)) rfl) ak trivial k|exact au (ku (v:=.s (.int _ _)) rfl) ak trivial k|exact au (ku (v:=.sl _ _) rfl) ak trivial k|exact au (ku (v:=.rs _ _ _) rfl) ak trivial k|exact au (ku (v:=.z) rfl) ak trivial k|exact au (ku (v:=.pt _) rfl) ak trivial k|exact au (ku (v:=.s (.pointer none)) rfl) ak trivial k|exact au (ku (v:=.mp _) rfl) ak trivial k|exact au (ku (v:=.fn _ _ _) rfl) ak trivial k|fail):SO P Y ops dr x v m n s e:=h
theorem ZQ(ht:oT x=18:=by exact rfl)(h:SO P Y ops dr x v m n s e:=by intro _ _ _ _ k;first|exact au (je (vs:=aX _) rfl V.h V.h rfl) ak (jf V.h V.h q8) k|exact au (je (vs:=b7 _) rfl V.h V.h rfl) ak (jf V.h V.h q8) k|exact au (je (vs:=bm _) rfl V.h V.h rfl) ak (jf V.h V.h q8) k|exact au (je (vs:=aF _ _ _) rfl V.h V.h rfl) ak (jf V.h V.h q8) k|exact au (je rfl V.h V.h rfl) ak (jf V.h V.h q8) k|exact au (je (vs:=dt _) rfl V.h V.h rfl) ak (jf V.h V.h q8) k|exact au (df rfl rfl V.h V.h (jW iY)) ak (dg V.h V.h iY) k|exact au (df (vs:=aX _) rfl rfl V.h V.h rfl) ak (dg V.h V.h uQ) k|exact au (df (vs:=bm _) rfl rfl V.h V.h rfl) ak (dg V.h V.h uQ) k|exact au (df (vs:=b7 _) rfl (up_same _ _ _) V.h V.h rfl) ak (dg V.h V.h uQ) k|exact au (je (vs:=jg _) rfl V.h V.h rfl) ak (jf V.h V.h q8) k|exact au (df rfl aj V.h V.h rfl) ak (dg V.h V.h uQ) k|exact au (df rfl bX V.h V.h rfl) ak (dg V.h V.h uQ) k|exact au (df rfl dZ V.h V.h rfl) ak (dg V.h V.h uQ) k|exact au (df rfl (up_same _ _ _) V.h V.h rfl) ak (dg V.h V.h uQ) k|exact au (df rfl (al oG rfl) V.h V.h (jW iY)) ak (dg V.h V.h iY) k|exact au (Lx rfl V.h) ak (LF V.h V.h) k|exact au (eD rfl rfl kd V.h) ak (eE V.h V.h kd) k|exact au (eD rfl aj kd V.h) ak (eE V.h V.h kd) k|exact au (eD rfl bX kd V.h) ak (eE V.h V.h kd) k|exact au (eD rfl (up_same _ _ _) kd V.h) ak (eE V.h V.h kd) k|exact au (eD rfl rfl rfl V.h) ak (eE V.h V.h rfl) k|exact au (eD rfl aj rfl V.h) ak (eE V.h V.h rfl) k|exact au (eD rfl bX rfl V.h) ak (eE V.h V.h rfl) k|exact au (eD rfl dZ rfl V.h) ak (eE V.h V.h rfl) k|fail):SO P Y ops dr x v m n s e:=h
theorem ZR(ht:oT x=36:=by exact rfl)(h:SO P Y ops dr x v m n s e:=by intro _ _ _ _ k;first|exact au (Kn rfl V.h) ak (mS V.h) k|exact au (oZ rfl rfl V.h) ak (mS V.h) k|exact au (oZ rfl aj V.h) ak (mS V.h) k|exact au (oZ rfl bX V.h) ak (mS V.h) k|exact au (oZ rfl (up_same _ _ _) V.h) ak (mS V.h) k|fail):SO P Y ops dr x v m n s e:=h
theorem SS6(ht:oT x=6:=by exact rfl)(h:SO P Y ops dr x v m n s e:=by intro _ _ _ _ k;first|exact Ub rfl rfl (by first|exact trivial|exact rfl) k|exact Uc rfl rfl (by first|exact trivial|exact rfl) k|exact Vj rfl rfl rfl (fun h=>by first|exact trivial|exact rfl|exact h|(show Eq _ _;rw[h];rfl)|(show Eq _ _;simp[h];done)|(show Eq _ _;simp_all;done)|fail) (fun h=>by first|exact trivial|exact rfl|exact h|(show Eq _ _;rw[h];rfl)|(show Eq _ _;simp[h];done)|(show Eq _ _;simp_all;done)|fail) k|fail):SO P Y ops dr x v m n s e:=h
theorem ZS(ht:oT x=19:=by exact rfl)(h:SO P Y ops dr x v m n s e:=by intro _ _ _ _ k;first|exact aT rfl rfl (Lx rfl V.h) (fun hc=>⟨ak,(LF V.h V.h)⟩) k|exact aT rfl rfl (je (vs:=aF _ _ _) rfl V.h V.h rfl) (fun hc=>⟨ak,(jf V.h V.h q8)⟩) k|exact aT rfl rfl (je (vs:=bm _) rfl V.h V.h rfl) (fun hc=>⟨ak,(jf V.h V.h q8)⟩) k|exact aT rfl rfl (eD rfl rfl rfl V.h) (fun hc=>⟨ak,(eE V.h V.h rfl)⟩) k|exact aT rfl rfl (eD rfl aj rfl V.h) (fun hc=>⟨ak,(eE V.h V.h rfl)⟩) k|exact aT rfl rfl (eD rfl (up_same _ _ _) rfl V.h) (fun hc=>⟨ak,(eE V.h V.h rfl)⟩) k|exact aT rfl rfl (df rfl (al oG rfl) V.h V.h (jW iY)) (fun hc=>⟨ak,(dg V.h V.h iY)⟩) k|fail):SO P Y ops dr x v m n s e:=h
theorem ZT(ht:oT x=37:=by exact rfl)(h:SO P Y ops dr x v m n s e:=by intro _ _ _ _ k;first|exact aT rfl rfl (Kn rfl V.h) (fun hc=>⟨ak,(mS V.h)⟩) k|exact aT rfl rfl (oZ rfl rfl V.h) (fun hc=>⟨ak,(mS V.h)⟩) k|exact aT rfl rfl (oZ rfl (up_same _ _ _) V.h) (fun hc=>⟨ak,(mS V.h)⟩) k|fail):SO P Y ops dr x v m n s e:=h
theorem SS3(ht:oT x=3:=by exact rfl)(h:SO P Y ops dr x v m n s e:=by intro _ _ _ _ k;first|exact aT rfl rfl (gT (v:=.s (.int _ _)) rfl) (fun hc=>⟨ak,trivial⟩) k|exact aT rfl rfl (gT (v:=.sl _ _) rfl) (fun hc=>⟨ak,trivial⟩) k|exact aT rfl rfl (gT (v:=.s (.bool _)) rfl) (fun hc=>⟨ak,trivial⟩) k|exact aT rfl rfl (gT (v:=.pt _) rfl) (fun hc=>⟨ak,trivial⟩) k|exact aT rfl rfl (gT (v:=.fn _ _ _) rfl) (fun hc=>⟨ak,trivial⟩) k|exact aT rfl rfl (gT (v:=.rs _ _ _) rfl) (fun hc=>⟨ak,trivial⟩) k|fail):SO P Y ops dr x v m n s e:=h
theorem ZU(ht:oT x=40:=by exact rfl)(h:SO P Y ops dr x v m n s e:=by intro _ _ _ _ k;first|exact au (LC rfl rfl V.h V.h (by assumption)) ak (LD V.h (by assumption)) k|exact au (tZ rfl rfl V.h V.h (AS) (by assumption)) ak (ua V.h (AS) (by assumption)) k|exact au (tZ rfl rfl V.h V.h (AT) (by assumption)) ak (ua V.h (AT) (by assumption)) k|exact au (Vl rfl rfl rfl V.h V.h V.h) ak ⟨V.h,by omega⟩ k|exact au (tZ rfl rfl V.h V.h (Dv) (by assumption)) ak (ua V.h (Dv) (by assumption)) k|exact au (kv rfl rfl rfl V.h V.h) ak ⟨V.h,by omega⟩ k|exact au (kv rfl rfl aj V.h V.h) ak ⟨V.h,by omega⟩ k|exact au (LA rfl rfl aj V.h V.h V.h) ak ⟨V.h,by omega,by omega⟩ k|exact au (kv rfl rfl bX V.h V.h) ak ⟨V.h,by omega⟩ k|exact au (kv rfl rfl (up_same _ _ _) V.h V.h) ak ⟨V.h,by omega⟩ k|exact au (ym rfl rfl rfl V.h V.h) ak ⟨V.h,by omega⟩ k|exact au (Vm rfl rfl (up_same _ _ _) V.h V.h) ak ⟨V.h,by omega⟩ k|fail):SO P Y ops dr x v m n s e:=h
theorem ZV(ht:oT x=74:=by exact rfl)(h:SO P Y ops dr x v m n s e:=by intro _ _ _ _ k;first|exact au (yW rfl rfl gL) ak rfl k|exact au (Ff rfl rfl) ak rfl k|fail):SO P Y ops dr x v m n s e:=h
theorem ZW(ht:oT x=20:=by exact rfl)(h:SO P Y ops dr x v m n s e:=by intro _ _ _ _ k;first|exact bB (iE (cs':=b7 _) rfl rfl (up_same _ _ _) rfl) ak (cF V.h V.h oz (by rfl)) k|exact bB (dC (d:=.s (.string _)) (cs':=_) rfl rfl rfl rfl rfl) ak (cF V.h V.h oz rfl) k|exact bB (iE rfl rfl rfl (Es iY iY)) ak (xY iY iY Hc) k|exact bB (iE (cs':=dt _) rfl rfl (up_same _ _ _) rfl) ak (cF V.h V.h oz (by rfl)) k|exact bB (iE rfl rfl (up_same _ _ _) (Es iY iY)) ak (xY iY iY Hc) k|exact bB (iE (cs':=jg _) rfl rfl (up_same _ _ _) rfl) ak (cF V.h V.h oz (by rfl)) k|exact bB (dC (d:=.s (.int _ _)) (cs':=_) rfl rfl rfl rfl rfl) ak (cF V.h V.h oz rfl) k|exact bB (dC (d:=.s (.int _ _)) (cs':=_) rfl rfl (up_same _ _ _) rfl rfl) ak (cF V.h V.h oz rfl) k|exact bB (iE rfl rfl rfl rfl) ak (cF V.h V.h oz (by rfl)) k|exact bB (iE rfl rfl (up_same _ _ _) rfl) ak (cF V.h V.h oz (by rfl)) k|exact bB (iE rfl rfl (al oG rfl) (Es iY iY)) ak (xY iY iY Hc) k|exact bB (iE rfl rfl rfl (MM (by decide) (by assumption) (by assumption) (by first|assumption|(simp;omega)|(simp;done)|fail))) ak (xY (by first|(simp;omega)|(simp;done)|fail) (uk (by assumption) (by assumption)) (iM _)) k|exact bB (dC (d:=.rs _ _ _) (cs':=[_]) rfl rfl (al oG (al oG aj)) rfl rfl) ak (cF V.h V.h oz rfl) k|exact bB (dC (d:=.rs _ _ _) (cs':=_) rfl rfl rfl rfl rfl) ak (cF V.h V.h oz rfl) k|exact bB (dC (d:=.z) (cs':=_) rfl rfl rfl rfl rfl) ak (cF V.h V.h oz rfl) k|fail):SO P Y ops dr x v m n s e:=h
theorem ZX(ht:oT x=50:=by exact rfl)(h:SO P Y ops dr x v m n s e:=by intro _ _ _ _ k;first|exact au (MC rfl) ak V.h k|exact au (EL rfl) ak V.h k|exact au (Bw rfl rfl) ak V.h k|exact au (Bw rfl aj) ak V.h k|exact sH (r5 rfl (al oG bX) rfl V.h V.h (rH (up_same _ _ _) rfl) rfl) ak ⟨V.h,rfl,(by first|omega|exact aP rfl|(simp;done)|(simp;omega)),(by decide),(by first|rfl|(simp;done)|(simp;omega)),(by unfold maxLen;first|omega|(simp;omega)),(by rw[b3];first|omega|(simp;omega)),(by first|(simp;done)|(simp;omega))⟩ k|exact fa (V8 rfl rfl V.h V.h (rH (up_same _ _ _) rfl)) ak ⟨V.h,(by first|omega|exact aP rfl|(simp;done)|(simp;omega)),(by decide),(by unfold maxLen;first|omega|(simp;omega)),(by rw[b3];first|omega|(simp;omega))⟩ k|fail):SO P Y ops dr x v m n s e:=h
theorem ZY(ht:oT x=52:=by exact rfl)(h:SO P Y ops dr x v m n s e:=by intro _ _ _ _ k;first|exact au (Mz rfl rfl oG) ak rfl k|fail):SO P Y ops dr x v m n s e:=h
theorem ZZ(ht:oT x=78:=by exact rfl)(h:SO P Y ops dr x v m n s e:=by intro _ _ _ _ k;first|exact au (LN rfl rfl wP) ak rfl k|exact au (E9 rfl rfl) ak rfl k|fail):SO P Y ops dr x v m n s e:=h
theorem Z0(ht:oT x=10:=by exact rfl)(h:SO P Y ops dr x v m n s e:=by intro _ _ _ _ k;first|exact fa (qd (cs:=aX _) rfl) ak (by first|rfl|exact pX dz dY|exact iM _|exact qm ka) k|exact fa (qd rfl) ak (by first|rfl|exact pX dz dY|exact iM _|exact qm ka) k|exact fa (qd (cs:=bm _) rfl) ak (by first|rfl|exact pX dz dY|exact iM _|exact qm ka) k|exact fa (qd (cs:=b7 _) rfl) ak (by first|rfl|exact pX dz dY|exact iM _|exact qm ka) k|exact fa (qd (cs:=aF _ _ _) rfl) ak (by first|rfl|exact pX dz dY|exact iM _|exact qm ka) k|exact fa (Bu (d:=.s (.int _ _)) rfl rfl) ak rfl k|fail):SO P Y ops dr x v m n s e:=h
theorem SS8(ht:oT x=8:=by exact rfl)(h:SO P Y ops dr x v m n s e:=by intro _ _ _ _ k;first|exact fa (U7 V.h) ak V.h k|fail):SO P Y ops dr x v m n s e:=h
theorem Z1(ht:oT x=75:=by exact rfl)(h:SO P Y ops dr x v m n s e:=by intro _ _ _ _ k;first|exact aT rfl rfl (yW rfl rfl uo) (fun hc=>⟨ak,rfl⟩) k|exact aT rfl rfl (Ff rfl rfl) (fun hc=>⟨ak,rfl⟩) k|fail):SO P Y ops dr x v m n s e:=h
theorem Z2(ht:oT x=48:=by exact rfl)(h:SO P Y ops dr x v m n s e:=by intro _ _ _ _ k;first|exact au (nz (v:=.s (.int _ _)) rfl rfl) ak xr k|exact au (nz (v:=.s (.bool _)) rfl rfl) ak xr k|exact au (nz (v:=.sl _ _) rfl rfl) ak xr k|exact au (nz (v:=.pt _) rfl rfl) ak xr k|exact au (nz (v:=.s (.pointer none)) rfl rfl) ak xr k|exact au (nz (v:=.agg _) rfl rfl) ak xr k|fail):SO P Y ops dr x v m n s e:=h
theorem Z3(ht:oT x=51:=by exact rfl)(h:SO P Y ops dr x v m n s e:=by intro _ _ _ _ k;first|exact aT rfl rfl (MC rfl) (fun hc=>⟨ak,V.h⟩) k|fail):SO P Y ops dr x v m n s e:=h
theorem Z4(ht:oT x=25:=by exact rfl)(h:SO P Y ops dr x v m n s e:=by intro _ _ _ _ k;first|exact aT rfl rfl (MA rfl) (fun hc=>⟨ak,trivial⟩) k|fail):SO P Y ops dr x v m n s e:=h
theorem Z5(ht:oT x=12:=by exact rfl)(h:SO P Y ops dr x v m n s e:=by intro _ _ _ _ k;first|exact au (DU V.h V.h V.h rfl rfl) ak ⟨V.h,V.h⟩ k|fail):SO P Y ops dr x v m n s e:=h
theorem Z6(ht:oT x=24:=by exact rfl)(h:SO P Y ops dr x v m n s e:=by intro _ _ _ _ k;first|exact au (MA rfl) ak trivial k|fail):SO P Y ops dr x v m n s e:=h
theorem Z7(ht:oT x=76:=by exact rfl)(h:SO P Y ops dr x v m n s e:=by intro _ _ _ _ k;first|exact au (LO rfl rfl fR) ak rfl k|exact au (Fg rfl rfl) ak rfl k|fail):SO P Y ops dr x v m n s e:=h
theorem Z8(ht:oT x=83:=by exact rfl)(h:SO P Y ops dr x v m n s e:=by intro _ _ _ _ k;first|exact aT rfl rfl (LP rfl rfl ei) (fun hc=>⟨ak,rfl⟩) k|exact aT rfl rfl (Fa rfl rfl) (fun hc=>⟨ak,rfl⟩) k|fail):SO P Y ops dr x v m n s e:=h
theorem Z9(ht:oT x=82:=by exact rfl)(h:SO P Y ops dr x v m n s e:=by intro _ _ _ _ k;first|exact au (LP rfl rfl ei) ak rfl k|exact au (Fa rfl rfl) ak rfl k|fail):SO P Y ops dr x v m n s e:=h
theorem Z'(ht:oT x=22:=by exact rfl)(h:SO P Y ops dr x v m n s e:=by intro _ _ _ _ k;first|exact au (Ly rfl) ak trivial k|exact au (Lz rfl aj) ak trivial k|exact au (Lz rfl bX) ak trivial k|fail):SO P Y ops dr x v m n s e:=h
theorem SS7(ht:oT x=7:=by exact rfl)(h:SO P Y ops dr x v m n s e:=by intro _ _ _ _ k;first|exact S6 rfl rfl rfl rfl (by first|exact fun _=>trivial|exact fun _=>rfl|exact fun hc=>hc) (by first|exact fun _=>trivial|exact fun _=>rfl|exact fun hc=>hc) k|exact S7 rfl rfl rfl rfl (by first|exact fun _=>trivial|exact fun _=>rfl|exact fun hc=>hc) (by first|exact fun _=>trivial|exact fun _=>rfl|exact fun hc=>hc) k|exact Ud rfl rfl rfl rfl rfl (by first|exact fun _=>trivial|exact fun _=>rfl|exact fun hc=>hc) (fun hc h=>by first|exact trivial|exact rfl|exact hc|(show Eq _ _;rw[hc,h];rfl)|(show Eq _ _;rw[h,hc];rfl)|(show Eq _ _;simp[hc,h];done)|(show Eq _ _;simp_all;done)|fail) (fun hc h=>by first|exact trivial|exact rfl|exact hc|(show Eq _ _;rw[hc,h];rfl)|(show Eq _ _;rw[h,hc];rfl)|(show Eq _ _;simp[hc,h];done)|(show Eq _ _;simp_all;done)|fail) k|fail):SO P Y ops dr x v m n s e:=h
theorem aaa(ht:oT x=16:=by exact rfl)(h:SO P Y ops dr x v m n s e:=by intro _ _ _ _ k;first|exact bB (Uf rfl rfl rfl rfl V.h) ak ⟨V.h,by kernel_rfl,by kernel_rfl⟩ k|fail):SO P Y ops dr x v m n s e:=h
theorem aab(ht:oT x=14:=by exact rfl)(h:SO P Y ops dr x v m n s e:=by intro _ _ _ _ k;first|exact fa (xR (cs:=[_]) V.h V.h V.h rfl rfl) ak ⟨rfl,by decide,V.h,by decide⟩ k|exact fa (xR (cs:=[_,_]) V.h V.h V.h rfl rfl) ak ⟨rfl,by decide,V.h,by decide⟩ k|fail):SO P Y ops dr x v m n s e:=h
theorem aac(ht:oT x=41:=by exact rfl)(h:SO P Y ops dr x v m n s e:=by intro _ _ _ _ k;first|exact aT rfl rfl (LC rfl rfl V.h V.h (by assumption)) (fun hc=>⟨ak,(LD V.h (by assumption))⟩) k|fail):SO P Y ops dr x v m n s e:=h
theorem aad(ht:oT x=77:=by exact rfl)(h:SO P Y ops dr x v m n s e:=by intro _ _ _ _ k;first|exact aT rfl rfl (LO rfl rfl fR) (fun hc=>⟨ak,rfl⟩) k|exact aT rfl rfl (Fg rfl rfl) (fun hc=>⟨ak,rfl⟩) k|fail):SO P Y ops dr x v m n s e:=h
theorem aae(ht:oT x=54:=by exact rfl)(h:SO P Y ops dr x v m n s e:=by intro _ _ _ _ k;first|exact au (LQ rfl rfl oc) ak rfl k|exact au (Fh rfl rfl oG) ak rfl k|fail):SO P Y ops dr x v m n s e:=h
theorem aaf(ht:oT x=28:=by exact rfl)(h:SO P Y ops dr x v m n s e:=by intro _ _ _ _ k;first|exact au (LB rfl rfl) ak trivial k|fail):SO P Y ops dr x v m n s e:=h
theorem aag(ht:oT x=84:=by exact rfl)(h:SO P Y ops dr x v m n s e:=by intro _ _ _ _ k;first|exact au (Fb rfl rfl) ak rfl k|fail):SO P Y ops dr x v m n s e:=h
theorem aah(ht:oT x=81:=by exact rfl)(h:SO P Y ops dr x v m n s e:=by intro _ _ _ _ k;first|exact aT rfl rfl (LR rfl rfl zs) (fun hc=>⟨ak,rfl⟩) k|exact aT rfl rfl (E' rfl rfl) (fun hc=>⟨ak,rfl⟩) k|fail):SO P Y ops dr x v m n s e:=h
theorem aai(ht:oT x=32:=by exact rfl)(h:SO P Y ops dr x v m n s e:=by intro _ _ _ _ k;first|exact fa (xX rfl rfl V.h V.h) ak ⟨by omega,rfl,by omega,by rw[b4];omega,V.h⟩ k|exact fa (xX rfl rfl V.h V.h) ak ⟨by omega,rfl,by omega,by rw[Qx];omega,V.h⟩ k|fail):SO P Y ops dr x v m n s e:=h
theorem aaj(ht:oT x=23:=by exact rfl)(h:SO P Y ops dr x v m n s e:=by intro _ _ _ _ k;first|exact aT rfl rfl (Ly rfl) (fun hc=>⟨ak,trivial⟩) k|fail):SO P Y ops dr x v m n s e:=h
theorem aak(ht:oT x=79:=by exact rfl)(h:SO P Y ops dr x v m n s e:=by intro _ _ _ _ k;first|exact aT rfl rfl (LN rfl rfl wP) (fun hc=>⟨ak,rfl⟩) k|exact aT rfl rfl (E9 rfl rfl) (fun hc=>⟨ak,rfl⟩) k|fail):SO P Y ops dr x v m n s e:=h
theorem aal(ht:oT x=30:=by exact rfl)(h:SO P Y ops dr x v m n s e:=by intro _ _ _ _ k;first|exact fa Xd ak trivial k|fail):SO P Y ops dr x v m n s e:=h
theorem aam(ht:oT x=13:=by exact rfl)(h:SO P Y ops dr x v m n s e:=by intro _ _ _ _ k;first|exact aT rfl rfl (DU V.h V.h V.h rfl rfl) (fun hc=>⟨ak,⟨V.h,V.h⟩⟩) k|fail):SO P Y ops dr x v m n s e:=h
theorem aan(ht:oT x=80:=by exact rfl)(h:SO P Y ops dr x v m n s e:=by intro _ _ _ _ k;first|exact au (LR rfl rfl zs) ak rfl k|fail):SO P Y ops dr x v m n s e:=h
theorem aao(ht:oT x=55:=by exact rfl)(h:SO P Y ops dr x v m n s e:=by intro _ _ _ _ k;first|exact aT rfl rfl (LQ rfl rfl oc) (fun hc=>⟨ak,rfl⟩) k|fail):SO P Y ops dr x v m n s e:=h
theorem aap(ht:oT x=15:=by exact rfl)(h:SO P Y ops dr x v m n s e:=by intro _ _ _ _ k;first|exact Wg rfl rfl (xR (cs:=[_]) V.h V.h V.h rfl rfl) ak ⟨rfl,by decide,V.h,by decide⟩ k|fail):SO P Y ops dr x v m n s e:=h
theorem SS(K:AOps P Y ops dr cf Q r s (q++[e]))(h:SO P Y ops dr x v m n s e:=by first|exact SS2|exact SS4|exact ZQ|exact ZR|exact SS6|exact ZS|exact ZT|exact SS3|exact ZU|exact ZV|exact ZW|exact ZX|exact ZY|exact ZZ|exact Z0|exact SS8|exact Z1|exact Z2|exact Z3|exact Z4|exact Z5|exact Z6|exact Z7|exact Z8|exact Z9|exact Z'|exact SS7|exact aaa|exact aab|exact aac|exact aad|exact aae|exact aaf|exact aag|exact aah|exact aai|exact aaj|exact aak|exact aal|exact aam|exact aan|exact aao|exact aap):AOps P Y ops dr cf Q (x::r) ⟨v,m,n⟩ q:=h _ _ _ _ K
variable{x2 x3 x4 x5 x6 x7 x8 x9:Oper}{e2 e3 e4 e5 e6 e7 e8 e9:List Nat×List Nat}
theorem ab(K:AOps P Y ops dr cf Q r s (q++[e]++[e2]))(h:∀ cf Q r q,AOps P Y ops dr cf Q r s (q++[e]++[e2])->AOps P Y ops dr cf Q (x::x2::r) ⟨v,m,n⟩ q:=by intro _ _ _ _ k;(iterate 2 refine SS ?_);exact k):AOps P Y ops dr cf Q (x::x2::r) ⟨v,m,n⟩ q:=h _ _ _ _ K
theorem av(K:AOps P Y ops dr cf Q r s (q++[e]++[e2]++[e3]))(h:∀ cf Q r q,AOps P Y ops dr cf Q r s (q++[e]++[e2]++[e3])->AOps P Y ops dr cf Q (x::x2::x3::r) ⟨v,m,n⟩ q:=by intro _ _ _ _ k;(iterate 3 refine SS ?_);exact k):AOps P Y ops dr cf Q (x::x2::x3::r) ⟨v,m,n⟩ q:=h _ _ _ _ K
theorem aI(K:AOps P Y ops dr cf Q r s (q++[e]++[e2]++[e3]++[e4]))(h:∀ cf Q r q,AOps P Y ops dr cf Q r s (q++[e]++[e2]++[e3]++[e4])->AOps P Y ops dr cf Q (x::x2::x3::x4::r) ⟨v,m,n⟩ q:=by intro _ _ _ _ k;(iterate 4 refine SS ?_);exact k):AOps P Y ops dr cf Q (x::x2::x3::x4::r) ⟨v,m,n⟩ q:=h _ _ _ _ K
theorem aQ(K:AOps P Y ops dr cf Q r s (q++[e]++[e2]++[e3]++[e4]++[e5]))(h:∀ cf Q r q,AOps P Y ops dr cf Q r s (q++[e]++[e2]++[e3]++[e4]++[e5])->AOps P Y ops dr cf Q (x::x2::x3::x4::x5::r) ⟨v,m,n⟩ q:=by intro _ _ _ _ k;(iterate 5 refine SS ?_);exact k):AOps P Y ops dr cf Q (x::x2::x3::x4::x5::r) ⟨v,m,n⟩ q:=h _ _ _ _ K
theorem bC(K:AOps P Y ops dr cf Q r s (q++[e]++[e2]++[e3]++[e4]++[e5]++[e6]))(h:∀ cf Q r q,AOps P Y ops dr cf Q r s (q++[e]++[e2]++[e3]++[e4]++[e5]++[e6])->AOps P Y ops dr cf Q (x::x2::x3::x4::x5::x6::r) ⟨v,m,n⟩ q:=by intro _ _ _ _ k;(iterate 6 refine SS ?_);exact k):AOps P Y ops dr cf Q (x::x2::x3::x4::x5::x6::r) ⟨v,m,n⟩ q:=h _ _ _ _ K
theorem eW(K:AOps P Y ops dr cf Q r s (q++[e]++[e2]++[e3]++[e4]++[e5]++[e6]++[e7]))(h:∀ cf Q r q,AOps P Y ops dr cf Q r s (q++[e]++[e2]++[e3]++[e4]++[e5]++[e6]++[e7])->AOps P Y ops dr cf Q (x::x2::x3::x4::x5::x6::x7::r) ⟨v,m,n⟩ q:=by intro _ _ _ _ k;(iterate 7 refine SS ?_);exact k):AOps P Y ops dr cf Q (x::x2::x3::x4::x5::x6::x7::r) ⟨v,m,n⟩ q:=h _ _ _ _ K
theorem cy(K:AOps P Y ops dr cf Q r s (q++[e]++[e2]++[e3]++[e4]++[e5]++[e6]++[e7]++[e8]))(h:∀ cf Q r q,AOps P Y ops dr cf Q r s (q++[e]++[e2]++[e3]++[e4]++[e5]++[e6]++[e7]++[e8])->AOps P Y ops dr cf Q (x::x2::x3::x4::x5::x6::x7::x8::r) ⟨v,m,n⟩ q:=by intro _ _ _ _ k;(iterate 8 refine SS ?_);exact k):AOps P Y ops dr cf Q (x::x2::x3::x4::x5::x6::x7::x8::r) ⟨v,m,n⟩ q:=h _ _ _ _ K
theorem aN(K:AOps P Y ops dr cf Q r s (q++[e]++[e2]++[e3]++[e4]++[e5]++[e6]++[e7]++[e8]++[e9]))(h:∀ cf Q r q,AOps P Y ops dr cf Q r s (q++[e]++[e2]++[e3]++[e4]++[e5]++[e6]++[e7]++[e8]++[e9])->AOps P Y ops dr cf Q (x::x2::x3::x4::x5::x6::x7::x8::x9::r) ⟨v,m,n⟩ q:=by intro _ _ _ _ k;(iterate 9 refine SS ?_);exact k):AOps P Y ops dr cf Q (x::x2::x3::x4::x5::x6::x7::x8::x9::r) ⟨v,m,n⟩ q:=h _ _ _ _ K
end
end Go.Abs
namespace Go.Abs
open Go.ChangeShapes Go.WideShapes
inductive wl:List Sh->List D->Prop
 |nil:wl [] []
 |cons {s:Sh} {l:List Sh} {ds:List D} (x:s.val) (hx:s.ok x) (h:wl l ds):wl (s::l) (s.arg x::ds)
def sQ(P:Program)(n:Nat):List TypeId->Option (List Sh)
 |[]=>some []
 |t::ts=>match shT P n t,sQ P n ts with
  |some s,some l=>some (s::l)
  |_,_=>none
theorem TT{P:Program}{n:Nat}{t:TypeId}{ts:List TypeId}{l:List Sh}(h:sQ P n (t::ts)=some l):∃ s l',shT P n t=some s/\sQ P n ts=some l'/\l=s::l':=by
 simp only[sQ] at h;split at h
 .rename_i s l' h1 h2;simp only[ay] at h;exact⟨s,l',h1,h2,h.symm⟩
 .cases h
section
variable{P:Program}{H:Type}{ec:TypeId×Value->H}{w w':World}{base b0:Nat}{r:Reach}
theorem Mw{n:Nat}:∀ {ts:List TypeId} {C:List Sh} {vs:List Value} {ds:List (DataW H)} {ps:List MemPlace},sQ P n ts=some C->
 (∀ (j:Nat) t v,ts[j]? =some t->vs[j]? =some v->Value.okWide P w r b0 t v)->DataW.TrodAll ec P w base (fun _=>true) true ts vs ds ps->
 ∃ aS,wl C aS/\aS.length=vs.length/\∀ (k:Nat) (d:D) (v:Value),aS[k]? =some d->vs[k]? =some v->R (fun _=>False) noRows w d v
 |[],C,[],[],_,hs,_,_=>by
  simp only[sQ,ay] at hs;subst hs;exact⟨[],.nil,rfl,oS⟩
 |t::ts,C,v::vs,d::ds,ps,hs,bz,h=>by
  obtain⟨p,q,h1,h2,_⟩:=h;obtain⟨s,l',M,X,rfl⟩:=TT hs;obtain⟨x,J,hx⟩:=arg_R M (bz 0 t v rfl rfl) h1;obtain⟨aS,a1,a2,a3⟩:=Mw X (fun j t v hj hv=>bz (j+1) t v (by simpa using hj) (by simpa using hv)) h2;refine⟨s.arg x::aS,.cons x J a1,by simp[a2],fun k d v hd hv=>?_⟩;cases k with
  |zero=>
   simp only[List.getElem?_cons_zero,ay] at hd hv;subst hd hv;exact hx
  |succ k=>exact a3 k d v (by simpa using hd) (by simpa using hv)
 |[],_,_::_,_,_,_,_,h=>by simp[DataW.TrodAll] at h
 |[],_,[],_::_,_,_,_,h=>by simp[DataW.TrodAll] at h
 |_::_,_,[],_,_,_,_,h=>by simp[DataW.TrodAll] at h
 |_::_,_,_::_,[],_,_,_,h=>by simp[DataW.TrodAll] at h
theorem Kept.same(h:Kept w w'){p:MemPlace}(hp:p.block<w.heap.size):w.sameAt w' p:=by
 cases p with
 |cell b o=>exact Go.World.cell?_of_block (w:=w) (h.2.1 b hp)
 |map b=>exact h.2.1 b hp
theorem Kept.frame(h:Kept w w')(C:MemPlace->Prop):w.keptBut w' C:=by
 refine⟨h.2.2.1,h.2.2.2,fun i hi=>?_⟩;rw[h.2.1 i hi];split<;>simp_all
theorem Iq(hl:laidOutB P=true)(h:Kept w w'):∀ {ts:List TypeId} {vs:List Value} {ds:List (DataW H)} {ps:List MemPlace},(ts.all fun t=>P.readableRec t&&decide (t<P.types.size))=true->
 DataW.TrodAll ec P w 0 (fun _=>true) true ts vs ds ps->DataW.TrodAll ec P w' 0 (fun b=>decide (b<w.heap.size)) true ts vs ds ps
 |[],[],[],_,_,h0=>h0
 |t::ts,v::vs,d::ds,ps,ht,h0=>by
  obtain⟨p,q,h1,h2,rfl⟩:=h0;simp only[List.all_cons,aG,decide_eq_true_eq] at ht;have af:∀ x∈p,x.block<w.heap.size:=by obtain⟨m,hm⟩:=h1;exact DataW.trod_lt m _ _ _ hm
  exact⟨p,q,WideElems.Trod_stays hl ht.1.1 ht.1.2 h1 (fun x hx=>h.same (af x hx)) (fun x hx=>by simpa using af x hx),Iq hl h (by simpa using ht.2) h2,rfl⟩
 |[],_::_,_,_,_,h0=>by simp[DataW.TrodAll] at h0
 |[],[],_::_,_,_,h0=>by simp[DataW.TrodAll] at h0
 |_::_,[],_,_,_,h0=>by simp[DataW.TrodAll] at h0
 |_::_,_::_,[],_,_,h0=>by simp[DataW.TrodAll] at h0
theorem IF:∀ {ts:List TypeId} {vs:List Value} {ds:List (DataW H)} {ps:List MemPlace},DataW.TrodAll ec P w 0 (fun _=>true) true ts vs ds ps->ds.length=ts.length
 |[],[],[],_,_=>rfl
 |t::ts,v::vs,d::ds,ps,h0=>by
  obtain⟨p,q,h1,h2,rfl⟩:=h0;simp[IF h2]
 |[],_::_,_,_,h0=>by simp[DataW.TrodAll] at h0
 |[],[],_::_,_,h0=>by simp[DataW.TrodAll] at h0
 |_::_,[],_,_,h0=>by simp[DataW.TrodAll] at h0
 |_::_,_::_,[],_,h0=>by simp[DataW.TrodAll] at h0
end
theorem RZ{C:Checked}{f:FuncId}{fn:Func}{s:ChangeSpec}{H:Type}{ec:TypeId×Value->H}{n:Nat}{vm:List Sh}{tb:TypeId}
 (Oi:s.vars=[]) (hs:∀ ds:List (DataW H),ds.length=fn.params.size->s.fn H ds={ results:=[.lit (.bool true)],args:=ds })
 (Zu:laidOutB C.prog=true) (Zv:(fn.params.toList.all fun t=>C.prog.readableRec t&&decide (t<C.prog.types.size))=true) (eh:fn.resultTypes= #[tb]) (hb:C.prog.underlying tb=some .bool)
 (hsh:sQ C.prog n fn.params.toList=some vm) (h:∀ aS,wl vm aS->PCall C.prog f aS (.s (.bool true)))
 (W:World) (base:Nat) (args:Array Value) (ds gs:List (DataW H)) (before:List MemPlace)
 (zL:∀ (j:Nat) t v,fn.params[j]? =some t->args[j]? =some v->Value.okWide C.prog W .any base t v)
 (hW:DataW.Whole ec C.prog fn.params.toList s.vars false W args.toList ds gs before):
 Calls C.prog f args W fun e W'=>∃ v,e=.returned v/\s.post ec C.prog fn false true false false W args v W':=by
 have X:=hW;obtain⟨p,q,J,M,rfl,hfz,bG⟩:=hW;rw[Oi] at M
 have hg:gs=[]/\q=[]:=by
  cases gs with
  |nil=>exact⟨rfl,M⟩
  |cons g gs=>exact M.elim
 obtain⟨rfl,rfl⟩:=hg;obtain⟨aS,a1,a2,a3⟩:=Mw hsh (fun j t v hj hv=>zL j t v (by simpa using hj) (by simpa using hv)) J;refine((h aS a1).2.2 (fun _=>False) W args (fun _ hf=>hf.elim) ⟨by simpa using a2.symm,fun k d v hd hv=>a3 k d v hd (by simpa using hv)⟩).mono ?_;rintro e W' ⟨v,rfl,hv,hk⟩;obtain⟨rfl,_⟩:=hv.s_inv;have hlen:ds.length=fn.params.size:=by simpa using IF J
 refine⟨_,rfl,ds,[],_,[],p,[],X,?_,?_,?_,hk.frame _,fun h=>by cases h⟩
 .rw[List.append_nil,hs ds hlen,eh];exact⟨[],[],⟨1,by simp[DataW.trod,Value.cells,hb]⟩,rfl,rfl⟩
 .rw[List.append_nil,hs ds hlen];exact Iq Zu hk Zv J
 .rw[List.append_nil,hs ds hlen,Oi];rfl
end Go.Abs
section
open Go Go.Abs Go.Proofs Go.Argus
namespace Go.Proofs.Tryz.K
set_option maxRecDepth 10000
theorem F5{l:List Int}{g:FuncId}{fs cs:List D}{p:Int->Bool}(ht:Tr (.fn (.func g) fs cs))(hg:∀ x∈l,PCall prog g (fs++[U8 x]++cs) (B (p x))):PCall prog 252 [ik l,.fn (.func g) fs cs] (I (j3 p l)):=by
 refine mA Fs.he (.cons (o3 _) (.cons ht .nil)) fun C=>?_;have hlen:=(C (ik l) oS).sl.1;unfold maxLen at hlen;refine bd Fs (.cons (o3 _) (.cons ht .nil)) (Tr.s _) ?_;rw[Xq];refine ws ?_;refine SS ?_;refine aa (aB (ax ?_));refine av ?_
 refine aa (cN (fun s=>Ghost prog s ⟨aw [],fun _=>none,0⟩/\∀ (j:Nat) y,l[j]? =some y->p y=false) (cG (α:=Nat) (fun k=>⟨aw [(0,ik l),(1,.fn (.func g) fs cs),(7,I l.length),(8,I k)],fun _=>none,0⟩)
  (fun k=>k<=l.length/\∀ j y,j<k->l[j]? =some y->p y=false) (fun k=>l.length - k) 0 (aq eH) ⟨oG,fun j y hj=>by omega⟩ ?_) ?_)
 .rintro k ⟨hk,hinv⟩;refine SS ?_;refine aa ⟨_,rfl,fun h=>?_,fun h=>?_⟩
  .have af:k<l.length:=by simpa using h
   have hx:l[k]? =some l[k]:=by simp[af]
   generalize l[k]=x at hx;have M:=hg x (bJ hx);refine ws ?_;refine ab ?_;refine er ?_;refine aQ ?_;refine cl M ?_;refine aa (aD rfl (fun hp=>?_) fun hp=>?_)
   .refine ws ?_;refine ab ?_;refine aa (bq (cz (bl (az rfl ?_))));rw[xS hx hp hinv];rfl
   .refine cI ?_;refine ab ?_;refine aa (aJ (k+1) (aq eH) ⟨oG,fun j y hj hy=>?_⟩ oG);by_cases e:j=k
    .subst e;rw[hx] at hy;cases hy;exact hp
    .exact hinv j y oG hy
  .have X:¬ k<l.length:=by simpa using h
   exact⟨.forget _ _ _ _ fun _=>.inr rfl,fun j y hy=>hinv j y (by have:=(bj.1 hy).1;omega) hy⟩
 .rintro s ⟨hg,J⟩;refine⟨_,hg,ai ?_⟩;refine SS ?_;refine aa (az rfl ?_);rw[xT J];rfl
theorem qD{l:List Int}{g:FuncId}{fs cs:List D}{p:Int->Bool}(ht:Tr (.fn (.func g) fs cs))(hg:∀ x∈l,PCall prog g (fs++[U8 x]++cs) (B (p x))):PCall prog 228 [ik l,.fn (.func g) fs cs] (B (l.any p)):=by
 have F5:=F5 ht hg;refine bd MN (.cons (o3 _) (.cons ht .nil)) (Tr.s _) ?_;rw[Xr];refine ws ?_;refine SS ?_;refine er ?_;refine ab ?_;refine cl F5 ?_;refine ab ?_;refine aa (az rfl ?_);rw[<- xZ];rfl
theorem F6{l:List ByteArray}{g:FuncId}{fs cs:List D}{p:ByteArray->Bool}(ht:Tr (.fn (.func g) fs cs))(hg:∀ x∈l,PCall prog g (fs++[S x]++cs) (B (p x))):PCall prog 231 [mE l,.fn (.func g) fs cs] (I (j3 p l)):=by
 refine mA Ft.he (.cons (vN _) (.cons ht .nil)) fun C=>?_;have hlen:=(C (mE l) oS).sl.1;unfold maxLen at hlen;refine bd Ft (.cons (vN _) (.cons ht .nil)) (Tr.s _) ?_;rw[Xs];refine ws ?_;refine SS ?_;refine aa (aB (ax ?_));refine av ?_
 refine aa (cN (fun s=>Ghost prog s ⟨aw [],fun _=>none,0⟩/\∀ (j:Nat) y,l[j]? =some y->p y=false) (cG (α:=Nat) (fun k=>⟨aw [(0,mE l),(1,.fn (.func g) fs cs),(7,I l.length),(8,I k)],fun _=>none,0⟩)
  (fun k=>k<=l.length/\∀ j y,j<k->l[j]? =some y->p y=false) (fun k=>l.length - k) 0 (aq eH) ⟨oG,fun j y hj=>by omega⟩ ?_) ?_)
 .rintro k ⟨hk,hinv⟩;refine SS ?_;refine aa ⟨_,rfl,fun h=>?_,fun h=>?_⟩
  .have af:k<l.length:=by simpa using h
   have hx:l[k]? =some l[k]:=by simp[af]
   generalize l[k]=x at hx;have M:=hg x (bJ hx);refine ws ?_;refine ab ?_;refine er ?_;refine aQ ?_;refine cl M ?_;refine aa (aD rfl (fun hp=>?_) fun hp=>?_)
   .refine ws ?_;refine ab ?_;refine aa (bq (cz (bl (az rfl ?_))));rw[xS hx hp hinv];rfl
   .refine cI ?_;refine ab ?_;refine aa (aJ (k+1) (aq eH) ⟨oG,fun j y hj hy=>?_⟩ oG);by_cases e:j=k
    .subst e;rw[hx] at hy;cases hy;exact hp
    .exact hinv j y oG hy
  .have X:¬ k<l.length:=by simpa using h
   exact⟨.forget _ _ _ _ fun _=>.inr rfl,fun j y hy=>hinv j y (by have:=(bj.1 hy).1;omega) hy⟩
 .rintro s ⟨hg,J⟩;refine⟨_,hg,ai ?_⟩;refine SS ?_;refine aa (az rfl ?_);rw[xT J];rfl
theorem B5{l:List ByteArray}{g:FuncId}{fs cs:List D}{p:ByteArray->Bool}(ht:Tr (.fn (.func g) fs cs))(hg:∀ x∈l,PCall prog g (fs++[S x]++cs) (B (p x))):PCall prog 192 [mE l,.fn (.func g) fs cs] (B (l.any p)):=by
 have F6:=F6 ht hg;refine bd MO (.cons (vN _) (.cons ht .nil)) (Tr.s _) ?_;rw[Xt];refine ws ?_;refine SS ?_;refine er ?_;refine ab ?_;refine cl F6 ?_;refine ab ?_;refine aa (az rfl ?_);rw[<- xZ];rfl
theorem F7{l:List hC}{g:FuncId}{fs cs:List D}{p:hC->Bool}(ht:Tr (.fn (.func g) fs cs))(hg:∀ x∈l,PCall prog g (fs++[.agg (jg x)]++cs) (B (p x))):PCall prog 260 [mC l,.fn (.func g) fs cs] (I (j3 p l)):=by
 refine mA Fu.he (.cons (gS _) (.cons ht .nil)) fun C=>?_;have hlen:=(C (mC l) oS).sl.1;unfold maxLen at hlen;refine bd Fu (.cons (gS _) (.cons ht .nil)) (Tr.s _) ?_;rw[Xu];refine ws ?_;refine SS ?_;refine aa (aB (ax ?_));refine av ?_
 refine aa (cN (fun s=>Ghost prog s ⟨aw [],fun _=>none,0⟩/\∀ (j:Nat) y,l[j]? =some y->p y=false) (cG (α:=Nat) (fun k=>⟨aw [(0,mC l),(1,.fn (.func g) fs cs),(7,I l.length),(8,I k)],fun _=>none,0⟩)
  (fun k=>k<=l.length/\∀ j y,j<k->l[j]? =some y->p y=false) (fun k=>l.length - k) 0 (aq eH) ⟨oG,fun j y hj=>by omega⟩ ?_) ?_)
 .rintro k ⟨hk,hinv⟩;refine SS ?_;refine aa ⟨_,rfl,fun h=>?_,fun h=>?_⟩
  .have af:k<l.length:=by simpa using h
   have hx:l[k]? =some l[k]:=by simp[af]
   generalize l[k]=x at hx;have M:=hg x (bJ hx);refine ws ?_;refine ab ?_;refine er ?_;refine aQ ?_;refine cl M ?_;refine aa (aD rfl (fun hp=>?_) fun hp=>?_)
   .refine ws ?_;refine ab ?_;refine aa (bq (cz (bl (az rfl ?_))));rw[xS hx hp hinv];rfl
   .refine cI ?_;refine ab ?_;refine aa (aJ (k+1) (aq eH) ⟨oG,fun j y hj hy=>?_⟩ oG);by_cases e:j=k
    .subst e;rw[hx] at hy;cases hy;exact hp
    .exact hinv j y oG hy
  .have X:¬ k<l.length:=by simpa using h
   exact⟨.forget _ _ _ _ fun _=>.inr rfl,fun j y hy=>hinv j y (by have:=(bj.1 hy).1;omega) hy⟩
 .rintro s ⟨hg,J⟩;refine⟨_,hg,ai ?_⟩;refine SS ?_;refine aa (az rfl ?_);rw[xT J];rfl
theorem zt{l:List hC}{g:FuncId}{fs cs:List D}{p:hC->Bool}(ht:Tr (.fn (.func g) fs cs))(hg:∀ x∈l,PCall prog g (fs++[.agg (jg x)]++cs) (B (p x))):PCall prog 254 [mC l,.fn (.func g) fs cs] (B (l.any p)):=by
 have F7:=F7 ht hg;refine bd MP (.cons (gS _) (.cons ht .nil)) (Tr.s _) ?_;rw[Xv];refine ws ?_;refine SS ?_;refine er ?_;refine ab ?_;refine cl F7 ?_;refine ab ?_;refine aa (az rfl ?_);rw[<- xZ];rfl
theorem uz{l:List Int}{g:FuncId}{fs cs:List D}{p:Int->Bool}(ht:Tr (.fn (.func g) fs cs))(hg:∀ x∈l,PCall prog g (fs++[I x]++cs) (B (p x))):PCall prog 130 [ao l,.fn (.func g) fs cs] (I (j3 p l)):=by
 refine mA Fv.he (.cons (cH _) (.cons ht .nil)) fun C=>?_;have hlen:=(C (ao l) oS).sl.1;unfold maxLen at hlen;refine bd Fv (.cons (cH _) (.cons ht .nil)) (Tr.s _) ?_;rw[Xw];refine ws ?_;refine SS ?_;refine aa (aB (ax ?_));refine av ?_
 refine aa (cN (fun s=>Ghost prog s ⟨aw [],fun _=>none,0⟩/\∀ (j:Nat) y,l[j]? =some y->p y=false) (cG (α:=Nat) (fun k=>⟨aw [(0,ao l),(1,.fn (.func g) fs cs),(7,I l.length),(8,I k)],fun _=>none,0⟩)
  (fun k=>k<=l.length/\∀ j y,j<k->l[j]? =some y->p y=false) (fun k=>l.length - k) 0 (aq eH) ⟨oG,fun j y hj=>by omega⟩ ?_) ?_)
 .rintro k ⟨hk,hinv⟩;refine SS ?_;refine aa ⟨_,rfl,fun h=>?_,fun h=>?_⟩
  .have af:k<l.length:=by simpa using h
   have hx:l[k]? =some l[k]:=by simp[af]
   generalize l[k]=x at hx;have M:=hg x (bJ hx);refine ws ?_;refine ab ?_;refine er ?_;refine aQ ?_;refine cl M ?_;refine aa (aD rfl (fun hp=>?_) fun hp=>?_)
   .refine ws ?_;refine ab ?_;refine aa (bq (cz (bl (az rfl ?_))));rw[xS hx hp hinv];rfl
   .refine cI ?_;refine ab ?_;refine aa (aJ (k+1) (aq eH) ⟨oG,fun j y hj hy=>?_⟩ oG);by_cases e:j=k
    .subst e;rw[hx] at hy;cases hy;exact hp
    .exact hinv j y oG hy
  .have X:¬ k<l.length:=by simpa using h
   exact⟨.forget _ _ _ _ fun _=>.inr rfl,fun j y hy=>hinv j y (by have:=(bj.1 hy).1;omega) hy⟩
 .rintro s ⟨hg,J⟩;refine⟨_,hg,ai ?_⟩;refine SS ?_;refine aa (az rfl ?_);rw[xT J];rfl
theorem mW{l:List Int}{g:FuncId}{fs cs:List D}{p:Int->Bool}(ht:Tr (.fn (.func g) fs cs))(hg:∀ x∈l,PCall prog g (fs++[I x]++cs) (B (p x))):PCall prog 119 [ao l,.fn (.func g) fs cs] (B (l.any p)):=by
 have uz:=uz ht hg;refine bd MQ (.cons (cH _) (.cons ht .nil)) (Tr.s _) ?_;rw[Xx];refine ws ?_;refine SS ?_;refine er ?_;refine ab ?_;refine cl uz ?_;refine ab ?_;refine aa (az rfl ?_);rw[<- xZ];rfl
theorem jI{n a b:Int}:PCall prog 96 [I n,I a,I b] (B (gE n a b)):=by
 refine bd Ph (by simp[Tr.s]) (Tr.s _) ?_;rw[aa4];refine ws ?_;refine SS ?_;refine er ?_;refine aN ?_;refine aa (az (d:=.s (.bool _)) rfl ?_);simp[gE]
theorem aa5{b:Int}:PCall prog 229 [U8 b] (B (A8 b)):=by
 refine bd Nu (by simp[Tr.s]) (Tr.s _) ?_;rw[X6];refine ws ?_;refine SS ?_;refine er ?_;refine eW ?_;refine aa (az (d:=.s (.bool _)) rfl ?_);simp[A8]
theorem aa6{b:Int}:PCall prog 232 [U8 b] (B (A9 b)):=by
 refine bd Nv (by simp[Tr.s]) (Tr.s _) ?_;rw[X7];refine ws ?_;refine SS ?_;refine er ?_;refine aN ?_;refine bC ?_;refine aa (az (d:=.s (.bool _)) rfl ?_);simp[A9]
theorem og{s:ByteArray}:PCall prog 190 [S s] (B (uf s)):=by
 refine bd Nw (by simp[Tr.s]) (Tr.s _) ?_;have qD:=qD (l:=o0 s) (g:=229) (fs:=[]) (cs:=[]) (p:=A8) (.fn oS oS) (fun x _=>aa5);rw[X8];refine ws ?_;refine SS ?_;refine er ?_;refine ab ?_;refine cl jI ?_;refine SS ?_;refine Pj ?_;refine aT rfl rfl (JF rfl V.h V.h) (fun hc=>⟨ak,⟨V.h,by have:=nD.1 (by simpa using hc);unfold maxLen;omega⟩⟩) ?_;refine gc qD ?_;refine av ?_;refine aa (az (d:=.s (.bool _)) rfl ?_);simp[uf]
theorem zC{s:ByteArray}:PCall prog 194 [S s] (B (isName s)):=by
 refine bd Nx (by simp[Tr.s]) (Tr.s _) ?_;have qD:=qD (l:=o0 s) (g:=232) (fs:=[]) (cs:=[]) (p:=A9) (.fn oS oS) (fun x _=>aa6);rw[X9];refine ws ?_;refine SS ?_;refine er ?_;refine ab ?_;refine cl jI ?_;refine SS ?_;refine Pj ?_;refine aT rfl rfl (JF rfl V.h V.h) (fun hc=>⟨ak,⟨V.h,by have:=nD.1 (by simpa using hc);unfold maxLen;omega⟩⟩) ?_;refine gc qD ?_;refine av ?_;refine aa (az (d:=.s (.bool _)) rfl ?_);simp[isName]
theorem aa7{s:ByteArray}:PCall prog 193 [S s] (B !(isName s)):=by
 refine bd Ny (by simp[Tr.s]) (Tr.s _) ?_;rw[X'];refine ws ?_;refine SS ?_;refine er ?_;refine SS ?_;refine cl zC ?_;refine ab ?_;refine aa (az rfl rfl)
theorem aa8{b m:Int}:PCall prog 230 [U8 b,.pt [U8 m]] (B (yf m b)):=by
 refine bd Nz (.cons (.s _) (.cons (.pt (by simp[Tr.s])) .nil)) (Tr.s _) ?_;rw[Ya];refine ws ?_;refine SS ?_;refine er ?_;refine cy ?_;refine aa (az (d:=.s (.bool _)) rfl ?_);simp[yf]
theorem Gq{l:List Int}{m:Int}:PCall prog 191 [ik l,U8 m] (B (p9 l m)):=by
 refine bd NA (.cons (o3 _) (.cons (.s _) .nil)) (Tr.s _) ?_;have qD:=qD (l:=l) (g:=230) (fs:=[]) (cs:=[.pt [U8 m]]) (p:=yf m) (.fn oS (.cons (.pt (by simp[Tr.s])) .nil)) (fun x _=>aa8);rw[Yb];refine ax ?_;refine ab ?_;refine aa (aR (cE [(0,[U8 m],5)] eH (l:=[(0,ik l),(3,.pt [U8 m])]) eH) (ai ?_));refine ab ?_;refine cl qD ?_;refine ab ?_;refine aa (az rfl rfl)
theorem DK{p q:D}{f:aC}(h:Real (.agg (aF p q f))):f.aL.length<=maxLen/\f.cv.length<=maxLen/\f.signals.length<=maxLen/\f.blocks.length<=maxLen:=
 ⟨(h.agg (ik f.aL) (by simp[aF])).sl.1,(h.agg (ik f.cv) (by simp[aF])).sl.1,(h.agg (mE f.signals) (by simp[aF])).sl.1,(h.agg (dM f.blocks) (by simp[aF])).sl.1⟩
section
variable{p q:D}{f:aC}(hp:Tr p)(hq:Tr q)(dz:p.one=true)(dY:q.one=true)
include hp hq dz dY
theorem gN{n:Int}:PCall prog 233 [.agg (aF p q f),I n] (B (gE n 0 (f.blocks.length - 1))):=by
 have C:∀ a∈[D.agg (aF p q f),I n],Tr a:=.cons (jN hp hq f) (.cons (.s _) .nil);refine mA FI.he C fun J=>?_;obtain⟨M,X,l3,l4⟩:=DK (J _ (List.mem_cons_self ..));unfold maxLen at*
 refine bd FI C (Tr.s _) ?_;rw[Yl];refine ws ?_;refine ab ?_;refine er ?_;refine bC ?_;refine cl jI ?_;refine SS ?_;refine aa (az rfl rfl)
theorem dF{r:Int}:PCall prog 234 [.agg (aF p q f),I r] (U8 (cS f.aL r)):=by
 have C:∀ a∈[D.agg (aF p q f),I r],Tr a:=.cons (jN hp hq f) (.cons (.s _) .nil);refine mA FJ.he C fun M=>?_;obtain⟨X,l2,l3,l4⟩:=DK (M _ (List.mem_cons_self ..));unfold maxLen at*
 refine bd FJ C (Tr.s _) ?_;rw[Ym];refine ws ?_;refine ab ?_;refine aa (aB (ai ?_));refine bC ?_;refine cl jI ?_;refine SS ?_;refine aa (c6 rfl (fun h=>?_) fun h=>?_)
 .refine aB (ai ?_);refine SS ?_;refine aa (c8 (az rfl ?_));rw[Jj (fun J=>by simp[gE] at h;omega)];rfl
 .have J:0<=r/\r<f.aL.length:=by simp[gE] at h;omega
  obtain⟨i,rfl⟩:=dd J.1;have af:i<f.aL.length:=by omega
  have hx:f.aL[i]? =some f.aL[i]:=by simp[af]
  generalize f.aL[i]=x at hx;refine cu (ai ?_);refine eW ?_;refine aa (az rfl ?_);rw[D' hx];rfl
theorem abi{r:Int}:PCall prog 256 [I r,.pt (aF p q f)] (B !(lS f.aL r)):=by
 have C:∀ a∈[I r,D.pt (aF p q f)],Tr a:=.cons (.s _) (.cons (.pt (yh hp hq f)) .nil);have dF:=dF (f:=f) (r:=r) hp hq dz dY;refine bd NH C (Tr.s _) ?_;rw[Yn];refine ws ?_;refine SS ?_;refine er ?_;refine ab ?_;refine cl dF ?_;refine aI ?_;refine gc dF ?_;refine av ?_;refine aa (az (d:=.s (.bool _)) rfl ?_);unfold lS;generalize cS f.aL r=k;show D.s (.bool _)=D.s (.bool _);simp only[bne];cases (k==1)<;>cases (k==2)<;>rfl
theorem ff{l:List Int}:PCall prog 237 [.agg (aF p q f),ao l] (B (nE f.aL l)):=by
 have C:∀ a∈[D.agg (aF p q f),ao l],Tr a:=.cons (jN hp hq f) (.cons (cH _) .nil);have mW:=mW (l:=l) (g:=256) (fs:=[]) (cs:=[.pt (aF p q f)]) (p:=fun r=> !(lS f.aL r)) (.fn oS (.cons (.pt (yh hp hq f)) .nil)) (fun x _=>abi hp hq dz dY);refine bd NI C (Tr.s _) ?_;rw[Yo];refine ax ?_;refine ab ?_;refine aa (aR (cE [(0,aF p q f,133)] eH (l:=[(1,ao l),(2,.pt (aF p q f))]) eH) (ai ?_));refine ab ?_;refine cl mW ?_;refine ab ?_;refine aa (az (d:=.s (.bool _)) rfl ?_);simp[nE,List.all_eq_not_any_not]
theorem Ch{r n:Int}:PCall prog 239 [.agg (aF p q f),I r,I n] (B (ur f.aL f.cv r n)):=by
 have J:∀ a∈[D.agg (aF p q f),I r,I n],Tr a:=.cons (jN hp hq f) (.cons (.s _) (.cons (.s _) .nil));refine mA FK.he J fun M=>?_;obtain⟨l1,l2,l3,l4⟩:=DK (M _ (List.mem_cons_self ..));unfold maxLen at*
 have dF:=dF (f:=f) (r:=r) hp hq dz dY;refine bd FK J (Tr.s _) ?_;rw[Yp];have jI:=jI (n:=n) (a:=0) (b:=f.cv.length - 1);by_cases X:0<=n/\n<f.cv.length
 .obtain⟨i,rfl⟩:=dd X.1;have af:i<f.cv.length:=by omega
  have hx:f.cv[i]? =some f.cv[i]:=by simp[af]
  generalize f.cv[i]=x at hx;have C:gE (i:Int) 0 (f.cv.length - 1)=true:=nD.2 oG;rw[C] at jI;refine ws ?_;refine ab ?_;refine aa (fK Jm ?_);refine bC ?_;refine cl jI ?_;refine SS ?_;refine aT rfl rfl (df (vs:=aF _ _ _) rfl rfl V.h V.h rfl) (fun hc=>⟨ak,(dg V.h V.h (by first|(simp;done)|omega|exact aP rfl))⟩) ?_;refine SS ?_;refine gc dF ?_;refine aN ?_;refine bE bP ?_;refine az (d:=.s (.bool _)) rfl ?_;simp[ur,C,D' hx]
 .have C:gE n 0 (f.cv.length - 1)=false:=TA.2 oG;rw[C] at jI;refine ws ?_;refine ab ?_;refine aa (fK Jm ?_);refine bC ?_;refine cl jI ?_;refine SS ?_;(iterate 10 refine z fun _ _=>?_);refine ab ?_;refine bE bP ?_;refine az (d:=.s (.bool _)) rfl ?_;simp[ur,C]
end
section
variable{p q:D}{f:aC}(hp:Tr p)(hq:Tr q)(dz:p.one=true)(dY:q.one=true)
include hp hq dz dY
theorem zI{r want kd:Int}:PCall prog 253 [.agg (aF p q f),I r,I want,U8 kd] (B (nS f.aL r want kd)):=by
 have C:∀ a∈[D.agg (aF p q f),I r,I want,U8 kd],Tr a:=.cons (jN hp hq f) (.cons (.s _) (.cons (.s _) (.cons (.s _) .nil)));have dF:=dF (f:=f) (r:=r) hp hq dz dY;refine bd NN C (Tr.s _) ?_;rw[Ys];refine ws ?_;refine ab ?_;refine er ?_;refine au (df (vs:=aF _ _ _) rfl rfl V.h V.h rfl) ak (dg V.h V.h (by first|(simp;done)|omega|exact aP rfl)) ?_;refine SS ?_;refine cl dF ?_;refine SS ?_;refine aa (aB (ai ?_));refine SS ?_;refine aa (tM (ai ?_));refine ab ?_;refine aa (aD rfl (fun h0=>?_) fun h0=>?_)
 .have h0:want=0:=by simpa using h0
  refine ws ?_;refine av ?_;refine aa (bq (eF (bl (az (d:=.s (.bool _)) rfl ?_))));simp[nS,h0]
 have h0:¬ want=0:=by simpa using h0
 refine ws ?_;refine ab ?_;refine aa (aD rfl (fun h1=>?_) fun h1=>?_)
 .have h1:want=1:=by simpa using h1
  refine ws ?_;refine av ?_;refine aa (bq (eF (bl (az (d:=.s (.bool _)) rfl ?_))));simp[nS,h1]
 have h1:¬ want=1:=by simpa using h1
 refine ws ?_;refine ab ?_;refine aa (aD rfl (fun h2=>?_) fun h2=>?_)
 .have h2:want=2:=by simpa using h2
  refine ws ?_;refine av ?_;refine aa (bq (eF (bl (az (d:=.s (.bool _)) rfl ?_))));simp[nS,h2]
 have h2:¬ want=2:=by simpa using h2
 refine ws ?_;refine ab ?_;refine aa (aD rfl (fun h3=>?_) fun h3=>?_)
 .have h3:want=3:=by simpa using h3
  refine ws ?_;refine eW ?_;refine aa (bq (eF (bl (az (d:=.s (.bool _)) rfl ?_))));simp[nS,h3,lS,ib]
 have h3:¬ want=3:=by simpa using h3
 refine r8 (ai ?_);refine cy ?_;refine aa (az (d:=.s (.bool _)) rfl ?_);simp[nS,h0,h1,h2,h3,ib,bne]
theorem wY{x:bN}{s:Shape}:PCall prog 235 [.agg (aF p q f),.agg (b7 x),.agg (gG s)] (B (vT f.aL x s)):=by
 have J:∀ a∈[D.agg (aF p q f),.agg (b7 x),.agg (gG s)],Tr a:=.cons (jN hp hq f) (.cons (.agg (rR x)) (.cons (.agg (Jp s)) .nil));have dF:=fun r=>dF (f:=f) (r:=r) hp hq dz dY;have zI:= @zI p q f hp hq dz dY;have ff:=ff (f:=f) hp hq dz dY (l:=x.args);have M:=jI (n:=x.n) (a:=s.low) (b:=s.high);refine bd NO J (Tr.s _) ?_;rw[Yt];refine ax ?_;refine ab ?_;refine fa (qd (cs:=gG _) rfl) ak (by first|rfl|exact pX dz dY|exact iM _|exact qm ka) ?_;refine SS ?_;refine aa (aR (cE [(0,aF p q f,133),(1,b7 x,66),(2,gG s,205)] eH (l:=[(3,.pt (aF p q f)),(4,.pt (b7 x)),(5,.pt (gG s))]) eH) (ai ?_));have C:=dF;have dF:=dF x.to;refine av ?_;refine cl dF ?_;refine SS ?_;refine aa ?_;refine eO (fun s'=>Ghost prog s' ⟨aw [(3,.pt (aF p q f)),(4,.pt (b7 x)),(5,.pt (gG s)),(7,U8 (vI f.aL x s))],fun _=>none,3⟩) (ai ?_) fun s' hg=>⟨_,hg,?_⟩
 .refine cy ?_;refine aa (aD rfl (fun h=>r9 ?_) fun h=>bD ?_)
  .have h:s.to=0\/s.to=1:=by simpa[ib] using h
   have dF:=C x.a;refine av ?_;refine cl dF ?_;refine SS ?_;refine aa ?_;show Ghost _ _ _;refine aq (l:=[(3,_),(4,_),(5,_),(7,_)]) ⟨rfl,rfl,rfl,?_,trivial⟩;simp only[vI,if_pos h];rfl
  .have h:¬ (s.to=0\/s.to=1):=by simpa[ib] using h
   show Ghost _ _ _;refine aq (l:=[(3,_),(4,_),(5,_),(7,_)]) ⟨rfl,rfl,rfl,?_,trivial⟩;simp only[vI,if_neg h];rfl
 refine ws ?_;refine aQ ?_;refine aa ?_;refine eO (fun s'=>Ghost prog s' ⟨aw [(3,.pt (aF p q f)),(4,.pt (b7 x)),(5,.pt (gG s)),(7,U8 (vI f.aL x s)),(8,B (vp f.aL x s))],fun _=>none,3⟩) (ai ?_) fun s' hg=>⟨_,hg,?_⟩
 .refine ab ?_;refine aa (lM (ai ?_));refine ab ?_;refine aa (aD rfl (fun h=>jM ?_) fun h=>ai ?_)
  .have h:s.args=5:=by simpa using h
   have jI:=jI (n:=x.args.length) (a:=1) (b:=6);refine av ?_;refine cl jI ?_;refine aI ?_;refine gc ff ?_;refine ab ?_;refine aa ?_;refine aq ⟨rfl,rfl,rfl,rfl,?_,trivial⟩;show D.s (.bool _)=_;simp[vp,h]
  .have h5:¬ s.args=5:=by simpa using h
   refine ab ?_;refine aa (aD rfl (fun h=>jM ?_) fun h=>D1 ?_)
   .have h:s.args=6:=by simpa using h
    refine cy ?_;refine gc ff ?_;refine ab ?_;refine aa ?_;refine aq ⟨rfl,rfl,rfl,rfl,?_,trivial⟩;show D.s (.bool _)=_;simp[vp,h,ib]
   .have X:¬ s.args=6:=by simpa using h
    refine aq ⟨rfl,rfl,rfl,rfl,?_,trivial⟩;show D.s (.bool _)=_;simp[vp,h5,X,ib]
 refine ws ?_;refine aQ ?_;refine cl zI ?_;refine eW ?_;refine gc zI ?_;refine cy ?_;refine gc zI ?_;refine aN ?_;refine ab ?_;refine gc jI ?_;refine ab ?_;refine aa (az (d:=.s (.bool _)) rfl ?_);simp[vT,Bool.and_assoc]
end
theorem Gx{x:bN}:PCall prog 257 [.agg (b7 x)] (B (EU x)):=by
 have C:∀ a∈[D.agg (b7 x)],Tr a:=.cons (.agg (rR x)) .nil;refine bd NT C (Tr.s _) ?_;rw[Yx];refine ws ?_;refine ab ?_;refine er ?_;refine aN ?_;refine aN ?_;refine aN ?_;refine av ?_;refine aa (az (d:=.s (.bool _)) rfl ?_);simp only[EU,ib];cases decide (x.op=0)<;>cases decide (x.to=0)<;>cases decide (x.a=0)<;>cases decide (x.b=0)<;>cases decide (x.n=0)<;>rfl
theorem Gy{x:Argus.End}:PCall prog 238 [.agg (bm x)] (B (wG x)):=by
 have C:∀ a∈[D.agg (bm x)],Tr a:=.cons (.agg (mF x)) .nil;have Gx:=Gx (x:=x.ins);refine bd NU C (Tr.s _) ?_;rw[Yy];refine ws ?_;refine ab ?_;refine er ?_;refine aN ?_;refine aN ?_;refine cy ?_;refine abw ?_;refine aN ?_;refine aN ?_;refine ab ?_;refine aT rfl rfl (df (vs:=b7 _) rfl rfl V.h V.h rfl) (fun hc=>⟨ak,(dg V.h V.h (by first|(simp;done)|omega|exact aP rfl))⟩) ?_;refine gc Gx ?_;refine ab ?_;refine aa (az (d:=.s (.bool _)) rfl ?_);have:decide (x.name.toList=[])=x.name.toList.isEmpty:=by cases x.name.toList<;>rfl
 simp[wG,ib,Bool.and_assoc,this]
theorem abx{w v:hC}:PCall prog 255 [.agg (jg v),.pt (jg w)] (B (v.name.toList==w.name.toList)):=by
 have C:∀ a∈[D.agg (jg v),.pt (jg w)],Tr a:=.cons (.agg (Bb v)) (.cons (.pt (Bb w)) .nil);refine bd NV C (Tr.s _) ?_;rw[Yz];refine ws ?_;refine fa (qd (cs:=jg _) rfl) ak (by first|rfl|exact pX dz dY|exact iM _|exact qm ka) ?_;refine SS ?_;refine er ?_;refine aI ?_;refine au (Lw rfl rfl) ak trivial ?_;refine SS ?_;exact aa (az rfl rfl)
section
variable{p q:D}{f:aC}(hp:Tr p)(hq:Tr q)(dz:p.one=true)(dY:q.one=true)
include hp hq dz dY
theorem pD{x:Argus.End}:PCall prog 236 [.agg (aF p q f),.agg (bm x)] (B (rQ f x)):=by
 have J:∀ a∈[D.agg (aF p q f),.agg (bm x)],Tr a:=.cons (jN hp hq f) (.cons (.agg (mF x)) .nil);refine mA FL.he J fun X=>?_;have hlen:x.aE.length<=maxLen:=((X _ (List.mem_cons_of_mem _ (List.mem_cons_self ..))).agg (mC x.aE) (by simp[bm])).sl.1;unfold maxLen at hlen;have gN:= @gN p q f hp hq dz dY;refine bd FL J (Tr.s _) ?_;rw[YA];refine ax ?_;refine av ?_;refine aa (aR (cE [(0,aF p q f,133),(1,bm x,69)] eH (l:=[(2,.pt (aF p q f)),(3,.pt (bm x))]) eH) (aB (ax ?_)));refine aI ?_
 refine aa (cN (fun s=>∃ n,Ghost prog s ⟨aw [(2,.pt (aF p q f)),(3,.pt (bm x))],fun _=>none,n⟩/\∀ (j:Nat) y,x.aE[j]? =some y->qx f x.aE j y=true) (cG (α:=Nat) (fun k=>⟨aw [(2,.pt (aF p q f)),(3,.pt (bm x)),(8,mC x.aE),(9,I x.aE.length),(10,I k)],fun _=>none,2+k⟩)
  (fun k=>k<=x.aE.length/\∀ j y,j<k->x.aE[j]? =some y->qx f x.aE j y=true) (fun k=>x.aE.length - k) 0 (aq eH) ⟨oG,fun j y hj=>by omega⟩ ?_) ?_)
 .rintro k ⟨hk,hinv⟩;refine SS ?_;refine aa ⟨_,rfl,fun h=>?_,fun h=>?_⟩
  .have af:k<x.aE.length:=by simpa using h
   have hx:x.aE[k]? =some x.aE[k]:=by simp[af]
   generalize x.aE[k]=w at hx;refine ax ?_;refine bC ?_;refine aa (aR (cE [(2+k,jg w,199)] ⟨up_same _ _ _,trivial⟩ (l:=[(2,.pt (aF p q f)),(3,.pt (bm x)),(5,I k),(6,.pt (jg w)),(8,mC x.aE),(9,I x.aE.length),(10,I k)]) ⟨rfl,rfl,rfl,qw (sz:=prog.cellsOf 199),rfl,rfl,rfl,trivial⟩) (ai ?_));have zC:=zC (s:=w.name);have zt:=zt (l:=x.aE.take k) (g:=255) (fs:=[]) (cs:=[.pt (jg w)]) (p:=fun v=>v.name.toList==w.name.toList) (.fn oS (.cons (.pt (Bb w)) .nil)) (fun v _=>abx);unfold mC at zt;rw[<- VK Dv hk] at zt;refine ab ?_;refine cl zC ?_;refine aQ ?_;refine gc gN ?_;refine bC ?_;refine aT rfl rfl (Bg rfl V.h V.h rfl rfl rfl) (fun hc=>⟨ak,⟨V.h,oG,oG,oG⟩⟩) ?_;refine aT rfl rfl (LB rfl rfl) (fun hc=>⟨ak,trivial⟩) ?_;refine gc zt ?_;refine SS ?_;have hb:((isName w.name&&(dN f w.to&& !(x.aE.take k).any fun v=>v.name.toList==w.name.toList)))=qx f x.aE k w:=rfl;refine aa (aD rfl (fun hp=>?_) fun hp=>?_)
   .refine ws ?_;refine SS ?_;refine aa (bq (cz (bl (az (d:=.s (.bool _)) rfl ?_))))
    have C:qx f x.aE k w=false:=by
     rw[<- hb];simp only[dN];revert hp;generalize isName w.name=a;generalize gE w.to 0 (f.blocks.length - 1)=b;generalize (List.any _ _)=c;cases a<;>cases b<;>cases c<;>simp
    simp[rQ,RY hx C]
   .refine cI ?_
    have C:qx f x.aE k w=true:=by
     rw[<- hb];simp only[dN];revert hp;generalize isName w.name=a;generalize gE w.to 0 (f.blocks.length - 1)=b;generalize (List.any _ _)=c;cases a<;>cases b<;>cases c<;>simp
    refine ab ?_;refine aa (aJ (k+1) (aq eH) ⟨oG,fun j y hj hy=>?_⟩ oG);by_cases e:j=k
    .subst e;rw[hx] at hy;cases hy;exact C
    .exact hinv j y oG hy
  .have ba:¬ k<x.aE.length:=by simpa using h
   exact⟨2+k,.forget _ _ _ _ fun t=>kY (l:=[(2,.pt (aF p q f)),(3,.pt (bm x))]) ⟨rfl,rfl,trivial⟩ t,fun j y hy=>hinv j y (by have:=(bj.1 hy).1;omega) hy⟩
 .rintro s ⟨n,hg,M⟩;refine⟨_,hg,ai ?_⟩;refine av ?_;refine O8 ?_;refine cy ?_;refine gc gN ?_;refine av ?_;refine aa (az (d:=.s (.bool _)) rfl ?_);have ki:=Sc M;simp[rQ,dN,ki,ib]
end
abbrev P0:D:=.im (m8 nT)
abbrev Q0:D:=.im (m8 mQ)
theorem abA:PCall prog 166 [] (.tup [P0,Q0]):=by
 refine bd NW Tr.nil (.tup (.cons (wI _) (.cons (wI _) .nil))) ?_;rw[YB];refine ws ?_;refine au (ku (v:=.s (.map none)) rfl) ak trivial ?_;refine au (ku (v:=.s (.map none)) rfl) ak trivial ?_;refine er ?_;refine aN ?_;refine aN ?_;refine aN ?_;refine bC ?_;refine er ?_;refine aN ?_;refine aN ?_;refine av ?_;refine aa (ax ?_);refine aI ?_;refine aa (aR (UN [(0,m8 nT),(1,m8 mQ)] eH (l:=[(0,P0),(1,Q0)]) eH) ?_);exact iH rfl rfl rfl
abbrev ob(f:aC):D:=.agg (aF P0 Q0 f)
theorem Gt{f:aC}:PCall prog 189 [.agg (aX f)] (ob f):=by
 have C:∀ a∈[D.agg (aX f)],Tr a:=.cons (.agg (jL f)) .nil;refine bd NX C (jN (wI _) (wI _) f) ?_;rw[YC];refine ws ?_;refine ab ?_;refine er ?_;refine cl abA ?_;refine SS ?_;refine au (nz (v:=.im _) rfl rfl) ak (by first|decide|simp) ?_;refine au (nz (v:=.im _) rfl rfl) ak (by first|decide|simp) ?_;refine au (ku (v:=.im _) rfl) ak trivial ?_;refine au (ku (v:=.im _) rfl) ak trivial ?_;refine er ?_;refine SS ?_;refine au (gT (v:=.im _) rfl) ak trivial ?_;refine au (gT (v:=.im _) rfl) ak trivial ?_;refine Pt ?_;refine bB (iE (cs':=aF _ _ _) rfl rfl rfl rfl) ak (cF V.h V.h (by first|(simp;done)|exact⟨rfl,aP rfl⟩|(simp;omega)) (by rfl)) ?_;refine aa (r6 (nw rfl rfl PQ PR rfl t133 oS) ?_);rfl
theorem ju:Tr P0:=wI _
theorem jv:Tr Q0:=wI _
section
variable{p q:D}{f:aC}(hp:Tr p)(hq:Tr q)(dz:p.one=true)(dY:q.one=true)
include hp hq dz dY
theorem abB{r kd:Int}:PCall prog 240 [I r,.pt (aF p q f),.pt [U8 kd]] (B !(cr (cS f.aL r) kd)):=by
 have C:∀ a∈[I r,.pt (aF p q f),.pt [U8 kd]],Tr a:=.cons (.s _) (.cons (.pt (yh hp hq f)) (.cons (.pt (.cons (.s _) .nil)) .nil));have dF:=dF (f:=f) (r:=r) hp hq dz dY;refine bd NY C (Tr.s _) ?_;rw[YD];refine ws ?_;refine SS ?_;refine aa (fK TJ ?_);refine ab ?_;refine cl dF ?_;refine av ?_;refine bE bP ?_;refine az (d:=.s (.bool _)) rfl ?_;rfl
end
theorem Ce{f:aC}{b ahead:Int}{x:bN}{phis:Bool}:PCall prog 196 [ob f,I b,.agg (b7 x),B phis,I ahead] (B (jQ f b x phis ahead)):=by
 have M:∀ a∈[ob f,I b,.agg (b7 x),B phis,I ahead],Tr a:=.cons (jN ju jv f) (.cons (.s _) (.cons (.agg (rR x)) (.cons (.s _) (.cons (.s _) .nil))));have dF:= @dF P0 Q0 f ju jv rfl rfl;have Ch:= @Ch P0 Q0 f ju jv rfl rfl;have ff:= @ff P0 Q0 f ju jv rfl rfl;have wY:= @wY P0 Q0 f ju jv rfl rfl;refine bd NZ M (Tr.s _) ?_;rw[YE];refine ax ?_;refine av ?_;refine aa (aR (cE [(0,aF P0 Q0 f,133),(1,b7 x,66)] eH (l:=[(1,I b),(3,B phis),(4,I ahead),(5,.pt (aF P0 Q0 f)),(7,.pt (b7 x))]) eH) (aB (ai ?_)));refine ab ?_;refine aa (tM (ai ?_));refine ab ?_;refine aa (aD rfl (fun h0=>?_) fun h0=>?_)
 .have h0:x.op=16:=by simpa using h0
  refine ws ?_;refine eW ?_;refine gc dF ?_;refine aN ?_;refine cy ?_;refine ab ?_;refine aa (bq (eF (bl (az (d:=.s (.bool _)) rfl ?_))));simp[jQ,h0,cr,ug,ib,Bool.and_assoc]
 have h0:¬ x.op=16:=by simpa using h0
 refine ws ?_;refine ab ?_;refine aa (aD rfl (fun h1=>?_) fun h1=>?_)
 .have h1:x.op=17:=by simpa using h1
  refine ws ?_;refine aN ?_;refine aN ?_;refine ab ?_;refine gc Ch ?_;refine ab ?_;refine aa (bq (eF (bl (az (d:=.s (.bool _)) rfl ?_))));simp[jQ,h1,cr,ug,ib,Bool.and_assoc]
 have h1:¬ x.op=17:=by simpa using h1
 refine ws ?_;refine ab ?_;refine aa (aD rfl (fun h2=>?_) fun h2=>?_)
 .have h2:x.op=18:=by simpa using h2
  refine ws ?_;refine aN ?_;refine aN ?_;refine ab ?_;refine gc Ch ?_;refine ab ?_;refine aa (bq (eF (bl (az (d:=.s (.bool _)) rfl ?_))));simp[jQ,h2,cr,ug,ib,Bool.and_assoc]
 have h2:¬ x.op=18:=by simpa using h2
 refine ws ?_;refine ab ?_;refine aa (aD rfl (fun h3=>?_) fun h3=>?_)
 .have h3:x.op=19:=by simpa using h3
  refine ax ?_;refine av ?_;refine cl dF ?_;refine SS ?_;refine OL ?_;refine aa (aR (cE [(2,[U8 (cS f.aL x.to)],5)] eH (l:=[(1,I b),(3,B phis),(4,I ahead),(5,.pt (aF P0 Q0 f)),(7,.pt (b7 x)),(11,.pt [U8 (cS f.aL x.to)])]) eH) (ai ?_));have mW:=mW (l:=x.args) (g:=240) (fs:=[]) (cs:=[.pt (aF P0 Q0 f),.pt [U8 (cS f.aL x.to)]]) (p:=fun r=> !(cr (cS f.aL r) (cS f.aL x.to))) (.fn oS (.cons (.pt (yh ju jv f)) (.cons (.pt (.cons (.s _) .nil)) .nil))) (fun r _=>abB ju jv rfl rfl);refine av ?_;refine cl mW ?_;refine SS ?_;refine er ?_;by_cases hb:phis=true/\0<b
  .obtain⟨rfl,hb⟩:=hb;have ei:decide (0<b)=true:=by simpa using hb
   have ff:=ff (l:=[x.to]);have C:∀ {m:Mem},m 3=some (.cells [I x.to] 3)->Sns prog [3] m [ob f,.rs 3 0 1] [ob f,ao [x.to]]:=fun hm=>⟨bQ (jN ju jv f),Fq hm oS (by rw[c3];rfl) (.cons (.s _) .nil),trivial⟩
   refine cy ?_;refine ab ?_;refine Bz ff rfl rfl rfl rfl (C rfl) ak ?_;refine aN ?_;refine aN ?_;refine cy ?_;refine ab ?_;refine aa (bq (eF (bl (az (d:=.s (.bool _)) rfl ?_))));simp[jQ,h3,hb,cr,ug,ib,Bool.and_assoc,nE]
  .have hf:jQ f b x phis ahead=false:=by
    cases phis with
    |false=>simp[jQ,h3]
    |true=>simp[jQ,h3,show ¬ 0<b by simpa using hb]
   have hf:D.s (.bool false)=B (jQ f b x phis ahead):=by rw[hf]
   cases phis with
   |false=>
    refine ab ?_;(iterate 2 refine z fun _ _=>?_);refine ab ?_;(iterate 5 refine z fun _ _=>?_);refine ab ?_;(iterate 3 refine z fun _ _=>?_);refine ab ?_;(iterate 3 refine z fun _ _=>?_);refine ab ?_;(iterate 3 refine z fun _ _=>?_);refine ab ?_;(iterate 5 refine z fun _ _=>?_);refine ab ?_;(iterate 2 refine z fun _ _=>?_);refine ab ?_;exact aa (bq (eF (bl (az (d:=.s (.bool _)) rfl hf))))
   |true=>
    have ei:decide (0<b)=false:=by simpa using hb
    refine bC ?_;(iterate 5 refine z fun _ _=>?_);refine ab ?_;(iterate 3 refine z fun _ _=>?_);refine ab ?_;(iterate 3 refine z fun _ _=>?_);refine ab ?_;(iterate 3 refine z fun _ _=>?_);refine ab ?_;(iterate 5 refine z fun _ _=>?_);refine ab ?_;(iterate 2 refine z fun _ _=>?_);refine ab ?_;exact aa (bq (eF (bl (az (d:=.s (.bool _)) rfl hf))))
 have h3:¬ x.op=19:=by simpa using h3
 refine r8 (ai ?_);have X:gotD prog 131 true (lookD (.int .u8 x.op) (m8 nT))=.tup [.agg (gG ((iq nT x.op).getD vV)),.s (.bool (iq nT x.op).isSome)]:=L8 rfl _ _ (by rw[FN];unfold zeroD;rw[Gz,GA];rfl);have J:=KK (P:=prog) (kt:=5) u5 nT;refine aI ?_;refine au (AO rfl rfl V.h X) ak ⟨V.h,by kernel_rfl,J⟩ ?_;refine SS ?_;refine au (nz (v:=.agg (gG _)) rfl rfl) ak (by first|decide|simp) ?_;refine ab ?_;refine bB (iE (cs':=gG _) rfl rfl rfl rfl) ak (cF V.h V.h (by first|(simp;done)|exact⟨rfl,aP rfl⟩|(simp;omega)) (by rfl)) ?_;refine SS ?_;refine er ?_;refine av ?_;refine PU ?_;refine aT rfl rfl (df (vs:=gG _) rfl rfl V.h V.h rfl) (fun hc=>⟨ak,(dg V.h V.h (by first|(simp;done)|omega|exact aP rfl))⟩) ?_;refine gc wY ?_;refine ab ?_;refine aa (az (d:=.s (.bool _)) rfl ?_);simp[jQ,h0,h1,h2,h3]
def N4(f:aC)(x:Argus.End)(s:St):Prop:=∃ cells n,Ghost prog s ⟨aw [(2,.pt (aF P0 Q0 f)),(3,.pt (bm x)),(5,.rp 2 0),(6,B (eg f x).1)],up (fun _=>none) 2 (some (.cells cells 69)),n⟩/\cells.length=15/\∀ m,Sns prog [2] m cells (bm (eg f x).2)
theorem vR{l:List Int}{r:Int}:nE l [r]=lS l r:=by simp[nE]
theorem j6{f:aC}{x r:Argus.End}{env:Env}{m:Mem}{nx:Nat}{cells:List D}{ok:Bool}(hr:eg f x=(ok,r))(he:gU [(2,.pt (aF P0 Q0 f)),(3,.pt (bm x)),(5,.rp 2 0),(6,B ok)] env)(hm:m 2=some (.cells cells 69))(hl:cells.length=15)
 (hs:∀ m,Sns prog [2] m cells (bm r)):N4 f x ⟨env,m,nx⟩:=by
 refine⟨cells,nx,?_,hl,?_⟩
 .rw[hr];exact A7 he (Ua hm)
 .rw[hr];exact hs
set_option maxHeartbeats 4000000 in
theorem Cd{f:aC}{x:Argus.End}:PCall prog 195 [ob f,.agg (bm x)] (B (mP f x)):=by
 have aH:∀ a∈[ob f,.agg (bm x)],Tr a:=.cons (jN ju jv f) (.cons (.agg (mF x)) .nil);have gN:= @gN P0 Q0 f ju jv rfl rfl;have dF:= @dF P0 Q0 f ju jv rfl rfl;have ff:= @ff P0 Q0 f ju jv rfl rfl;have wY:= @wY P0 Q0 f ju jv rfl rfl;have pD:= @pD P0 Q0 f ju jv rfl rfl;refine bd N5 aH (Tr.s _) ?_;rw[YH];refine ax ?_;refine av ?_;refine aa (aR (cE [(0,aF P0 Q0 f,133),(1,bm x,69)] eH (l:=[(2,.pt (aF P0 Q0 f)),(3,.pt (bm x))]) eH) (ai ?_));refine ab ?_;refine abC ?_;refine SS ?_;refine er ?_;refine ab ?_;refine aa ?_;refine eO (N4 f x) (ai ?_) fun s hs=>?_
 .refine ab ?_;refine aa (lM (ai ?_));refine ab ?_;refine aa (aD rfl (fun h=>?_) fun h=>?_)
  .have h:x.kind=1:=by simpa using h
   refine jM ?_;refine av ?_;refine cl gN ?_;refine av ?_;refine aa ?_;exact j6 (r:={ x with kind:=0,to:=0 }) (by simp[eg,h,cr,ib,Bool.and_assoc,dN]) ⟨rfl,rfl,rfl,rfl,trivial⟩ rfl rfl (fun m=>by repeat' (first|exact trivial|exact bQ (Tr.s _)|exact bQ (cH _)|exact bQ (gS _)|exact j7|refine And.intro ?_ ?_))
  have h1:¬ x.kind=1:=by simpa using h
  clear h;refine ws ?_;refine ab ?_;refine aa (aD rfl (fun h=>?_) fun h=>?_)
  .have h:x.kind=2:=by simpa using h
   refine jM ?_;refine av ?_;refine cl dF ?_;refine aQ ?_;refine gc gN ?_;refine aQ ?_;refine gc gN ?_;refine cy ?_;refine aa ?_;exact j6 (r:={ x with kind:=0,a:=0,to:=0,iz:=0 }) (by simp[eg,h,cr,ib,Bool.and_assoc,dN]) ⟨rfl,rfl,rfl,rfl,trivial⟩ rfl rfl (fun m=>by repeat' (first|exact trivial|exact bQ (Tr.s _)|exact bQ (cH _)|exact bQ (gS _)|exact j7|refine And.intro ?_ ?_))
  have h2:¬ x.kind=2:=by simpa using h
  clear h;refine ws ?_;refine ab ?_;refine aa (aD rfl (fun h=>?_) fun h=>?_)
  .have h:x.kind=3:=by simpa using h
   refine ws ?_;refine bC ?_;refine er ?_;refine cy ?_;refine ab ?_;refine aa (aD rfl (fun hr=>?_) fun hr=>?_)
   .have hr:f.result≠0/\f.iter=false:=by simpa[bne,ib] using hr
    refine D4 SN ?_;refine av ?_;refine cl dF ?_;refine aQ ?_;refine bE bP ?_;exact j6 (r:={ x with kind:=0,a:=0 }) (by simp[eg,h,cr,ib,Bool.and_assoc,hr.1,hr.2]) ⟨rfl,rfl,rfl,rfl,trivial⟩ rfl rfl (fun m=>by repeat' (first|exact trivial|exact bQ (Tr.s _)|exact bQ (cH _)|exact bQ (gS _)|exact j7|refine And.intro ?_ ?_))
   .have hr:¬ (f.result≠0/\f.iter=false):=by simpa[bne,ib] using hr
    refine D1 ?_;exact j6 (r:={ x with kind:=0,a:=0 }) (by simp only[eg,h];simp only[if_neg hr];simp[cr,ib]) ⟨rfl,rfl,rfl,rfl,trivial⟩ rfl rfl (fun m=>by repeat' (first|exact trivial|exact bQ (Tr.s _)|exact bQ (cH _)|exact bQ (gS _)|exact j7|refine And.intro ?_ ?_))
  have h3:¬ x.kind=3:=by simpa using h
  clear h;refine ws ?_;refine ab ?_;refine aa (aD rfl (fun h=>?_) fun h=>?_)
  .have h:x.kind=4:=by simpa using h
   refine jM ?_;refine ab ?_;refine cl zC ?_;refine av ?_;refine aa ?_;exact j6 (r:={ x with kind:=0,name:=.empty }) (by simp[eg,h,cr,ib,Bool.and_assoc]) ⟨rfl,rfl,rfl,rfl,trivial⟩ rfl rfl (fun m=>by repeat' (first|exact trivial|exact bQ (Tr.s _)|exact bQ (cH _)|exact bQ (gS _)|exact j7|refine And.intro ?_ ?_))
  have h4:¬ x.kind=4:=by simpa using h
  clear h;refine ws ?_;refine ab ?_;refine aa (aD rfl (fun h=>?_) fun h=>?_)
  .have h:x.kind=5:=by simpa using h
   refine ws ?_;have kg:gotD prog 131 true (lookD (.int .u8 x.ins.op) (m8 mQ))=.tup [.agg (gG ((iq mQ x.ins.op).getD vV)),.s (.bool (iq mQ x.ins.op).isSome)]:=L8 rfl _ _ (by rw[FN];unfold zeroD;rw[Gz,GA];rfl);have HY:=KK (P:=prog) (kt:=5) u5 mQ;refine aQ ?_;refine au (AO rfl rfl V.h kg) ak ⟨V.h,by kernel_rfl,HY⟩ ?_;refine SS ?_;refine au (nz (v:=.agg (gG _)) rfl rfl) ak (by first|decide|simp) ?_;refine ab ?_;refine bB (iE (cs':=gG _) rfl rfl rfl rfl) ak (cF V.h V.h (by first|(simp;done)|exact⟨rfl,aP rfl⟩|(simp;omega)) (by rfl)) ?_;refine SS ?_;refine er ?_;refine aI ?_;refine PU ?_;refine aT rfl rfl (df (vs:=gG _) rfl rfl V.h V.h rfl) (fun hc=>⟨ak,(dg V.h V.h (by first|(simp;done)|omega|exact aP rfl))⟩) ?_;refine gc wY ?_;refine aQ ?_;refine gc gN ?_;refine aI ?_;refine gc pD ?_;refine ab ?_;refine aa (jM ?_);refine aN ?_;refine aa ?_;exact j6 (r:={ x with kind:=0,ins:=qj,to:=0,aE:=[],di:= -1 }) (by simp[eg,h,cr,ib,Bool.and_assoc,dN]) ⟨rfl,rfl,rfl,rfl,trivial⟩ rfl rfl (fun m=>by repeat' (first|exact trivial|exact bQ (Tr.s _)|exact bQ (cH _)|exact bQ (gS _)|exact j7|refine And.intro ?_ ?_))
  have h5:¬ x.kind=5:=by simpa using h
  clear h;refine ws ?_;refine ab ?_;refine aa (aD rfl (fun h=>?_) fun h=>?_)
  .have h:x.kind=6:=by simpa using h
   refine ws ?_;have og:=og (s:=x.name);have YI:=ff (l:=[x.a]);have ff:=ff (l:=x.args);have WI:∀ {m:Mem},m 3=some (.cells [I x.a] 3)->Sns prog [3] m [ob f,.rs 3 0 1] [ob f,ao [x.a]]:=fun hm=>⟨bQ (jN ju jv f),Fq hm oS (by rw[c3];rfl) (.cons (.s _) .nil),trivial⟩
   cases C:uf x.name with
   |false=>
    rw[C] at og;refine ab ?_;refine cl og ?_;refine cy ?_;refine ab ?_;refine gc ff ?_;refine aN ?_;(iterate 3 refine z fun _ _=>?_);refine aQ ?_;refine gc gN ?_;refine aI ?_;refine gc pD ?_;refine ab ?_;refine aa (jM ?_);refine aN ?_;refine av ?_;refine aa ?_;exact j6 (r:={ x with kind:=0,name:=.empty,args:=[],a:=0,to:=0,aE:=[],di:= -1 }) (by simp[eg,h,cr,ib,Bool.and_assoc,dN,C]) ⟨rfl,rfl,rfl,rfl,trivial⟩ rfl rfl (fun m=>by repeat' (first|exact trivial|exact bQ (Tr.s _)|exact bQ (cH _)|exact bQ (gS _)|exact j7|refine And.intro ?_ ?_))
   |true=>
    rw[C] at og;by_cases J:(x.args.length:Int)<=6
    rotate_left
    .have zs:decide ((x.args.length:Int)<=6)=false:=by simpa using J
     refine ab ?_;refine cl og ?_;refine cy ?_;refine ab ?_;refine gc ff ?_;refine aN ?_;(iterate 3 refine z fun _ _=>?_);refine aQ ?_;refine gc gN ?_;refine aI ?_;refine gc pD ?_;refine ab ?_;refine aa (jM ?_);refine aN ?_;refine av ?_;refine aa ?_;exact j6 (r:={ x with kind:=0,name:=.empty,args:=[],a:=0,to:=0,aE:=[],di:= -1 }) (by simp[eg,h,cr,ib,Bool.and_assoc,dN,C,J]) ⟨rfl,rfl,rfl,rfl,trivial⟩ rfl rfl (fun m=>by repeat' (first|exact trivial|exact bQ (Tr.s _)|exact bQ (cH _)|exact bQ (gS _)|exact j7|refine And.intro ?_ ?_))
    have zs:decide ((x.args.length:Int)<=6)=true:=by simpa using J
    cases M:nE f.aL x.args with
    |false=>
     rw[M] at ff;refine ab ?_;refine cl og ?_;refine cy ?_;refine ab ?_;refine gc ff ?_;refine aN ?_;(iterate 3 refine z fun _ _=>?_);refine aQ ?_;refine gc gN ?_;refine aI ?_;refine gc pD ?_;refine ab ?_;refine aa (jM ?_);refine aN ?_;refine av ?_;refine aa ?_;exact j6 (r:={ x with kind:=0,name:=.empty,args:=[],a:=0,to:=0,aE:=[],di:= -1 }) (by simp[eg,h,cr,ib,Bool.and_assoc,dN,C,J,M]) ⟨rfl,rfl,rfl,rfl,trivial⟩ rfl rfl (fun m=>by repeat' (first|exact trivial|exact bQ (Tr.s _)|exact bQ (cH _)|exact bQ (gS _)|exact j7|refine And.intro ?_ ?_))
    |true=>
     rw[M] at ff;by_cases X:x.a= -1
     .have gL:(x.a== -1)=true:=by simpa using X
      refine ab ?_;refine cl og ?_;refine cy ?_;refine ab ?_;refine gc ff ?_;refine aI ?_;refine Rm ?_;refine aI ?_;(iterate 2 refine z fun _ _=>?_);refine bC ?_;refine gc gN ?_;refine aI ?_;refine gc pD ?_;refine ab ?_;refine aa (jM ?_);refine aN ?_;refine av ?_;refine aa ?_;exact j6 (r:={ x with kind:=0,name:=.empty,args:=[],a:=0,to:=0,aE:=[],di:= -1 }) (by simp[eg,h,cr,ib,Bool.and_assoc,dN,C,J,M,X]) ⟨rfl,rfl,rfl,rfl,trivial⟩ rfl rfl (fun m=>by repeat' (first|exact trivial|exact bQ (Tr.s _)|exact bQ (cH _)|exact bQ (gS _)|exact j7|refine And.intro ?_ ?_))
     .have gL:(x.a== -1)=false:=by simpa using X
      refine ab ?_;refine cl og ?_;refine cy ?_;refine ab ?_;refine gc ff ?_;refine aI ?_;refine Rm ?_;refine aQ ?_;refine Bz YI rfl rfl rfl rfl (WI rfl) ak ?_;refine bC ?_;refine gc gN ?_;refine aI ?_;refine gc pD ?_;refine ab ?_;refine aa (jM ?_);refine aN ?_;refine av ?_;refine aa ?_;exact j6 (r:={ x with kind:=0,name:=.empty,args:=[],a:=0,to:=0,aE:=[],di:= -1 }) (by simp[eg,h,cr,ib,Bool.and_assoc,dN,C,J,M,X,vR]) ⟨rfl,rfl,rfl,rfl,trivial⟩ rfl rfl (fun m=>by repeat' (first|exact trivial|exact bQ (Tr.s _)|exact bQ (cH _)|exact bQ (gS _)|exact j7|refine And.intro ?_ ?_))
  have h6:¬ x.kind=6:=by simpa using h
  clear h;refine ws ?_;refine ab ?_;refine aa (aD rfl (fun h=>?_) fun h=>?_)
  .have h:x.kind=7:=by simpa using h
   refine ws ?_;refine ab ?_;refine cl og ?_;refine cy ?_;refine ab ?_;refine gc ff ?_;refine aQ ?_;refine gc dF ?_;refine bC ?_;refine gc gN ?_;refine ab ?_;refine aa (jM ?_);refine cy ?_;refine aa ?_;exact j6 (r:={ x with kind:=0,name:=.empty,args:=[],a:=0,to:=0 }) (by simp[eg,h,cr,ib,Bool.and_assoc,dN]) ⟨rfl,rfl,rfl,rfl,trivial⟩ rfl rfl (fun m=>by repeat' (first|exact trivial|exact bQ (Tr.s _)|exact bQ (cH _)|exact bQ (gS _)|exact j7|refine And.intro ?_ ?_))
  have h7:¬ x.kind=7:=by simpa using h
  clear h;refine ws ?_;refine ab ?_;refine aa (aD rfl (fun h=>?_) fun h=>?_)
  .have h:x.kind=8:=by simpa using h
   refine ws ?_;have ff:=ff (l:=[x.b]);have FM:∀ {m:Mem},m 3=some (.cells [I x.b] 3)->Sns prog [3] m [ob f,.rs 3 0 1] [ob f,ao [x.b]]:=fun hm=>⟨bQ (jN ju jv f),Fq hm oS (by rw[c3];rfl) (.cons (.s _) .nil),trivial⟩
   by_cases C:cS f.aL x.a=3
   .have gL:(cS f.aL x.a==3)=true:=by simpa using C
    refine av ?_;refine cl dF ?_;refine bC ?_;refine Bz ff rfl rfl rfl rfl (FM rfl) ak ?_;refine aQ ?_;refine gc gN ?_;refine aQ ?_;refine gc gN ?_;refine aI ?_;refine gc pD ?_;refine ab ?_;refine aa (jM ?_);refine aN ?_;refine av ?_;refine aa ?_;exact j6 (r:={ x with kind:=0,a:=0,b:=0,to:=0,iz:=0,aE:=[],di:= -1 }) (by simp[eg,h,cr,ib,Bool.and_assoc,dN,C,vR]) ⟨rfl,rfl,rfl,rfl,trivial⟩ rfl rfl (fun m=>by repeat' (first|exact trivial|exact bQ (Tr.s _)|exact bQ (cH _)|exact bQ (gS _)|exact j7|refine And.intro ?_ ?_))
   .have gL:(cS f.aL x.a==3)=false:=by simpa using C
    refine av ?_;refine cl dF ?_;refine aQ ?_;(iterate 2 refine z fun _ _=>?_);refine aQ ?_;refine gc gN ?_;refine aQ ?_;refine gc gN ?_;refine aI ?_;refine gc pD ?_;refine ab ?_;refine aa (jM ?_);refine aN ?_;refine av ?_;refine aa ?_;exact j6 (r:={ x with kind:=0,a:=0,b:=0,to:=0,iz:=0,aE:=[],di:= -1 }) (by simp[eg,h,cr,ib,Bool.and_assoc,dN,C]) ⟨rfl,rfl,rfl,rfl,trivial⟩ rfl rfl (fun m=>by repeat' (first|exact trivial|exact bQ (Tr.s _)|exact bQ (cH _)|exact bQ (gS _)|exact j7|refine And.intro ?_ ?_))
  have h8:¬ x.kind=8:=by simpa using h
  clear h;refine ws ?_;refine ab ?_;refine aa (aD rfl (fun h=>?_) fun h=>?_)
  .have h:x.kind=9:=by simpa using h
   refine D4 SP ?_;refine eW ?_;refine gc dF ?_;refine aN ?_;refine gc gN ?_;refine bC ?_;refine bE bP ?_;exact j6 (r:={ x with kind:=0,a:=0,to:=0 }) (by simp[eg,h,cr,ib,Bool.and_assoc,dN]) ⟨rfl,rfl,rfl,rfl,trivial⟩ rfl rfl (fun m=>by repeat' (first|exact trivial|exact bQ (Tr.s _)|exact bQ (cH _)|exact bQ (gS _)|exact j7|refine And.intro ?_ ?_))
  .have h9:¬ x.kind=9:=by simpa using h
   refine D1 ?_;exact j6 (r:={ x with kind:=0 }) (by simp[eg,h1,h2,h3,h4,h5,h6,h7,h8,h9]) ⟨rfl,rfl,rfl,rfl,trivial⟩ rfl rfl (fun m=>by repeat' (first|exact trivial|exact bQ (Tr.s _)|exact bQ (cH _)|exact bQ (gS _)|exact j7|refine And.intro ?_ ?_))
 .obtain⟨cells,n,hg,hl,hs⟩:=hs;refine⟨_,hg,ai ?_⟩;have tf:(cells.drop 0).take 15=cells:=by rw[List.drop_zero,ez oG]
  have Gy:=Gy (x:=(eg f x).2);have YJ:∀ {m:Mem},m 2=m 2->Sns prog [2] m [.agg ((cells.drop 0).take 15)] [.agg (bm (eg f x).2)]:=fun {m} _=>⟨WJ (by rw[tf];exact hs m),trivial⟩
  have he:mP f x=((eg f x).1&&wG (eg f x).2):=rfl;generalize (eg f x).1=ok at he;cases ok with
  |true=>
   refine ab ?_;refine abD ?_;refine Bz Gy rfl rfl rfl rfl (YJ rfl) ak ?_;refine ab ?_;refine aa (az (d:=.s (.bool _)) rfl ?_);rw[he];simp
  |false=>
   refine ab ?_;(iterate 2 refine z fun _ _=>?_);refine ab ?_;refine aa (az (d:=.s (.bool _)) rfl ?_);rw[he];simp
theorem qF{n:Int}(hn: -1000000<=n/\n<=1000000):PCall prog 244 [I n] (I (kp n)):=by
 refine bd N6 (by simp[Tr.s]) (Tr.s _) ?_;rw[YL];refine ws ?_;refine SS ?_;refine er ?_;refine av ?_;exact aa (az rfl rfl)
theorem wQ{x:bN}:PCall prog 139 [.agg (b7 x)] (I (fZ x)):=by
 have aH:∀ a∈[D.agg (b7 x)],Tr a:=.cons (.agg (rR x)) .nil;refine bd N7 aH (Tr.s _) ?_;rw[YM];refine ax ?_;refine ab ?_;refine aa (aR (cE [(0,b7 x,66)] eH (l:=[(1,.pt (b7 x))]) eH) (aB (ai ?_)));refine ab ?_;refine aa (tM ?_);refine eO (fun s=>Ghost prog s ⟨aw [(1,.pt (b7 x)),(4,U8 x.op),(5,B (aW p6 x.op))],fun _=>none,1⟩) (ai ?_) fun s hg=>⟨_,hg,?_⟩
 .refine ab ?_;refine aa (aD rfl (fun h=>bD ?_) fun e1=>ai ?_)
  .have h:x.op=1:=by simpa using h
   refine aq ⟨rfl,rfl,?_,trivial⟩;show D.s (.bool (x.op==1))=_;rw[h];rfl
  refine ab ?_;refine aa (aD rfl (fun h=>bD ?_) fun e2=>ai ?_)
  .have h:x.op=2:=by simpa using h
   refine aq ⟨rfl,rfl,?_,trivial⟩;show D.s (.bool (x.op==2))=_;rw[h];rfl
  refine ab ?_;refine aa (aD rfl (fun h=>bD ?_) fun e3=>ai ?_)
  .have h:x.op=3:=by simpa using h
   refine aq ⟨rfl,rfl,?_,trivial⟩;show D.s (.bool (x.op==3))=_;rw[h];rfl
  refine ab ?_;refine aa (aD rfl (fun h=>bD ?_) fun e4=>ai ?_)
  .have h:x.op=4:=by simpa using h
   refine aq ⟨rfl,rfl,?_,trivial⟩;show D.s (.bool (x.op==4))=_;rw[h];rfl
  refine ab ?_;refine aa (aD rfl (fun h=>bD ?_) fun e5=>ai ?_)
  .have h:x.op=5:=by simpa using h
   refine aq ⟨rfl,rfl,?_,trivial⟩;show D.s (.bool (x.op==5))=_;rw[h];rfl
  refine ab ?_;refine aa (aD rfl (fun h=>bD ?_) fun e6=>ai ?_)
  .have h:x.op=6:=by simpa using h
   refine aq ⟨rfl,rfl,?_,trivial⟩;show D.s (.bool (x.op==6))=_;rw[h];rfl
  refine ab ?_;refine aa (aD rfl (fun h=>bD ?_) fun e7=>ai ?_)
  .have h:x.op=7:=by simpa using h
   refine aq ⟨rfl,rfl,?_,trivial⟩;show D.s (.bool (x.op==7))=_;rw[h];rfl
  refine ab ?_;refine aa (aD rfl (fun h=>bD ?_) fun e8=>ai ?_)
  .have h:x.op=8:=by simpa using h
   refine aq ⟨rfl,rfl,?_,trivial⟩;show D.s (.bool (x.op==8))=_;rw[h];rfl
  refine ab ?_;refine aa (aD rfl (fun h=>bD ?_) fun e9=>ai ?_)
  .have h:x.op=9:=by simpa using h
   refine aq ⟨rfl,rfl,?_,trivial⟩;show D.s (.bool (x.op==9))=_;rw[h];rfl
  refine ab ?_;refine aa (aD rfl (fun h=>bD ?_) fun C=>ai ?_)
  .have h:x.op=10:=by simpa using h
   refine aq ⟨rfl,rfl,?_,trivial⟩;show D.s (.bool (x.op==10))=_;rw[h];rfl
  refine ab ?_;refine aa (aD rfl (fun h=>bD ?_) fun tq=>ai ?_)
  .have h:x.op=11:=by simpa using h
   refine aq ⟨rfl,rfl,?_,trivial⟩;show D.s (.bool (x.op==11))=_;rw[h];rfl
  refine ab ?_;refine aa (aD rfl (fun h=>bD ?_) fun M=>ai ?_)
  .have h:x.op=13:=by simpa using h
   refine aq ⟨rfl,rfl,?_,trivial⟩;show D.s (.bool (x.op==13))=_;rw[h];rfl
  refine ab ?_;refine aa (aD rfl (fun h=>bD ?_) fun X=>ai ?_)
  .have h:x.op=14:=by simpa using h
   refine aq ⟨rfl,rfl,?_,trivial⟩;show D.s (.bool (x.op==14))=_;rw[h];rfl
  refine ab ?_;refine aa (aD rfl (fun h=>bD ?_) fun H3=>r9 ?_)
  .have h:x.op=17:=by simpa using h
   refine aq ⟨rfl,rfl,?_,trivial⟩;show D.s (.bool (x.op==17))=_;rw[h];rfl
  refine ab ?_;refine aa ?_;refine aq ⟨rfl,rfl,?_,trivial⟩;show D.s (.bool (x.op==19))=_;simp[aW,p6,e1,e2,e3,e4,e5,e6,e7,e8,e9,C,tq,M,X,H3]
 refine aD rfl (fun h1=>?_) fun h1=>?_
 .refine ws ?_;refine av ?_;refine aa (bq (eF (bl (az (d:=I x.to) rfl ?_))));simp[fZ,h1]
 refine eO (fun s=>Ghost prog s ⟨aw [(1,.pt (b7 x)),(4,U8 x.op),(23,B (aW tO x.op))],fun _=>none,1⟩) (ai ?_) fun s hg=>⟨_,hg,?_⟩
 .refine ab ?_;refine aa (aD rfl (fun h=>bD ?_) fun H4=>ai ?_)
  .have h:x.op=30:=by simpa using h
   refine aq ⟨rfl,rfl,?_,trivial⟩;show D.s (.bool (x.op==30))=_;rw[h];rfl
  refine ab ?_;refine aa (aD rfl (fun h=>bD ?_) fun H5=>ai ?_)
  .have h:x.op=31:=by simpa using h
   refine aq ⟨rfl,rfl,?_,trivial⟩;show D.s (.bool (x.op==31))=_;rw[h];rfl
  refine ab ?_;refine aa (aD rfl (fun h=>bD ?_) fun H6=>ai ?_)
  .have h:x.op=32:=by simpa using h
   refine aq ⟨rfl,rfl,?_,trivial⟩;show D.s (.bool (x.op==32))=_;rw[h];rfl
  refine ab ?_;refine aa (aD rfl (fun h=>bD ?_) fun H7=>ai ?_)
  .have h:x.op=33:=by simpa using h
   refine aq ⟨rfl,rfl,?_,trivial⟩;show D.s (.bool (x.op==33))=_;rw[h];rfl
  refine ab ?_;refine aa (aD rfl (fun h=>bD ?_) fun H8=>ai ?_)
  .have h:x.op=34:=by simpa using h
   refine aq ⟨rfl,rfl,?_,trivial⟩;show D.s (.bool (x.op==34))=_;rw[h];rfl
  refine ab ?_;refine aa (aD rfl (fun h=>bD ?_) fun J=>r9 ?_)
  .have h:x.op=36:=by simpa using h
   refine aq ⟨rfl,rfl,?_,trivial⟩;show D.s (.bool (x.op==36))=_;rw[h];rfl
  refine ab ?_;refine aa ?_;refine aq ⟨rfl,rfl,?_,trivial⟩;show D.s (.bool (x.op==37))=_;simp[aW,tO,H4,H5,H6,H7,H8,J]
 refine aD rfl (fun h2=>?_) fun h2=>?_
 .refine ws ?_;refine av ?_;refine aa (bq (eF (bl (az (d:=I x.to) rfl ?_))));simp[fZ,h2]
 refine r8 (ai ?_);refine SS ?_;refine aa (az (d:=I (-1)) rfl ?_);simp[fZ,h1,h2]
theorem Gl{x:Argus.End}:PCall prog 175 [.agg (bm x)] (I (fL x)):=by
 have C:∀ a∈[D.agg (bm x)],Tr a:=.cons (.agg (mF x)) .nil;have wQ:=wQ (x:=x.ins);refine bd N8 C (Tr.s _) ?_;rw[YN];refine ax ?_;refine ab ?_;refine aa (aR (cE [(0,bm x,69)] eH (l:=[(1,.pt (bm x))]) eH) (aB (ai ?_)));refine ab ?_;refine aa (tM (ai ?_));refine ab ?_;refine aa (aD rfl (fun h1=>?_) fun h1=>?_)
 .have h1:x.kind=5:=by simpa using h1
  refine ws ?_;refine ab ?_;refine cl wQ ?_;refine SS ?_;refine aa (bq (eF (bl (az (d:=I (fZ x.ins)) rfl ?_))));simp[fL,h1]
 have h1:¬ x.kind=5:=by simpa using h1
 refine eO (fun s=>Ghost prog s ⟨aw [(1,.pt (bm x)),(4,U8 x.kind),(10,B (aW [6,7] x.kind))],fun _=>none,1⟩) (ai ?_) fun s hg=>⟨_,hg,?_⟩
 .refine ab ?_;refine aa (aD rfl (fun h=>bD ?_) fun e6=>r9 ?_)
  .have h:x.kind=6:=by simpa using h
   refine aq ⟨rfl,rfl,?_,trivial⟩;show D.s (.bool (x.kind==6))=_;rw[h];rfl
  refine ab ?_;refine aa ?_;refine aq ⟨rfl,rfl,?_,trivial⟩;show D.s (.bool (x.kind==7))=_;simp[aW,e6]
 refine aD rfl (fun h2=>?_) fun h2=>?_
 .refine ws ?_;refine av ?_;refine aa (bq (eF (bl (az (d:=I x.a) rfl ?_))));simp[fL,h1,h2]
 refine ws ?_;refine ab ?_;refine aa (aD rfl (fun h3=>?_) fun h3=>?_)
 .have h3:x.kind=8:=by simpa using h3
  refine ws ?_;refine av ?_;refine aa (bq (eF (bl (az (d:=I x.b) rfl ?_))));simp[fL,h2,h3];simp[aW]
 have h3:¬ x.kind=8:=by simpa using h3
 refine r8 (ai ?_);refine SS ?_;refine aa (az (d:=I (-1)) rfl ?_);simp[fL,h1,h2,h3]
theorem xc{l:List Int}(hl:l.length<=100000):PCall prog 105 [ao l] (ao l):=by
 have J:∀ a∈[ao l],Tr a:=.cons (cH _) .nil;refine bd N9 J (cH _) ?_;rw[YO];have PX:(l.map I).take (l.length*1)=l.map I:=ez oS
 have last:AW prog noY true (.seq (.region 3 (Z rW 3) false) .ret) (retQ prog [.tmp 2] fun d x=>d=ao l) ⟨aw [(0,ao l)],fun _=>none,0⟩:=by
  refine ax ?_;refine abH ?_;refine SS ?_;refine PY ?_;refine SS ?_;refine aa (aR (cE [(1,l.map I,3)] eH (l:=[(2,ao l)]) ⟨?_,trivial⟩) (az rfl rfl));show xj _ [(1,l.map I,3)] (.rs 1 0 (0+l.length))=.sl (l.map I) l.length;rw[Nat.zero_add];exact su c3 (ez oS)
 refine ws ?_;refine SS ?_;refine aa ?_;refine eO (fun s=>Ghost prog s ⟨aw [(0,ao l)],fun _=>none,0⟩) (ai ?_) fun s hg=>⟨_,hg,last⟩
 cases l with
 |nil=>
  refine SS ?_;refine au (WK rfl) ak V.h ?_;refine aa (Vk rfl (ax ?_) (bD (aq eH)));refine SS ?_;exact aa (aR (A0 (n0:=2) rfl) (bq (bl (az rfl rfl))))
 |cons a l=>
  have C:(a::l).length≠0:=by simp
  refine SS ?_;refine au (WL rfl C) ak V.h ?_;exact aa (aD rfl (fun h=>oH) fun h=>bD (aq eH))
theorem wV{x:bN}(hx:x.op=10\/x.op=38->x.args.length<=1000):PCall prog 140 [.agg (b7 x)] (ao (cX x)):=by
 have aH:∀ a∈[D.agg (b7 x)],Tr a:=.cons (.agg (rR x)) .nil;refine bd Oa aH (cH _) ?_;rw[YP];refine ax ?_;refine ab ?_;refine aa (aR (cE [(0,b7 x,66)] eH (l:=[(1,.pt (b7 x))]) eH) (aB (ai ?_)));refine ab ?_;refine aa (tM ?_);refine eO (fun s=>Ghost prog s ⟨aw [(1,.pt (b7 x)),(4,U8 x.op),(5,B (aW qa x.op))],fun _=>none,1⟩) (ai ?_) fun s hg=>⟨_,hg,?_⟩
 .refine ab ?_;refine aa (aD rfl (fun h=>bD ?_) fun e2=>ai ?_)
  .have h:x.op=2:=by simpa using h
   refine aq ⟨rfl,rfl,?_,trivial⟩;show D.s (.bool (x.op==2))=_;rw[h];rfl
  refine ab ?_;refine aa (aD rfl (fun h=>bD ?_) fun e8=>ai ?_)
  .have h:x.op=8:=by simpa using h
   refine aq ⟨rfl,rfl,?_,trivial⟩;show D.s (.bool (x.op==8))=_;rw[h];rfl
  refine ab ?_;refine aa (aD rfl (fun h=>bD ?_) fun tq=>ai ?_)
  .have h:x.op=11:=by simpa using h
   refine aq ⟨rfl,rfl,?_,trivial⟩;show D.s (.bool (x.op==11))=_;rw[h];rfl
  refine ab ?_;refine aa (aD rfl (fun h=>bD ?_) fun X=>ai ?_)
  .have h:x.op=13:=by simpa using h
   refine aq ⟨rfl,rfl,?_,trivial⟩;show D.s (.bool (x.op==13))=_;rw[h];rfl
  refine ab ?_;refine aa (aD rfl (fun h=>bD ?_) fun H2=>ai ?_)
  .have h:x.op=14:=by simpa using h
   refine aq ⟨rfl,rfl,?_,trivial⟩;show D.s (.bool (x.op==14))=_;rw[h];rfl
  refine ab ?_;refine aa (aD rfl (fun h=>bD ?_) fun H9=>ai ?_)
  .have h:x.op=15:=by simpa using h
   refine aq ⟨rfl,rfl,?_,trivial⟩;show D.s (.bool (x.op==15))=_;rw[h];rfl
  refine ab ?_;refine aa (aD rfl (fun h=>bD ?_) fun H'=>ai ?_)
  .have h:x.op=16:=by simpa using h
   refine aq ⟨rfl,rfl,?_,trivial⟩;show D.s (.bool (x.op==16))=_;rw[h];rfl
  refine ab ?_;refine aa (aD rfl (fun h=>bD ?_) fun J=>r9 ?_)
  .have h:x.op=18:=by simpa using h
   refine aq ⟨rfl,rfl,?_,trivial⟩;show D.s (.bool (x.op==18))=_;rw[h];rfl
  refine ab ?_;refine aa ?_;refine aq ⟨rfl,rfl,?_,trivial⟩;show D.s (.bool (x.op==36))=_;simp[aW,qa,e2,e8,tq,X,H2,H9,H',J]
 refine aD rfl (fun h1=>?_) fun h1=>?_
 .refine ax ?_;refine aI ?_;refine aa (aR (cE [(1,([x.a]).map I,3)] eH (l:=[(2,ao ([x.a]))]) ⟨su c3 rfl,trivial⟩) (bq (eF (bl (az (d:=ao ([x.a])) rfl ?_)))));exact congrArg ao (by unfold cX;rw[if_pos h1])
 refine eO (fun s=>Ghost prog s ⟨aw [(1,.pt (b7 x)),(4,U8 x.op),(18,B (aW tR x.op))],fun _=>none,1⟩) (ai ?_) fun s hg=>⟨_,hg,?_⟩
 .refine ab ?_;refine aa (aD rfl (fun h=>bD ?_) fun e3=>ai ?_)
  .have h:x.op=3:=by simpa using h
   refine aq ⟨rfl,rfl,?_,trivial⟩;show D.s (.bool (x.op==3))=_;rw[h];rfl
  refine ab ?_;refine aa (aD rfl (fun h=>bD ?_) fun e4=>ai ?_)
  .have h:x.op=4:=by simpa using h
   refine aq ⟨rfl,rfl,?_,trivial⟩;show D.s (.bool (x.op==4))=_;rw[h];rfl
  refine ab ?_;refine aa (aD rfl (fun h=>bD ?_) fun e5=>ai ?_)
  .have h:x.op=5:=by simpa using h
   refine aq ⟨rfl,rfl,?_,trivial⟩;show D.s (.bool (x.op==5))=_;rw[h];rfl
  refine ab ?_;refine aa (aD rfl (fun h=>bD ?_) fun e6=>ai ?_)
  .have h:x.op=6:=by simpa using h
   refine aq ⟨rfl,rfl,?_,trivial⟩;show D.s (.bool (x.op==6))=_;rw[h];rfl
  refine ab ?_;refine aa (aD rfl (fun h=>bD ?_) fun e7=>ai ?_)
  .have h:x.op=7:=by simpa using h
   refine aq ⟨rfl,rfl,?_,trivial⟩;show D.s (.bool (x.op==7))=_;rw[h];rfl
  refine ab ?_;refine aa (aD rfl (fun h=>bD ?_) fun C=>ai ?_)
  .have h:x.op=12:=by simpa using h
   refine aq ⟨rfl,rfl,?_,trivial⟩;show D.s (.bool (x.op==12))=_;rw[h];rfl
  refine ab ?_;refine aa (aD rfl (fun h=>bD ?_) fun H4=>ai ?_)
  .have h:x.op=30:=by simpa using h
   refine aq ⟨rfl,rfl,?_,trivial⟩;show D.s (.bool (x.op==30))=_;rw[h];rfl
  refine ab ?_;refine aa (aD rfl (fun h=>bD ?_) fun H5=>ai ?_)
  .have h:x.op=31:=by simpa using h
   refine aq ⟨rfl,rfl,?_,trivial⟩;show D.s (.bool (x.op==31))=_;rw[h];rfl
  refine ab ?_;refine aa (aD rfl (fun h=>bD ?_) fun H6=>ai ?_)
  .have h:x.op=32:=by simpa using h
   refine aq ⟨rfl,rfl,?_,trivial⟩;show D.s (.bool (x.op==32))=_;rw[h];rfl
  refine ab ?_;refine aa (aD rfl (fun h=>bD ?_) fun H7=>ai ?_)
  .have h:x.op=33:=by simpa using h
   refine aq ⟨rfl,rfl,?_,trivial⟩;show D.s (.bool (x.op==33))=_;rw[h];rfl
  refine ab ?_;refine aa (aD rfl (fun h=>bD ?_) fun H8=>ai ?_)
  .have h:x.op=34:=by simpa using h
   refine aq ⟨rfl,rfl,?_,trivial⟩;show D.s (.bool (x.op==34))=_;rw[h];rfl
  refine ab ?_;refine aa (aD rfl (fun h=>bD ?_) fun M=>r9 ?_)
  .have h:x.op=35:=by simpa using h
   refine aq ⟨rfl,rfl,?_,trivial⟩;show D.s (.bool (x.op==35))=_;rw[h];rfl
  refine ab ?_;refine aa ?_;refine aq ⟨rfl,rfl,?_,trivial⟩;show D.s (.bool (x.op==37))=_;simp[aW,tR,e3,e4,e5,e6,e7,C,H4,H5,H6,H7,H8,M]
 refine aD rfl (fun h2=>?_) fun h2=>?_
 .refine ax ?_;refine bC ?_;refine aa (aR (cE [(1,([x.a,x.b]).map I,3)] eH (l:=[(2,ao ([x.a,x.b]))]) ⟨su c3 rfl,trivial⟩) (bq (eF (bl (az (d:=ao ([x.a,x.b])) rfl ?_)))));exact congrArg ao (by unfold cX;rw[if_neg (by simp[h1]),if_pos h2])
 refine ws ?_;refine ab ?_;refine aa (aD rfl (fun h3=>?_) fun h3=>?_)
 .have h3:x.op=10:=by simpa using h3
  have xc:=xc (l:=x.args) (by have:=hx (.inl h3);omega);refine ws ?_;refine ab ?_;refine cl xc ?_;refine SS ?_;refine aa (bq (eF (bl (az (d:=ao x.args) rfl ?_))));exact congrArg ao (by unfold cX;rw[if_neg (by simp[h1]),if_neg (by simp[h2]),if_pos h3])
 have h3:¬ x.op=10:=by simpa using h3
 refine ws ?_;refine ab ?_;refine aa (aD rfl (fun h4=>?_) fun h4=>?_)
 .have h4:x.op=38:=by simpa using h4
  have hl:=hx (.inr h4);have PX:(x.args.map I).take (x.args.length*1)=x.args.map I:=ez oS;refine ax ?_;refine eW ?_;refine PY ?_;refine SS ?_;refine aa (aR (cE [(2,(x.a::x.b::x.args).map I,3)] eH (l:=[(2,ao (x.a::x.b::x.args))]) ⟨?_,trivial⟩) (bq (eF (bl (az (d:=ao (x.a::x.b::x.args)) rfl ?_)))))
  .show xj _ [(2,_,3)] (.rs 2 0 (2+x.args.length))=_;refine(su c3 (es:=(x.a::x.b::x.args).map I) (ez oP)).trans ?_;rw[Nat.add_comm];rfl
  .exact congrArg ao (by unfold cX;rw[if_neg (by simp[h1]),if_neg (by simp[h2]),if_neg h3,if_pos h4])
 have h4:¬ x.op=38:=by simpa using h4
 refine r8 (ax ?_);refine SS ?_;refine aa (aR (A0 (n0:=2) rfl) (az (d:=ao []) rfl ?_));exact congrArg ao (by unfold cX;rw[if_neg (by simp[h1]),if_neg (by simp[h2]),if_neg h3,if_neg h4])
theorem Gm{x:Argus.End}(hx:x.kind=5->x.ins.op=10\/x.ins.op=38->x.ins.args.length<=1000)(hy:x.kind=6\/x.kind=7->x.args.length<=1000):PCall prog 137 [.agg (bm x)] (ao (cM x)):=by
 have C:∀ a∈[D.agg (bm x)],Tr a:=.cons (.agg (mF x)) .nil;refine bd Ob C (cH _) ?_;rw[YQ];refine ax ?_;refine ab ?_;refine aa (aR (cE [(0,bm x,69)] eH (l:=[(1,.pt (bm x))]) eH) (aB (ai ?_)));refine ab ?_;refine aa (tM ?_);refine eO (fun s=>Ghost prog s ⟨aw [(1,.pt (bm x)),(4,U8 x.kind),(5,B (aW [2,8,9] x.kind))],fun _=>none,1⟩) (ai ?_) fun s hg=>⟨_,hg,?_⟩
 .refine ab ?_;refine aa (aD rfl (fun h=>bD ?_) fun e2=>ai ?_)
  .have h:x.kind=2:=by simpa using h
   refine aq ⟨rfl,rfl,?_,trivial⟩;show D.s (.bool (x.kind==2))=_;rw[h];rfl
  refine ab ?_;refine aa (aD rfl (fun h=>bD ?_) fun e8=>r9 ?_)
  .have h:x.kind=8:=by simpa using h
   refine aq ⟨rfl,rfl,?_,trivial⟩;show D.s (.bool (x.kind==8))=_;rw[h];rfl
  refine ab ?_;refine aa ?_;refine aq ⟨rfl,rfl,?_,trivial⟩;show D.s (.bool (x.kind==9))=_;simp[aW,e2,e8]
 refine aD rfl (fun h1=>?_) fun h1=>?_
 .refine ax ?_;refine aI ?_;refine aa (aR (cE [(1,([x.a]).map I,3)] eH (l:=[(2,ao ([x.a]))]) ⟨su c3 rfl,trivial⟩) (bq (eF (bl (az (d:=ao ([x.a])) rfl ?_)))));exact congrArg ao (by unfold cM;rw[if_pos h1])
 refine ws ?_;refine ab ?_;refine aa (aD rfl (fun h2=>?_) fun h2=>?_)
 .have h2:x.kind=3:=by simpa using h2
  refine ws ?_;refine av ?_;refine aa (aD rfl (fun h3=>?_) fun h3=>?_)
  .have h3:¬ x.a= -1:=by simpa[bne,ib] using h3
   refine ax ?_;refine aI ?_;refine aa (aR (cE [(1,([x.a]).map I,3)] eH (l:=[(2,ao ([x.a]))]) ⟨su c3 rfl,trivial⟩) (bq (eF (bl (az (d:=ao ([x.a])) rfl ?_)))));exact congrArg ao (by unfold cM;rw[if_neg (by simp[h1]),if_pos h2,if_pos h3])
  .have h3:x.a= -1:=by simpa[bne,ib] using h3
   refine r8 (ax ?_);refine SS ?_;refine aa (aR (A0 (n0:=2) rfl) (az (d:=ao []) rfl ?_));exact congrArg ao (by unfold cM;rw[if_neg (by simp[h1]),if_pos h2,if_neg (by simp[h3])])
 have h2:¬ x.kind=3:=by simpa using h2
 refine ws ?_;refine ab ?_;refine aa (aD rfl (fun h3=>?_) fun h3=>?_)
 .have h3:x.kind=5:=by simpa using h3
  have wV:=wV (x:=x.ins) (hx h3);refine ws ?_;refine ab ?_;refine cl wV ?_;refine SS ?_;refine aa (bq (eF (bl (az (d:=ao (cX x.ins)) rfl ?_))));exact congrArg ao (by unfold cM;rw[if_neg (by simp[h1]),if_neg h2,if_pos h3])
 have h3:¬ x.kind=5:=by simpa using h3
 refine eO (fun s=>Ghost prog s ⟨aw [(1,.pt (bm x)),(4,U8 x.kind),(25,B (aW [6,7] x.kind))],fun _=>none,1⟩) (ai ?_) fun s hg=>⟨_,hg,?_⟩
 .refine ab ?_;refine aa (aD rfl (fun h=>bD ?_) fun e6=>r9 ?_)
  .have h:x.kind=6:=by simpa using h
   refine aq ⟨rfl,rfl,?_,trivial⟩;show D.s (.bool (x.kind==6))=_;rw[h];rfl
  refine ab ?_;refine aa ?_;refine aq ⟨rfl,rfl,?_,trivial⟩;show D.s (.bool (x.kind==7))=_;simp[aW,e6]
 refine aD rfl (fun h4=>?_) fun h4=>?_
 .have h5:x.kind=6\/x.kind=7:=by simpa[aW] using h4
  have xc:=xc (l:=x.args) (by have:=hy h5;omega);refine ws ?_;refine ab ?_;refine cl xc ?_;refine SS ?_;refine aa (bq (eF (bl (az (d:=ao x.args) rfl ?_))));exact congrArg ao (by unfold cM;rw[if_neg (by simp[h1]),if_neg h2,if_neg h3,if_pos h4])
 refine r8 (ax ?_);refine SS ?_;refine aa (aR (A0 (n0:=2) rfl) (az (d:=ao []) rfl ?_));exact congrArg ao (by unfold cM;rw[if_neg (by simp[h1]),if_neg h2,if_neg h3,if_neg (by simp[h4])])
noncomputable def cx0:Ctx:=⟨fun f=>zu.get f,fun _ _ _=>none,fun _ _=>none⟩
theorem jO:cx0.Ok prog:=⟨mixed,EP,fun _ _ _ _ h=>oH,fun _ _ _ h=>oH⟩
theorem xY{off:Nat}{vs cs:List D}(hv:vs.length=20)(hl:off+20<=cs.length)(C:vs.all D.one=true):tyOk prog 231=true/\vs.length=prog.cellsOf 231/\off+prog.cellsOf 231<=cs.length/\vs.all D.one=true:=by
 rw[od];exact⟨t231,hv,hl,C⟩
theorem iN{w:List Int}{m:Nat}(J:w.length=20)(hm:m<1280):PCall prog 200 [eK w,I m] (B (mX w m)):=by
 have C:∀ a∈[eK w,I m],Tr a:=.cons (mY _) (.cons (.s _) .nil);have hi:w[m / 64]? =some w[m / 64]:=aK oG;have hg:w.getD (m / 64) 0=w[m / 64]:=by simp[aV,hi]
 have Ox:=MR (m:=m) oG;have Oy:=MS m;have kd:=fM (f:=bM) hi;refine bd MT C (Tr.s _) ?_;rw[Xy];refine ws ?_;refine ab ?_;refine er ?_;refine SS ?_;refine Oz ?_;refine av ?_;refine OA ?_;refine au (Xb rfl rfl) ak oG ?_;refine OB ?_;refine ab ?_;refine aa (az (d:=.s (.bool _)) rfl ?_);unfold mX;rw[hg];rfl
theorem mZ{w:List Int}{n:Int}(J:w.length=20)(hn: -1000000<=n/\n<1280):PCall prog 242 [eK w,I n] (eK (lV w n)):=by
 have C:∀ a∈[eK w,I n],Tr a:=.cons (mY _) (.cons (.s _) .nil);refine bd MU C (mY _) ?_;rw[Xz];refine ws ?_;refine ab ?_;refine aa (aB (ai ?_));by_cases h0:0<=n
 .obtain⟨m,rfl⟩:=dd h0;have hm:m<1280:=by omega
  have hi:w[m / 64]? =some w[m / 64]:=aK oG;have hg:w.getD (m / 64) 0=w[m / 64]:=by simp[aV,hi]
  have Ox:=MR (m:=m) oG;have Oy:=MS m;have kd:=fM (f:=bM) hi;have zv:decide (0<=(m:Int))=true:=by simp
  refine SS ?_;refine OC ?_;refine aa (fA (fK S9 ?_));refine SS ?_;refine Oz ?_;refine av ?_;refine OA ?_;refine aaq ?_;refine aar ?_;refine ab ?_;refine bE bP (ai ?_);refine ab ?_;refine aa (r6 (nw rfl rfl qE od (jW (by first|rfl|simp;omega)) t231 oP) ?_);simp only[lV,h0,if_true,b9,zh,hg,eK,List.map_set];rfl
 .have zv:decide (0<=n)=false:=by simpa using h0
  refine SS ?_;refine OC ?_;refine aa (ll (cu (ai ?_)));refine ab ?_;refine aa (r6 (nw rfl rfl qE od (jW oP) t231 oP) ?_);simp only[lV,h0,if_false]
theorem B6{w v:List Int}(M:w.length=20)(hv:v.length=20):PCall prog 243 [eK w,eK v] (eK (jX w v)):=by
 have X:∀ a∈[eK w,eK v],Tr a:=.cons (mY _) (.cons (mY _) .nil);refine bd MV X (mY _) ?_;rw[XA];refine ws ?_;refine av ?_;refine aa (aB (ax ?_));refine SS ?_
 refine aa (cN (fun s=>Ghost prog s ⟨aw [(2,.rp 0 0),(3,.rp 1 0),(4,.rp 2 0)],bi [(0,.cells ((jX w v).map bM) 231),(1,.cells (v.map bM) 231),(2,.cells (List.replicate 20 (bM 0)) 231)],3⟩) (cG (α:=Nat)
  (fun k=>⟨aw [(2,.rp 0 0),(3,.rp 1 0),(4,.rp 2 0),(6,I k)],bi [(0,.cells ((eb w v k).map bM) 231),(1,.cells (v.map bM) 231),(2,.cells (List.replicate 20 (bM 0)) 231)],3⟩)
  (fun k=>k<=20) (fun k=>20 - k) 0 (bg eH eH) oG ?_) ?_)
 .intro k hk;refine SS ?_;refine aa ⟨_,rfl,fun h=>?_,fun h=>?_⟩
  .have af:k<20:=by have h:(k:Int)<20:=by simpa using h
                    omega
   have zO:(eb w v k).length=20:=by simp[M]
   have hi:(eb w v k)[k]? =some (eb w v k)[k]:=aK oG;have hj:v[k]? =some v[k]:=aK oG;have hg:(eb w v k).getD k 0=(eb w v k)[k]:=by simp[aV,hi]
   have C:v.getD k 0=v[k]:=by simp[aV,hj]
   have kd:=fM (f:=bM) hi;have gB:=fM (f:=bM) hj;refine ws ?_;refine ab ?_;refine aa (p8 S' ?_);refine aQ ?_;refine au (eD rfl rfl gB V.h) ak (eE V.h V.h gB) ?_;refine OB ?_;refine ab ?_;refine bE bP ?_;refine ab ?_;refine aa (aJ (k+1) (bg eH ⟨?_,rfl,rfl,trivial⟩) oG oG);rw[up_same];simp only[eb,hg,C,List.map_set];rfl
  .have ba:¬ k<20:=by intro hh;simp at h;omega
   have:k=20:=by omega
   subst this;exact .forget _ _ _ _ fun t=>kY (l:=[(2,.rp 0 0),(3,.rp 1 0),(4,.rp 2 0)]) ⟨rfl,rfl,rfl,trivial⟩ t
 .intro s hg;have J:(jX w v).length=20:=by simp[M]
  generalize jX w v=u at hg J ⊢;refine⟨_,hg,ai ?_⟩;refine ab ?_;refine aa (r6 (nw rfl rfl qE od (jW oP) t231 oP) ?_);rfl
def aas:Int:=18446744073709551615
theorem F8:PCall prog 241 [] (eK (List.replicate 20 aas)):=by
 exact iF jO 100 rfl kr
theorem zw{w:List Int}{x:bN}(C:w.length=20)(hn:x.op=18->0<=x.n/\x.n<80)(ht:x.op≠18-> -1000000<=fZ x/\fZ x<1280):PCall prog 245 [eK w,.agg (b7 x)] (eK (lV w (if x.op=18 then kp x.n else fZ x))):=by
 have J:∀ a∈[eK w,.agg (b7 x)],Tr a:=.cons (mY _) (.cons (.agg (rR x)) .nil);refine bd MW J (mY _) ?_;rw[XB];refine ws ?_;refine av ?_;refine aa (aB (ai ?_));refine av ?_;refine aa (c6 rfl (fun h=>?_) fun h=>cu (fK Ta ?_))
 .have h:x.op=18:=by simpa using h
  have hx:=hn h;have qF:=qF (n:=x.n) oG;have mZ:=mZ (w:=w) (n:=kp x.n) C (by unfold kp;omega);refine aB (fK Tb ?_);refine av ?_;refine cl qF ?_;refine cl mZ ?_;refine SS ?_;refine bE bP (c8 (r6 (nw rfl rfl qE od (jW oP) t231 oP) ?_));simp[h]
 .have h:x.op≠18:=by simpa using h
  have wQ:=wQ (x:=x);have mZ:=mZ (w:=w) (n:=fZ x) C (ht h);refine SS ?_;refine au (df (vs:=b7 _) rfl rfl V.h V.h rfl) ak (dg V.h V.h (by first|(simp;done)|omega|exact aP rfl)) ?_;refine cl wQ ?_;refine cl mZ ?_;refine SS ?_;refine bE bP (r6 (nw rfl rfl qE od (jW oP) t231 oP) ?_);simp[h]
end Go.Proofs.Tryz.K
namespace Go.Argus
def fj(x:End):Bool:=decide (0<=x.di)&&aW [5,6,8] x.kind
def bZ(x:End):List Int:=if aW [3,4] x.kind then [] else x.to::((if aW [2,8] x.kind then [x.iz] else [])++(x.aE.map (·.to)++(if fj x then [x.di] else [])))
def mv(x:End):Nat:=if aW [2,8] x.kind then 2 else 1
theorem Ug{x:End}(h:aW [3,4] x.kind=false):(bZ x)[0]? =some x.to/\(aW [2,8] x.kind=true->(bZ x)[1]? =some x.iz)/\(∀ (j:Nat) w,x.aE[j]? =some w->(bZ x)[mv x+j]? =some w.to)/\
 (fj x=true->(bZ x)[mv x+x.aE.length]? =some x.di)/\(bZ x).length=mv x+x.aE.length+(if fj x then 1 else 0):=by
 unfold bZ mv;generalize fj x=c;rw[if_neg (by simp[h])];cases h2:aW [2,8] x.kind with
 |true=>
  refine⟨rfl,fun _=>rfl,fun j w hj=>?_,fun hc=>?_,?_⟩
  .have:j<x.aE.length:=(bj.1 hj).1;simp only[if_true,List.singleton_append];rw[show 2+j=j+1+1 by omega,List.getElem?_cons_succ,List.getElem?_cons_succ,List.getElem?_append_left (by simpa using this)];simp[hj]
  .simp only[if_true,List.singleton_append];rw[show 2+x.aE.length=x.aE.length+1+1 by omega,List.getElem?_cons_succ,List.getElem?_cons_succ,List.getElem?_append_right oS];rw[if_pos hc];simp
  .cases c<;>simp<;>omega
 |false=>
  refine⟨rfl,fun h=>oH,fun j w hj=>?_,fun hc=>?_,?_⟩
  .have:j<x.aE.length:=(bj.1 hj).1;simp only[Bool.false_eq_true,if_false,List.nil_append];rw[show 1+j=j+1 by omega,List.getElem?_cons_succ,List.getElem?_append_left (by simpa using this)];simp[hj]
  .simp only[Bool.false_eq_true,if_false,List.nil_append];rw[show 1+x.aE.length=x.aE.length+1 by omega,List.getElem?_cons_succ,List.getElem?_append_right oS];rw[if_pos hc];simp
  .cases c<;>simp<;>omega
def ER(x:End)(b:Int):Bool:=cr x.to b&&cr ((bZ x).count b:Nat) 1
theorem Et(x:End):(bZ x).length<=x.aE.length+3:=by
 unfold bZ;split
 .simp
 .simp only[List.length_cons,List.length_append,List.length_map];split<;>split<;>simp<;>omega
end Go.Argus
namespace Go.Abs
theorem kB{P:Program}{Y:YSpec}{rf:Bool}{Q:Exit->St->Prop}{st:St}[cR Y]{ops:Array Oper}{i:Nat}(h:AOps P Y ops false [] (dV (Q .normal)) ops.toList st []):AW P Y rf (.region i ops false) Q st:=lL (rf:=rf) (id:=i) (AOps.iv h fun _ h=>h)
section
variable{P:Program}{env:Env}{m:Mem}{nx:Nat}{x y:Operand}{t p:TypeId}{k:IntKind}{n n':Int}
theorem LQ(hx:(opd env x).core=.s (.int .i64 n))(hy:(opd env y).core=.s (.int .i64 n')){r:Int}(hd:n - n'=r/\ -9223372036854775808<=r/\r<=9223372036854775807):Ef P (.binOp .sub t x y p) env m nx ⟨IntKind.i64=IntKind.i64,.s (.int .i64 r),[],[],0⟩:=by
 obtain⟨rfl,h⟩:=hd;exact Fh hx hy h
theorem kv{j i l:Nat}{e:TypeId}{r:Row}(hx:(opd env x).core=.rs j 0 l)(hy:(opd env y).core=.s (.int k (i:Int)))(hm:m j=some r)(he:elemP P t=e)(hs:P.cellsOf e=1):
 Ef P (.indexAddr t x y) env m nx ⟨slT P t=true/\i<l,.rp j i,[],[j],0⟩:=by
 have h:=Bv (P:=P) (env:=env) (m:=m) (nx:=nx) (t:=t) hx hy hm he hs;have h1:0+((i:Int)).toNat*1=i:=by simp
 have h2:(slT P t=true/\(0:Int)<=(i:Int)/\(i:Int)<l)=(slT P t=true/\i<l):=by
  apply propext;constructor
  .rintro⟨a,_,b⟩;exact⟨a,oG⟩
  .rintro⟨a,b⟩;exact⟨a,oG,oG⟩
 rw[h1,h2] at h;exact h
theorem lv{α:Type}(f:Nat->α)(i:Nat)(a b:α):up (up f i a) i b=up f i b:=by
 funext j;simp only[up];split<;>rfl
variable{Y:YSpec}{rf:Bool}{Q:Exit->St->Prop}{st:St}{id eM i1 i3:Nat}{rc ri:Array Oper}{body:Code}{α:Type}{cf:List (Nat×Nat)}{u:Nat}
theorem Wr[cR Y](hi:drawInfo rc=some cf)(S:α->St)(J:α->Prop)(μ:α->Nat)(C:α)(hg:Ghost P st (S C))(M:J C)
 (h:∀ x,J x->AOps P Y rc true cf (dV fun s=>∃ g,opd s.env (.tmp u)=.s (.bool g)/\(g=true->AW P Y rf body (jn eM id (fun s=>AOps P Y ri false [] (dV (pf P S J μ x)) ri.toList s []) Q) s)/\(g=false->Q .normal s)) rc.toList (S x) []):
 ∃ st',Ghost P st st'/\AW P Y rf (.block id (.loop (.seq (.seq (.region i1 rc true) (.cond (.tmp u) .skip (.exit id))) (.seq (.block eM body) (.region i3 ri false))))) Q st':=by
 refine vL (Q:=blockQ id Q) S J μ C hg M (fun x hx=>?_) (a:=.skip) fun _ h=>h;refine aB (wc (rf:=rf) (id:=i1) hi (AOps.iv (h x hx) fun s hs=>?_));obtain⟨g,h1,h2,h3⟩:=hs;refine⟨s,.refl s,c6 h1 (fun X=>?_) fun qT=>?_⟩
 .exact cu (Eo (h2 X))
 .refine jK ?_;simp only[seqQ,blockQ,if_true];exact h3 qT
theorem kq{l:List (Nat×D)}{m':Mem}(h:gU l env)(hm:m=m'):Ghost P ⟨env,m,nx⟩ ⟨aw l,m',nx⟩:=hm▸aq h
end
end Go.Abs
namespace Go.Proofs.Tryz.K
set_option maxRecDepth 10000
theorem qG{x:Argus.End}:PCall prog 156 [.agg (bm x)] (.fn (.func 202) [] [.pt (bm x)]):=by
 have C:∀ a∈[D.agg (bm x)],Tr a:=.cons (.agg (mF x)) .nil;refine bd MX C (.fn oS (.cons (.pt (mF x)) .nil)) ?_;rw[XC];refine ax ?_;refine SS ?_;refine au (ku (v:=.s .nilFunc) rfl) ak trivial ?_;refine aa (aR (cE [(0,bm x,69)] eH (l:=[(1,.pt (bm x))]) eH) (ai ?_));refine ab ?_;exact aa (az rfl rfl)
def Hd(l:Nat)(x:Argus.End)(C:Nat->Mem->Nat->Prop)(n:Nat)(s:St):Prop:=∃ m nx,Ghost prog s ⟨aw [(0,.fn (.yield l) [] []),(1,.pt (bm x))],m,nx⟩/\C n m nx
theorem OD{x:Argus.End}(hlen:x.aE.length<=100000):SeqA prog 202 [] [.pt (bm x)] ((bZ x).map fun n=>[I n]):=by
 refine EM mixed MY kr fun l X Stop m nx hI BF h0=>?_;rw[XD];by_cases C:aW [3,4] x.kind=true
 .have gZ:((bZ x).map fun n=>[I n]).length=0:=by simp[bZ,C]
  rw[gZ];by_cases h3:x.kind=3
  .have gL:(x.kind==3)=true:=by simpa using h3
   refine aB (ai ?_);refine aI ?_;(iterate 3 refine z fun _ _=>?_);refine ab ?_;(iterate 5 refine z fun _ _=>?_);refine SS ?_;refine aa (c6 rfl (fun h=>LJ (bq (bl (qe (.inl h0))))) fun h=>oH)
  .have h4:x.kind=4:=by simpa[aW,h3] using C
   have gL:(x.kind==3)=false:=by simpa using h3
   have uo:(x.kind==4)=true:=by simpa using h4
   refine aB (ai ?_);refine aN ?_;(iterate 5 refine z fun _ _=>?_);refine SS ?_;refine aa (c6 rfl (fun h=>LJ (bq (bl (qe (.inl h0))))) fun h=>oH)
 have C:aW [3,4] x.kind=false:=by simpa using C
 obtain⟨x0,x1,xw,xo,xl⟩:=Ug C;have M:∀ {k:Nat} {n:Int},(bZ x)[k]? =some n->((bZ x).map fun n=>[I n])[k]? =some [I n]:=fun h=>by simp[h]
 have sm:((bZ x).map fun n=>[I n]).length=mv x+x.aE.length+(if fj x then 1 else 0):=by simpa using xl
 have xt:x.kind≠3/\x.kind≠4:=by simpa[aW] using C
 refine eO (Hd l x X 1) ?_ fun s hs=>?_
 .have gL:(x.kind==3)=false:=by simpa using xt.1
  have uo:(x.kind==4)=false:=by simpa using xt.2
  refine ws ?_;refine aN ?_;refine av ?_;refine BM rfl rfl rfl rfl bF ⟨rfl,0,M x0,h0,fun d m' nx' hp=>?_⟩;rcases hp with⟨rfl,hp⟩|⟨rfl,hp⟩
  .refine ab ?_;exact aa (aD rfl (fun h=>oH) fun h=>bD ⟨m',nx',aq eH,hp⟩)
  .refine ab ?_;exact aa (aD rfl (fun h=>bq (bl (qe (.inr hp)))) fun h=>oH)
 obtain⟨m1,Qo,hg,h1⟩:=hs;refine⟨_,hg,?_⟩;clear hg h0;refine eO (Hd l x X (mv x)) ?_ fun s hs=>?_
 .have J:aW [2,8] x.kind=true->(bZ x)[1]? =some x.iz/\mv x=2:=fun h=>⟨x1 h,by simp[mv,h]⟩
  by_cases h2:x.kind=2
  .obtain⟨y1,y2⟩:=J (by rw[h2];rfl);have gL:(x.kind==2)=true:=by simpa using h2
   refine ws ?_;refine aI ?_;(iterate 3 refine z fun _ _=>?_);refine aQ ?_;refine BM rfl rfl rfl rfl bF ⟨rfl,1,M y1,h1,fun d m' nx' hp=>?_⟩;rcases hp with⟨rfl,hp⟩|⟨rfl,hp⟩
   .refine ab ?_;exact aa (aD rfl (fun h=>oH) fun h=>bD ⟨m',nx',aq eH,y2▸hp⟩)
   .refine ab ?_;exact aa (aD rfl (fun h=>bq (bl (qe (.inr hp)))) fun h=>oH)
  .have gL:(x.kind==2)=false:=by simpa using h2
   by_cases h8:x.kind=8
   .obtain⟨y1,y2⟩:=J (by rw[h8];rfl);have uo:(x.kind==8)=true:=by simpa using h8
    refine ws ?_;refine aN ?_;refine av ?_;refine BM rfl rfl rfl rfl bF ⟨rfl,1,M y1,h1,fun d m' nx' hp=>?_⟩;rcases hp with⟨rfl,hp⟩|⟨rfl,hp⟩
    .refine ab ?_;exact aa (aD rfl (fun h=>oH) fun h=>bD ⟨m',nx',aq eH,y2▸hp⟩)
    .refine ab ?_;exact aa (aD rfl (fun h=>bq (bl (qe (.inr hp)))) fun h=>oH)
   .have uo:(x.kind==8)=false:=by simpa using h8
    have hb:mv x=1:=by simp[mv,aW,h2,h8]
    refine ws ?_;refine aN ?_;(iterate 5 refine z fun _ _=>?_);refine SS ?_;exact aa (aD rfl (fun h=>oH) fun h=>bD ⟨m1,Qo,aq eH,hb▸h1⟩)
 obtain⟨m2,bx,hg,h2⟩:=hs;refine⟨_,hg,?_⟩;clear hg;refine eO (Hd l x X (mv x+x.aE.length)) (ax ?_) fun s hs=>?_
 .refine aI ?_
  refine aa (cG (α:=Nat×Mem×Nat) (fun k=>⟨aw [(0,.fn (.yield l) [] []),(1,.pt (bm x)),(36,mC x.aE),(37,I x.aE.length),(38,I k.1)],k.2.1,k.2.2⟩)
   (fun k=>k.1<=x.aE.length/\X (mv x+k.1) k.2.1 k.2.2) (fun k=>x.aE.length - k.1) (0,m2,bx) (aq eH) ⟨oG,h2⟩ ?_)
  rintro⟨k,m3,fk⟩ ⟨hk,mh⟩;refine SS ?_;refine aa ⟨_,rfl,fun h=>?_,fun h=>?_⟩
  .have af:k<x.aE.length:=by simpa using h
   have hx:x.aE[k]? =some x.aE[k]:=by simp[af]
   generalize x.aE[k]=w at hx;refine ws ?_;refine aI ?_;refine er ?_;refine ab ?_;refine OE ?_;refine F4 rfl rfl bF ⟨rfl,mv x+k,M (xw k w hx),hI _ _ _ _ _ mh oG (fun i hi=>al oG (al oG rfl)),fun d m' nx' hp=>?_⟩;rcases hp with⟨rfl,hp⟩|⟨rfl,hp⟩
   .refine SS ?_;refine aa (aD rfl (fun h=>oH) fun h=>cI ?_);refine ab ?_;exact aa (aJ (k+1,m',nx') (aq eH) ⟨by simp only;omega,hp⟩ (by simp only;omega))
   .refine SS ?_;exact aa (aD rfl (fun h=>bq (cz (bl (qe (.inr hp))))) fun h=>oH)
  .have ba:¬ k<x.aE.length:=by simpa using h
   have:k=x.aE.length:=by simp only at hk;omega
   subst this;exact⟨m3,fk,.forget _ _ _ _ fun t=>kY (l:=[(0,.fn (.yield l) [] []),(1,.pt (bm x))]) ⟨rfl,rfl,trivial⟩ t,mh⟩
 obtain⟨m3,fk,hg,h3⟩:=hs;refine⟨_,hg,ai ?_⟩;refine aN ?_;refine aN ?_;refine aa (aD rfl (fun h=>?_) fun h=>?_)
 .have hc:fj x=true:=by
   revert h;unfold fj aW;simp[ib,or_assoc]
  refine kB ?_;refine av ?_;refine F4 rfl rfl bF ⟨rfl,_,M (xo hc),h3,fun d m' nx' hp=>?_⟩;refine aa (lQ ?_);rcases hp with⟨rfl,hp⟩|⟨rfl,hp⟩
  .left;rw[sm,if_pos hc];exact hp
  .exact .inr hp
 .have hc:fj x=false:=by
   revert h;unfold fj aW;simp[ib,and_assoc]
  refine cI (lQ (.inl ?_));rw[sm,hc];exact h3
theorem Gc{x:Argus.End}{b:Int}(hlen:x.aE.length<=1000):PCall prog 246 [.agg (bm x),I b] (B (ER x b)):=by
 have J:∀ a∈[D.agg (bm x),I b],Tr a:=.cons (.agg (mF x)) (.cons (.s _) .nil);have qG:=qG (x:=x);have hl:=Et x;refine bd Na J (Tr.s _) ?_;rw[XJ];refine ax ?_;refine av ?_;refine aa (aR (cE [(0,bm x,69),(1,[I b],3)] eH (l:=[(2,.pt (bm x)),(3,.pt [I b])]) eH) (ai ?_));refine SS ?_;refine OL ?_;refine aa ?_;refine eO (fun s=>∃ n',Ghost prog s ⟨aw [(2,.pt (bm x)),(3,.pt [I b]),(5,.rp 2 0)],bi [(2,.cells [I ((bZ x).count b:Nat)] 3)],n'⟩) (ai ?_) fun s hs=>?_
 .refine SS ?_;refine cl qG ?_;refine aa (lM ?_);refine⟨rfl,trivial,202,[],[.pt (bm x)],(bZ x).map (fun n=>[I n]),fun k m nx=>m 2=some (.cells [I (((bZ x).take k).count b:Nat)] 3)/\3<=nx,rfl,OD oG,?_,⟨rfl,oS⟩,?_,?_⟩
  .intro y hy;obtain⟨n,_,rfl⟩:=List.mem_map.1 hy;exact⟨rfl,.cons (.s _) .nil⟩
  .rintro k m nx y hy ⟨aj,M⟩;simp only[List.getElem?_map,bY] at hy;obtain⟨n,hn,rfl⟩:=hy;have hk:k<(bZ x).length:=(bj.1 hn).1
   have hc:((bZ x).take (k+1)).count b=((bZ x).take k).count b+(if n=b then 1 else 0):=by
    rw[List.take_add_one,hn,List.count_append];by_cases e:n=b
    .subst e;simp
    .simp[e]
   have C:((bZ x).take k).count b<=k:=Nat.le_trans List.count_le_length oP;generalize ((bZ x).take k).count b=c at aj hc C;refine kB ?_;refine SS ?_;refine aa (show AW _ _ _ _ _ _ from lM (ai ?_));refine av ?_;refine aa (aD rfl (fun h=>?_) fun h=>?_)
   .have h:n=b:=by simpa using h
    refine kB ?_;refine ab ?_;refine bB (dC (d:=.s (.int _ _)) (cs':=[_]) rfl rfl aj rfl rfl) ak (cF V.h V.h (by first|(simp;done)|exact⟨rfl,aP rfl⟩|(simp;omega)) rfl) ?_;refine aa ?_;refine⟨?_,oM⟩;dsimp only;refine(up_same _ _ _).trans ?_;rw[hc,if_pos h];simp
   .have h:¬ n=b:=by simpa using h
    exact cI ⟨by rw[hc,if_neg h];exact aj,M⟩
  .rintro m nx ⟨h1,h2⟩;refine⟨nx,bg eH ⟨?_,trivial⟩⟩;rw[h1,List.length_map,List.take_length]
 obtain⟨n',hg⟩:=hs;refine⟨_,hg,ai ?_⟩;refine aN ?_;refine aa (az (d:=.s (.bool _)) rfl ?_);simp[ER,cr,ib]
theorem Gd{f:FuncId}{cs:List D}{xs:List Int}(hs:SeqA prog f [] cs (xs.map fun n=>[I n]))(ht:Tr (.fn (.func f) [] cs))(hlen:xs.length<=100000):OCall prog 258 [.z,.fn (.func f) [] cs] (xs.map I) xs.length 3:=by
 have aH:∀ a∈[D.z,.fn (.func f) [] cs],Tr a:=.cons .z (.cons ht .nil);refine uW Nb aH (.map fun _=>.s _) ?_;rw[XK];refine ws ?_;refine fa (Bu (d:=.z) rfl rfl) ak rfl ?_;refine SS ?_;refine aa ?_;refine eO (fun s=>(xs=[]/\∃ n',Ghost prog s ⟨aw [(2,.rp 0 0)],bi [(0,.cells [.z] 27)],n'⟩)\/∃ r n',0<r/\Ghost prog s ⟨aw [(2,.rp 0 0)],bi [(0,.cells [.rs r 0 xs.length] 27),(r,.cells (xs.map I) 3)],n'⟩) (ai ?_) fun s hs=>?_
 .refine SS ?_;refine aa (lM ?_);refine⟨rfl,trivial,f,[],cs,xs.map (fun n=>[I n]),fun k m nx=>1<=nx/\((k=0/\m 0=some (.cells [.z] 27))\/(0<k/\∃ r,0<r/\r<nx/\m 0=some (.cells [.rs r 0 k] 27)/\m r=some (.cells ((xs.take k).map I) 3))),rfl,hs,?_,⟨oS,.inl ⟨rfl,rfl⟩⟩,?_,?_⟩
  .intro y hy;obtain⟨n,_,rfl⟩:=List.mem_map.1 hy;exact⟨rfl,.cons (.s _) .nil⟩
  .rintro k m nx y hy ⟨dx,C⟩;simp only[List.getElem?_map,bY] at hy;obtain⟨n,hn,rfl⟩:=hy;have hk:k<xs.length:=(bj.1 hn).1
   have X:(xs.take (k+1)).map I=(xs.take k).map I++[I n]:=by
    rw[List.take_add_one,hn];simp
   refine kB ?_;refine SS ?_;refine aa (show AW _ _ _ _ _ _ from lM (kB ?_));rcases C with⟨rfl,aj⟩|⟨fT,r,M,J,aj,bX⟩
   .refine aQ ?_;refine aa ?_;refine⟨oM,.inr ⟨oG,nx+1,oG,oM,?_,?_⟩⟩
    .dsimp only;exact(up_same _ _ _).trans rfl
    .dsimp only;exact(al oG (up_same _ _ _)).trans (by rw[X];rfl)
   .have rk:((xs.take k).map I).length=k:=by simp;omega
    refine aI ?_;refine OM ?_;refine aa ?_;refine⟨oM,.inr ⟨oG,nx+1,oG,oM,?_,?_⟩⟩
    .dsimp only;exact(up_same _ _ _).trans rfl
    .dsimp only;exact(al oG (up_same _ _ _)).trans (by rw[X];rfl)
  .rintro m nx ⟨dx,C⟩;rw[List.length_map] at C;rcases C with⟨h0,aj⟩|⟨fT,r,M,J,aj,bX⟩
   .exact .inl ⟨List.length_eq_zero_iff.1 h0,nx,bg eH ⟨aj,trivial⟩⟩
   .refine .inr ⟨r,nx,M,bg eH ⟨aj,?_,trivial⟩⟩;rw[bX,List.take_length]
 rcases hs with⟨rfl,n',hg⟩|⟨r,n',hr,hg⟩
 .refine⟨_,hg,ax ?_⟩;refine ab ?_;refine aa ⟨_,.nilrow _ _ _ 4 3 rfl,az rfl ⟨n',?_,up_same _ _ _⟩⟩;rfl
 .refine⟨_,hg,ai ?_⟩;refine ab ?_;refine aa (az rfl ⟨r,rfl,?_⟩);simp[bi];omega
theorem Ge{f:FuncId}{cs:List D}{xs:List Int}(hs:SeqA prog f [] cs (xs.map fun n=>[I n]))(ht:Tr (.fn (.func f) [] cs))(hlen:xs.length<=100000):OCall prog 247 [.fn (.func f) [] cs] (xs.map I) xs.length 3:=by
 have C:∀ a∈[.fn (.func f) [] cs],Tr a:=.cons ht .nil;refine uW Nc C (.map fun _=>.s _) ?_;rw[XL];have Gd:=Gd hs ht hlen;refine ws ?_;refine SS ?_;refine er ?_;refine SS ?_;refine ww Gd rfl bF ?_;refine SS ?_;exact aa (az rfl ⟨0,rfl,rfl⟩)
end Go.Proofs.Tryz.K
namespace Go.Argus
def swapAt(l:List Int)(j:Nat):List Int:=(l.set (j+1) (l.getD j 0)).set j (l.getD (j+1) 0)
def lz(l:List Int):Nat->List Int
 |0=>l
 |j+1=>if l.getD (j+1) 0<l.getD j 0 then lz (swapAt l j) j else l
def jY(l:List Int):Nat->List Int
 |0=>l
 |k+1=>lz (jY l k) (k+1)
def dO(l:List Int):List Int:=jY l (l.length - 1)
@[simp] theorem aeC (l : List Int) (j : Nat) : (swapAt l j).length = l.length := by simp [swapAt]
@[simp] theorem Ut : ∀ (j : Nat) (l : List Int), (lz l j).length = l.length
 |0,l=>rfl
 |j+1,l=>by simp only[lz];split<;>simp[Ut j]
@[simp] theorem Ja (l : List Int) : ∀ k, (jY l k).length = l.length
 |0=>rfl
 |k+1=>by simp[jY,Ja l k]
@[simp] theorem DF (l : List Int) : (dO l).length = l.length := Ja l _
def dH(d:List Int):Nat->List Int
 |0=>[]
 |t+1=>dH d t++(if t≠0/\d.getD t 0=d.getD (t - 1) 0 then [] else [d.getD t 0])
def io(d:List Int):List Int:=dH d d.length
theorem Kz{d:List Int}{x:Int}:∀ {t:Nat},t<=d.length->(x∈dH d t↔x∈d.take t)
 |0,_=>by simp[dH]
 |t+1,ht=>by
  have ih:=Kz (d:=d) (x:=x) (t:=t) oG;have hg:d.getD t 0=d[t]:=by simp[aV,aK (show t<d.length by omega)]
  rw[dH,List.mem_append,ih,List.take_succ_eq_append_getElem oG,List.mem_append];split
  .rename_i h;have h1:d[t - 1]? =some d[t - 1]:=aK oG
   have C:d[t]∈d.take t:=by
    rw[<- hg,h.2];have:d.getD (t - 1) 0=d[t - 1]:=by simp[aV,h1]
    rw[this];exact bJ (i:=t - 1) (by rw[List.getElem?_take,if_pos oG,h1])
   constructor
   .rintro(h|h)
    .exact .inl h
    .simp at h
   .rintro(h|h)
    .exact .inl h
    .simp at h;subst h;exact .inl C
  .rw[hg]
theorem Ex{d:List Int}:∀ t,(dH d t).length<=t
 |0=>by simp[dH]
 |t+1=>by
  have:=Ex (d:=d) t;rw[dH,List.length_append];split<;>simp<;>omega
theorem LW{d:List Int}{t:Nat}(ht:t<d.length)(h0:t≠0)(h:d.getD t 0=d.getD (t - 1) 0):dH d (t+1)=dH d t:=by
 rw[dH,if_pos ⟨h0,h⟩,List.append_nil]
theorem LX{d:List Int}{t:Nat}(h:d.getD t 0≠d.getD (t - 1) 0):dH d (t+1)=dH d t++[d.getD t 0]:=by
 rw[dH,if_neg fun C=>h C.2]
end Go.Argus
namespace Go.Proofs.Tryz.K
set_option maxRecDepth 10000
theorem aaT{a:Int}:PCall prog 227 [I a] (B false):=by
 refine bd Ni (by simp[Tr.s]) (Tr.s _) ?_;rw[XQ];refine ws ?_;refine SS ?_;refine er ?_;refine aI ?_;refine aa (az (d:=.s (.bool _)) rfl ?_);simp[bne]
theorem aaU{a b:Int}:PCall prog 184 [I a,I b] (B (decide (a<b))):=by
 refine bd Nj (by simp[Tr.s]) (Tr.s _) ?_;rw[XR];refine ws ?_;refine SS ?_;refine er ?_;refine SS ?_;refine cl aaT ?_;refine SS ?_;(iterate 3 refine z fun _ _=>?_);refine eW ?_;exact aa (az (d:=.s (.bool _)) rfl rfl)
theorem aaV{m:Mem}{nx i n:Nat}{l:List Int}(hi:i<nx)(hm:m i=some (.cells (l.map I) 3))(hl:l.length=n)(hn:n<=12):
 ACalls prog 178 [.rs i 0 n,I 0,I n] m nx (fun r m' nx'=>r=.tup []/\nx'=nx/\m'=up m i (some (.cells ((dO l).map I) 3))):=by
 refine tl Nk ?_;rw[XS]
 have nq:up m i (some (.cells (l.map I) 3))=m:=by
  funext j;simp only[up];split
  .rename_i e;rw[e,hm]
  .rfl
 refine ax ?_;refine av ?_;refine aa (lk (α:=Nat) (fun k=>⟨aw [(0,.rs i 0 n),(1,I 0),(2,I n),(6,I (k+1:Nat))],up m i (some (.cells ((jY l k).map I) 3)),nx⟩) (fun k=>k<=n - 1) (fun k=>n - k) 0 (kq eH nq.symm) oG ?_);intro k hk;refine av ?_;refine aa ⟨_,rfl,fun h=>?_,fun h=>?_⟩
 .have af:k+1<n:=by have:((k+1:Nat):Int)<n:=by simpa using h
                    omega
  refine ax ?_;refine ab ?_;refine aa (Wr Tn (α:=List Int×Nat) (fun s=>⟨aw [(0,.rs i 0 n),(1,I 0),(2,I n),(6,I (k+1:Nat)),(7,I s.2)],up m i (some (.cells (s.1.map I) 3)),nx⟩) (fun s=>s.1.length=n/\s.2<=k+1/\lz s.1 s.2=jY l (k+1)) (fun s=>s.2) (jY l k,k+1) (aq eH) ⟨by simp[hl],oS,rfl⟩ ?_);rintro⟨d,j⟩ ⟨hd,hj,hs⟩;simp only at hd hj hs;cases j with
  |zero=>
   have ei:decide ((0:Int)<((0:Nat):Int))=false:=rfl;refine aI ?_;(iterate 10 refine z fun _ _=>?_);refine SS ?_;refine bE bP ⟨_,rfl,fun h=>oH,fun h=>?_⟩;have hs:d=jY l (k+1):=hs;subst hs;show AOps _ _ _ _ _ _ _ _ _;refine av ?_;exact aa (aJ (k+1) (aq eH) oG oG)
  |succ j=>
   have ha:d[j+1]? =some d[j+1]:=aK oG;have hb:d[j]? =some d[j]:=aK oG;have C:d.getD (j+1) 0=d[j+1]:=by simp[aV,ha]
   have J:d.getD j 0=d[j]:=by simp[aV,hb]
   have kd:=fM (f:=I) ha;have gB:=fM (f:=I) hb;generalize M:d[j+1]=a at ha C kd;generalize X:d[j]=b at hb J gB;clear M X;have ei:decide ((0:Int)<((j+1:Nat):Int))=true:=by simp
   have oc:((j+1:Nat):Int) - 1=(j:Int)/\ -9223372036854775808<=(j:Int)/\(j:Int)<=9223372036854775807:=by omega
   refine bC ?_;refine aT rfl rfl (kv rfl rfl (up_same _ _ _) V.h V.h) (fun hc=>⟨ak,⟨V.h,oG⟩⟩) ?_;refine aT rfl rfl (eD rfl (up_same _ _ _) kd V.h) (fun hc=>⟨ak,(eE V.h V.h kd)⟩) ?_;refine av ?_;refine aT rfl rfl (kv rfl rfl (up_same _ _ _) V.h V.h) (fun hc=>⟨ak,⟨V.h,oG⟩⟩) ?_;refine aT rfl rfl (eD rfl (up_same _ _ _) gB V.h) (fun hc=>⟨ak,(eE V.h V.h gB)⟩) ?_;refine gc aaU ?_;refine SS ?_;refine bE bP ⟨_,rfl,fun h=>?_,fun h=>?_⟩
   .have h:a<b:=by simpa using h
    refine p8 To ?_;refine aN ?_;refine au (eD rfl (up_same _ _ _) gB V.h) ak (eE V.h V.h gB) ?_;refine cy ?_;refine bE bP ?_;refine av ?_;refine aa (aJ (swapAt d j,j) (kq eH ?_) ⟨by simp[hd],by simp only;omega,?_⟩ (by simp only;omega))
    .rw[lv,lv];simp only[swapAt,C,J,List.map_set]
    .rw[<- hs];simp only[lz,C,J,if_pos h]
   .have h:¬ a<b:=by simpa using h
    have hs:d=jY l (k+1):=by rw[<- hs];simp only[lz,C,J,if_neg h]
    subst hs;show AOps _ _ _ _ _ _ _ _ _;refine av ?_;exact aa (aJ (k+1) (aq eH) oG oG)
 .have ba:¬ k+1<n:=by have h:¬ ((k+1:Nat):Int)<n:=by simpa using h
                      omega
  refine lQ ⟨rfl,rfl,?_⟩;have:k=n - 1:=by omega
  subst this;simp only[dO,hl]
theorem aaW{m:Mem}{nx i n:Nat}{l:List Int}{oD:Int}(hi:i<nx)(hm:m i=some (.cells (l.map I) 3))(hl:l.length=n)(hn:n<=12):
 ACalls prog 151 [.rs i 0 n,I 0,I n,I oD] m nx (fun r m' nx'=>r=.tup []/\nx'=nx/\m'=up m i (some (.cells ((dO l).map I) 3))):=by
 refine tl Nl ?_;rw[XT];refine ws ?_;refine SS ?_;refine aa (ax ?_);refine SS ?_;refine aa ⟨_,aq (l:=[(0,.rs i 0 n),(1,I 0),(2,I n)]) eH,lM (Ks (fun s=>s=⟨aw [(0,.rs i 0 n),(1,I 0),(2,I n)],m,nx⟩) (fun _=>0) rfl fun s hs=>?_)⟩;subst hs;refine lM (ai ?_);refine aI ?_;refine aa (aB (ai ?_));refine SS ?_;refine O8 ?_;refine aa (c6 rfl (fun h=>?_) fun h=>?_)
 .refine aB (ai ?_);refine av ?_;refine gW (aaV hi hm hl hn) rfl bF fun r m' nx' hp=>?_;obtain⟨rfl,rfl,rfl⟩:=hp;exact aa (c8 (eF (bl (eF (qe ⟨rfl,rfl,rfl⟩)))))
 .have:¬ ((n:Int) - 0<=12):=by simpa using h
  omega
theorem Gj{n:Nat}(hn:n<=12):∃ r,PCall prog 152 [.s (.int .u64 (IntKind.u64.wrap (n:Int)))] (I r):=by
 match n,hn with
 |0,_=>exact⟨0,iF jO 100 rfl kr⟩
 |1,_=>exact⟨1,iF jO 100 rfl kr⟩
 |2,_=>exact⟨2,iF jO 100 rfl kr⟩
 |3,_=>exact⟨2,iF jO 100 rfl kr⟩
 |4,_=>exact⟨3,iF jO 100 rfl kr⟩
 |5,_=>exact⟨3,iF jO 100 rfl kr⟩
 |6,_=>exact⟨3,iF jO 100 rfl kr⟩
 |7,_=>exact⟨3,iF jO 100 rfl kr⟩
 |8,_=>exact⟨4,iF jO 100 rfl kr⟩
 |9,_=>exact⟨4,iF jO 100 rfl kr⟩
 |10,_=>exact⟨4,iF jO 100 rfl kr⟩
 |11,_=>exact⟨4,iF jO 100 rfl kr⟩
 |12,_=>exact⟨4,iF jO 100 rfl kr⟩
theorem rA{m:Mem}{nx i n:Nat}{l:List Int}(hi:i<nx)(hm:m i=some (.cells (l.map I) 3))(hl:l.length=n)(hn:n<=12):
 ACalls prog 89 [.rs i 0 n] m nx (fun r m' nx'=>r=.tup []/\nx'=nx/\m'=up m i (some (.cells ((dO l).map I) 3))):=by
 refine tl O9 ?_;rw[aaX];obtain⟨oD,Gj⟩:=Gj hn;have aj:=hm;refine ws ?_;refine av ?_;refine aa (kB ?_);refine av ?_;refine au (V9 rfl V.h) ak V.h ?_;refine cl Gj ?_;refine gW (aaW hi hm hl hn) rfl bF fun r m' nx' hp=>?_;obtain⟨rfl,rfl,rfl⟩:=hp;exact aa (lQ ⟨rfl,rfl,rfl⟩)
end Go.Proofs.Tryz.K
namespace Go.Abs
section
variable{P:Program}{env:Env}{m:Mem}{nx:Nat}{x y:Operand}{t p:TypeId}{k:IntKind}{n n':Int}
theorem Vm{j i l off:Nat}{e:TypeId}{r:Row}(hx:(opd env x).core=.rs j off l)(hy:(opd env y).core=.s (.int k (i:Int)))(hm:m j=some r)(he:elemP P t=e)(hs:P.cellsOf e=1):
 Ef P (.indexAddr t x y) env m nx ⟨slT P t=true/\i<l,.rp j (off+i),[],[j],0⟩:=by
 have h:=Bv (P:=P) (env:=env) (m:=m) (nx:=nx) (t:=t) hx hy hm he hs;have h1:off+((i:Int)).toNat*1=off+i:=by simp
 have h2:(slT P t=true/\(0:Int)<=(i:Int)/\(i:Int)<l)=(slT P t=true/\i<l):=by
  apply propext;constructor
  .rintro⟨a,_,b⟩;exact⟨a,oG⟩
  .rintro⟨a,b⟩;exact⟨a,oG,oG⟩
 rw[h1,h2] at h;exact h
theorem Jb{i l a:Nat}{cs:List D}{e:TypeId}(hx:(opd env x).core=.rs i 0 l)(hm:m i=some (.cells cs e))(he:elemP P t=e)(hs:P.cellsOf e=1)(ha:(opd env y).core=.s (.int .i64 (a:Int))):
 Ef P (.slice t x (some y) none none) env m nx ⟨slT P t=true/\a<=l,.rs i a (l - a),[],[i],0⟩:=by
 have h:=DV (P:=P) (env:=env) (m:=m) (nx:=nx) (t:=t) (lo:=some y) (hi:=none) (a:=(a:Int)) (b:=(l:Int)) hx hm he hs (by simp[bndD,ha,D.int?]) (by simp[bndD]);have h1:0+((a:Int)).toNat*1=a:=by simp
 have h3:((l:Int) - (a:Int)).toNat=l - a:=by omega
 have h2:((slT P t=true/\1=1)/\(0:Int)<=(a:Int)/\(a:Int)<=(l:Int)/\(l:Int)<=(l:Int))=(slT P t=true/\a<=l):=by
  apply propext;constructor
  .rintro⟨⟨a,_⟩,_,b,_⟩;exact⟨a,oG⟩
  .rintro⟨a,b⟩;exact⟨⟨a,rfl⟩,oG,oG,oG⟩
 rw[h1,h2,h3] at h;exact h
theorem Tp{i l b:Nat}{cs:List D}{e:TypeId}(hx:(opd env x).core=.rs i 0 l)(hm:m i=some (.cells cs e))(he:elemP P t=e)(hs:P.cellsOf e=1)(hb:(opd env y).core=.s (.int .i64 (b:Int))):
 Ef P (.slice t x none (some y) none) env m nx ⟨slT P t=true/\b<=l,.rs i 0 b,[],[i],0⟩:=by
 have h:=DV (P:=P) (env:=env) (m:=m) (nx:=nx) (t:=t) (lo:=none) (hi:=some y) (a:=0) (b:=(b:Int)) hx hm he hs (by simp[bndD]) (by simp[bndD,hb,D.int?]);have h1:0+((0:Int)).toNat*1=0:=by simp
 have h3:((b:Int) - 0).toNat=b:=by omega
 have h2:((slT P t=true/\1=1)/\(0:Int)<=0/\(0:Int)<=(b:Int)/\(b:Int)<=(l:Int))=(slT P t=true/\b<=l):=by
  apply propext;constructor
  .rintro⟨⟨a,_⟩,_,_,b⟩;exact⟨a,oG⟩
  .rintro⟨a,b⟩;exact⟨⟨a,rfl⟩,oG,oG,oG⟩
 rw[h1,h2,h3] at h;exact h
theorem VB{i off l:Nat}{cs z:List D}{e:TypeId}(hx:(opd env x).core=.rs i off l)(hm:m i=some (.cells cs e))(he:elemP P t=e)(C:zeroP P e=z):
 Ef P (.call { callee:=.builtin .clear,args:= #[x],argTypes:= #[t] }) env m nx ⟨slT P t=true/\off+l*P.cellsOf e<=cs.length/\e=e,.tup [],[(i,some (.cells (splice cs off (replD l z)) e))],[i],0⟩:=by
 refine sg («aS»:=[.rs i off l]) rfl (by simp[hx]) ?_;simp only[builtinD,hm,C,Array.getD_eq_getD_getElem?,List.getElem?_toArray,List.getElem?_cons_zero,Option.getD_some,he]
theorem SA{cs:List D}{n k:Nat}{x:D}(hn:cs.length=n)(hk:k<=n):splice cs k (replD (n - k) [x])=cs.take k++List.replicate (n - k) x:=by
 have hr:replD (n - k) [x]=List.replicate (n - k) x:=by
  unfold replD;generalize n - k=j
  induction j with
  |zero=>rfl
  |succ j ih=>simp[List.replicate_succ,ih]
 rw[hr];unfold splice;split
 .rename_i y e;have h1:n - k=1:=by have:=congrArg List.length e;simpa using this
  rw[h1] at e ⊢;simp at e;subst e;rw[List.set_eq_take_append_cons_drop,if_pos oG,List.drop_eq_nil_of_le oG];rfl
 .rw[List.length_replicate,List.drop_eq_nil_of_le oG,List.append_nil]
end
end Go.Abs
namespace Go.Proofs.Tryz.K
set_option maxRecDepth 10000
def qv(d:List Int)(n:Nat):List D:=(io d).map I++List.replicate (n - (io d).length) (I 0)
def KA(d:List Int)(n:Nat)(m:Mem)(nx i:Nat)(r:D)(m':Mem)(nx':Nat):Prop:=nx'=nx/\r=.rs i 0 (io d).length/\m'=up m i (some (.cells (qv d n) 3))
def Ws(d:List Int)(m:Mem)(nx i:Nat)(r:D)(m':Mem)(nx':Nat):Prop:=nx'=nx/\r=.rs i 0 (io d).length/\∃ c,m'=up m i (some (.cells c 3))/\c.take (io d).length=(io d).map I
theorem zz{m:Mem}{nx i n:Nat}{d:List Int}(hi:i<nx)(hm:m i=some (.cells (d.map I) 3))(hl:d.length=n)(hn:n<=100000):ACalls prog 90 [.rs i 0 n] m nx (KA d n m nx i):=by
 refine tl wU ?_;rw[aaY];have aj:=hm
 have nq:up m i (some (.cells (d.map I) 3))=m:=by
  funext j;simp only[up];split
  .rename_i e;rw[e,hm]
  .rfl
 have whole:dH d n=d->KA d n m nx i (.rs i 0 n) m nx:=fun h=>by
  have h:io d=d:=by unfold io;rw[hl];exact h
  refine⟨rfl,by rw[h,hl],?_⟩;rw[qv,h,hl,Nat.sub_self,List.replicate_zero,List.append_nil,nq]
 refine ws ?_;refine SS ?_;refine aa (aB (ai ?_));refine av ?_;refine aa (c6 rfl (fun h=>?_) fun h=>cu (aB (ax ?_)))
 .have h:n<2:=by have h:(n:Int)<2:=by simpa using h
                 omega
  refine aB (ai ?_);refine ab ?_;refine aa (c8 (az rfl (whole ?_)))
  match d,n,hl,h with
  |[],_,rfl,_=>rfl
  |[a],_,rfl,_=>rfl
 have h2:2<=n:=by have h:¬ (n:Int)<2:=by simpa using h
                  omega
 refine SS ?_;refine aa (cN (fun s=>Ghost prog s ⟨aw [(0,.rs i 0 n)],m,nx⟩/\dH d n=d) (lk (α:=Nat) (fun k=>⟨aw [(0,.rs i 0 n),(3,I k)],m,nx⟩) (fun k=>1<=k/\k<=n/\dH d k=d.take k) (fun k=>n - k) 1 (aq eH) ⟨oG,oG,?_⟩ ?_) ?_)
 .match d,hl with
  |a::t,_=>rfl
  |[],hl=>simp at hl;omega
 .rintro k ⟨zX,hk,J⟩;refine aI ?_;refine aa ⟨_,rfl,fun h=>?_,fun h=>?_⟩
  .have af:k<n:=by have h:(k:Int)<n:=by simpa using h
                   omega
   obtain⟨j,rfl⟩:∃ j,k=j+1:=⟨k - 1,oG⟩
   have ha:d[j+1]? =some d[j+1]:=aK oG;have hb:d[j]? =some d[j]:=aK oG;have ga:d.getD (j+1) 0=d[j+1]:=by simp[aV,ha]
   have gb:d.getD j 0=d[j]:=by simp[aV,hb]
   have kd:=fM (f:=I) ha;have gB:=fM (f:=I) hb;have oc:((j+1:Nat):Int) - 1=(j:Int)/\ -9223372036854775808<=(j:Int)/\(j:Int)<=9223372036854775807:=by omega
   refine fK Uu ?_;refine cy ?_;refine au (eD rfl aj gB V.h) ak (eE V.h V.h gB) ?_;refine SS ?_;refine bE bP (aD rfl (fun h=>?_) fun h=>?_)
   .have xq:d[j+1]=d[j]:=by simpa using h
    refine ws ?_;refine ab ?_;refine au (Jb rfl aj V.h V.h rfl) ak ⟨V.h,oG⟩ ?_;refine SS ?_;refine aa (aB (ax ?_));refine SS ?_;have aaZ:dH d (j+1+1)=dH d (j+1):=LW oG oG (by rw[ga,show j+1 - 1=j by omega,gb];exact xq);have fT:(dH d (j+1)).length=j+1:=by rw[J];simp;omega
    clear kd gB oc
    refine aa (cN (fun s=>∃ (c:List Int) (k:Nat),Ghost prog s ⟨aw [(0,.rs i 0 n),(3,I (k:Nat))],up m i (some (.cells (c.map I) 3)),nx⟩/\c.length=n/\k<=n/\c.take k=dH d n) (lk (α:=List Int×Nat×Nat) (fun s=>⟨aw [(0,.rs i 0 n),(3,I s.2.1),(4,.rs i (j+1) (n - (j+1))),(5,I (s.2.2+1:Nat))],up m i (some (.cells (s.1.map I) 3)),nx⟩)
     (fun s=>s.1.length=n/\j+1+(s.2.2+1)<=n/\s.2.1<=j+1+s.2.2/\s.1.take s.2.1=dH d (j+1+(s.2.2+1))/\∀ p,j+1+s.2.2<=p->s.1[p]? =d[p]?) (fun s=>n - s.2.2) (d,j+1,0) (kq eH nq.symm) ⟨hl,by simp only;omega,by simp only;omega,?_,fun _ _=>rfl⟩ ?_) ?_)
    .show d.take (j+1)=dH d (j+1+1);rw[aaZ,J]
    .rintro⟨c,k,q⟩ ⟨C,X,w3,w4,M⟩;simp only at C X w3 w4 M;dsimp only;refine ab ?_;refine au (Bw rfl (up_same _ _ _)) ak V.h ?_;refine SS ?_;refine aa ⟨_,rfl,fun h=>?_,fun h=>?_⟩
     .have af:q+1<n - (j+1):=by have h:((q+1:Nat):Int)<((n - (j+1):Nat):Int):=by simpa using h
                                omega
      have xa:c[j+1+(q+1)]? =some c[j+1+(q+1)]:=aK oG;have xb:c[j+1+q]? =some c[j+1+q]:=aK oG;have ya:d.getD (j+1+(q+1)) 0=c[j+1+(q+1)]:=by rw[aV, <- M _ oG,xa];rfl
      have yb:d.getD (j+1+q) 0=c[j+1+q]:=by rw[aV, <- M _ oG,xb];rfl
      have kd:=fM (f:=I) xa;have gB:=fM (f:=I) xb;generalize hA:c[j+1+(q+1)]=a at xa ya kd;generalize hB:c[j+1+q]=b at xb yb gB;clear hA hB;have oc:((q+1:Nat):Int) - 1=(q:Int)/\ -9223372036854775808<=(q:Int)/\(q:Int)<=9223372036854775807:=by omega
      refine fK Tq ?_;refine cy ?_;refine au (eD rfl (up_same _ _ _) gB V.h) ak (eE V.h V.h gB) ?_;refine SS ?_;refine bE bP (aD rfl (fun h=>?_) fun h=>?_)
      .have ap:a≠b:=by simpa using h
       have hn:=LX (d:=d) (t:=j+1+(q+1)) (by rw[ya,show j+1+(q+1) - 1=j+1+q by omega,yb];exact ap);refine ws ?_;refine cy ?_;refine aa (fY ?_);refine av ?_;refine aa ?_;refine av ?_;refine aa (aJ (c.set k a,k+1,q+1) (kq eH ?_) ⟨by simp[C],by simp only;omega,by simp only;omega,?_,fun p hp=>?_⟩ (by simp only;omega))
       .rw[lv,List.map_set]
       .show(c.set k a).take (k+1)=dH d (j+1+(q+1)+1);rw[hn,ya, <- w4,List.take_succ_eq_append_getElem oP];simp;exact List.take_set_of_le (aU k)
       .simp only at hp;show(c.set k a)[p]? =_;rw[List.getElem?_set_ne oG];exact M p oG
      .have aa0:a=b:=by simpa using h
       have hn:=LW (d:=d) (t:=j+1+(q+1)) oG oG (by rw[ya,show j+1+(q+1) - 1=j+1+q by omega,yb];exact aa0);refine cI ?_;refine av ?_;refine aa (aJ (c,k,q+1) (aq eH) ⟨C,by simp only;omega,by simp only;omega,?_,fun p hp=>M p (by simp only at hp;omega)⟩ (by simp only;omega));show c.take k=dH d (j+1+(q+1)+1);rw[hn,w4]
     .have ba:¬ q+1<n - (j+1):=by have h:¬ ((q+1:Nat):Int)<((n - (j+1):Nat):Int):=by simpa using h
                                  omega
      refine⟨c,k,.forget _ _ _ _ fun t=>kY (l:=[(0,.rs i 0 n),(3,I k)]) ⟨rfl,rfl,trivial⟩ t,C,oG,?_⟩;rw[w4];exact congrArg (dH d) oG
    .rintro s ⟨c,k,hg,C,ck,X⟩;refine⟨_,hg,ai ?_⟩;refine ab ?_;refine au (Jb rfl (up_same _ _ _) V.h V.h rfl) ak ⟨V.h,oG⟩ ?_;refine bB (VB rfl (up_same _ _ _) V.h V.h) ak ⟨V.h,(by rw[c3];first|(simp;done)|(simp;omega)|omega),rfl⟩ ?_;refine er ?_;refine ab ?_;refine au (Tp rfl (up_same _ _ _) V.h V.h rfl) ak ⟨V.h,oG⟩ ?_;refine SS ?_;have cD:(io d).length=k:=by unfold io;rw[hl, <- X];simp;omega
     refine aa (bq (cz (bl (az (d:=.rs i 0 k) rfl ⟨rfl,by rw[cD],(lv _ _ _ _).trans ?_⟩))));rw[SA (by rw[List.length_map,C]) ck, <- List.map_take,X,qv,cD];unfold io;rw[hl]
   .have ap:d[j+1]≠d[j]:=by simpa using h
    refine cI ?_;refine av ?_;refine aa (aJ (j+1+1) (aq eH) ⟨oG,oG,?_⟩ oG);rw[LX (by rw[ga,show j+1 - 1=j by omega,gb];exact ap),J,ga];exact(List.take_succ_eq_append_getElem oG).symm
  .have ba:¬ k<n:=by have h:¬ (k:Int)<n:=by simpa using h
                     omega
   have:k=n:=by omega
   refine⟨.forget _ _ _ _ fun t=>kY (l:=[(0,.rs i 0 n)]) ⟨rfl,trivial⟩ t,?_⟩;rw[<- this,J,ez oG]
 .rintro s ⟨hg,J⟩;refine⟨_,hg,ai ?_⟩;refine ab ?_;exact aa (az rfl (whole J))
theorem Al{m:Mem}{nx i n:Nat}{d:List Int}(hi:i<nx)(hm:m i=some (.cells (d.map I) 3))(hl:d.length=n)(hn:n<=100000):ACalls prog 90 [.rs i 0 n] m nx (Ws d m nx i):=by
 refine(zz hi hm hl hn).mono ?_;rintro r m' nx' ⟨h1,h2,h3⟩;refine⟨h1,h2,qv d n,h3,?_⟩;rw[qv,List.take_append_of_le_length oS,ez oS]
end Go.Proofs.Tryz.K
namespace Go.Argus
def gl(x:End)(b:Int)(w:List Int):List Int:=if ER x b then lV w (fL x) else w
@[simp] theorem Jc (x : End) (b : Int) (w : List Int) : (gl x b w).length = w.length := by unfold gl; split <;> simp
def vP(l:List Int):List Int:=io (dO l)
structure lW(x:bN):Prop where
 rd:∀ r∈cX x,0<=r/\r<1200
 sl:x.op=17\/x.op=18->0<=x.n/\x.n<80
 wr: -1000000<=fZ x/\fZ x<1200
 ar:x.op=10\/x.op=38->x.args.length<=1000
structure wE(x:End):Prop where
 rd:∀ r∈cM x,0<=r/\r<1200
 wr: -1000000<=fL x/\fL x<1200
 wh:x.aE.length<=9
 a1:x.kind=5->x.ins.op=10\/x.ins.op=38->x.ins.args.length<=1000
 a2:x.kind=6\/x.kind=7->x.args.length<=1000
def jh(w:List Int)(ok:Bool)(rs:List Int):Bool:=rs.foldl (fun ok r=>ok&&mX w r.toNat) ok
def ET(w:List Int)(x:bN):List Int:=lV w (if x.op=18 then kp x.n else fZ x)
def Np(s:List Int×Bool)(x:bN):List Int×Bool:=(ET s.1 x,jh s.1 s.2 (cX x)&&(x.op !=17||mX s.1 (kp x.n).toNat))
def iw(l:List bN)(w:List Int):List Int×Bool:=l.foldl Np (w,true)
def kX(b:ca)(w:List Int):List Int×Bool:=((iw b.ins w).1,jh (iw b.ins w).1 (iw b.ins w).2 (cM b.fin))
theorem rG{α β:Type}{f:β->α->β}{z:β}{l:List α}{k:Nat}{x:α}(h:l[k]? =some x):(l.take (k+1)).foldl f z=f ((l.take k).foldl f z) x:=by
 rw[List.take_add_one,h,List.foldl_append];rfl
theorem D8(l:List bN)(w:List Int):(iw l w).1.length=w.length:=by
 unfold iw;generalize true=b
 induction l generalizing w b with
 |nil=>rfl
 |cons x l ih=>rw[List.foldl_cons];exact(ih _ _).trans (by simp[ET])
theorem Dd(b:ca)(w:List Int):(kX b w).1.length=w.length:=D8 _ _
def bL(l:List (List Int)):List D:=l.flatMap fun w=>w.map bM
theorem Ey{sz:Nat}:∀ {l:List (List Int)} {i:Nat} {w:List Int},(∀ w∈l,w.length=sz)->l[i]? =some w->(bL l).drop (i*sz)=w.map bM++(bL (l.drop (i+1)))
 |[],i,w,_,h=>by simp at h
 |a::l,0,w,_,h=>by simp at h;subst h;simp[bL]
 |a::l,i+1,w,hs,h=>by
  have ha:(a.map bM).length=sz:=by simpa using hs a oS
  have h1:(i+1)*sz=(a.map bM).length+i*sz:=by rw[ha,Nat.add_mul];omega
  have ih:=Ey (l:=l) (i:=i) (w:=w) (fun w C=>hs w (by simp[C])) (by simpa using h);unfold bL at ih ⊢;rw[List.flatMap_cons,h1, <- List.drop_drop,List.drop_left,ih,List.drop_succ_cons]
theorem BR{sz:Nat}{l:List (List Int)}{i:Nat}{w:List Int}(h:∀ w∈l,w.length=sz)(hi:l[i]? =some w):((bL l).drop (i*sz)).take sz=w.map bM:=by
 rw[Ey h hi,List.take_append_of_le_length (by simp[h w (bJ hi)]),ez (by simp[h w (bJ hi)])]
theorem DG{sz:Nat}:∀ {l:List (List Int)},(∀ w∈l,w.length=sz)->(bL l).length=l.length*sz
 |[],_=>by simp[bL]
 |a::l,h=>by
  have:=DG (l:=l) fun w C=>h w (by simp[C]);unfold bL at this ⊢;rw[List.flatMap_cons,List.length_append,this,List.length_map,h a oS,List.length_cons,Nat.add_mul];omega
theorem uk{sz:Nat}{l:List (List Int)}{i:Nat}{w:List Int}(h:∀ w∈l,w.length=sz)(hi:l[i]? =some w):i*sz+sz<=(bL l).length:=by
 rw[DG h];have:=(bj.1 hi).1;rw[<- Nat.succ_mul];exact Nat.mul_le_mul_right _ this
theorem MM{sz:Nat}(J:2<=sz):∀ {l:List (List Int)} {i:Nat} {w v:List Int},(∀ w∈l,w.length=sz)->l[i]? =some v->w.length=sz->splice (bL l) (i*sz) (w.map bM)=bL (l.set i w):=by
 intro l i w v h hi C
 have key:splice (bL l) (i*sz) (w.map bM)=(bL l).take (i*sz)++w.map bM++(bL l).drop (i*sz+(w.map bM).length):=by
  unfold splice;split
  .rename_i x hx;have:(w.map bM).length=1:=by rw[hx];rfl
   simp at this;omega
  .rfl
 rw[key,List.length_map,C];clear key
 induction l generalizing i with
 |nil=>simp at hi
 |cons a l ih=>
  have ha:(a.map bM).length=sz:=by simpa using h a oS
  cases i with
  |zero=>
   simp only[Nat.zero_mul,List.take_zero,List.nil_append,Nat.zero_add,List.set_cons_zero];unfold bL;rw[List.flatMap_cons,List.flatMap_cons, <- ha,List.drop_left]
  |succ i=>
   have ih:=ih (i:=i) (fun w C=>h w (by simp[C])) (by simpa using hi);simp only[List.set_cons_succ];unfold bL at ih ⊢;rw[List.flatMap_cons,List.flatMap_cons, <- ih,show(i+1)*sz=(a.map bM).length+i*sz by rw[ha,Nat.add_mul];omega,List.take_length_add_append,Nat.add_assoc,List.drop_length_add_append];simp
theorem Uv(n:Nat)(w:List Int):replD n (w.map bM)=bL (List.replicate n w):=by
 unfold replD bL
 induction n with
 |zero=>rfl
 |succ n ih=>rw[List.replicate_succ,List.replicate_succ,List.flatten_cons,List.flatMap_cons,ih]
theorem Ez(n:Nat)(b:Bool):replD n [B b]=(List.replicate n b).map B:=by
 unfold replD
 induction n with
 |zero=>rfl
 |succ n ih=>rw[List.replicate_succ,List.replicate_succ,List.flatten_cons,List.map_cons,ih];rfl
theorem Wt(l:List (List Int)):∀ a∈bL l,Tr a:=.flat fun w=>.map fun _=>.s _
theorem EA{sz:Nat}{l:List (List Int)}{i:Nat}{w:List Int}(h:∀ w∈l,w.length=sz)(J:w.length=sz):∀ u∈l.set i w,u.length=sz:=fun u C=>by
 rcases List.mem_or_eq_of_mem_set C with h1|h1
 .exact h u h1
 .rw[h1];exact J
theorem JY:∀ {w v:List Int},w.length=v.length->zipV (w.map bM) (v.map bM)=some (w.map (Value.int .u64),v.map (Value.int .u64))
 |[],[],_=>rfl
 |a::w,b::v,h=>by
  have:=JY (w:=w) (v:=v) (by simpa using h);simp[zipV,sameK,this]
theorem JZ:∀ {w v:List Int},w.length=v.length->veqs (w.map (Value.int .u64)) (v.map (Value.int .u64))=(w==v)
 |[],[],_=>rfl
 |a::w,b::v,h=>by
  have:=JZ (w:=w) (v:=v) (by simpa using h);simp[veqs,veq1,this]
theorem Tt(w:List Int):(w.map (Value.int .u64)).map kindV=List.replicate w.length 0:=by
 induction w with
 |nil=>rfl
 |cons a w ih=>simpa[kindV,List.replicate_succ] using ih
end Go.Argus
namespace Go.Proofs.Tryz.K
set_option maxRecDepth 10000
theorem Gk{f:FuncId}{cs:List D}{xs:List Int}(hs:SeqA prog f [] cs (xs.map fun n=>[I n]))(ht:Tr (.fn (.func f) [] cs))(hlen:xs.length<=12):OCall prog 201 [.fn (.func f) [] cs] ((dO xs).map I) xs.length 3:=by
 have C:∀ a∈[.fn (.func f) [] cs],Tr a:=.cons ht .nil;refine uW Nm C (.map fun _=>.s _) ?_;rw[XU];have Ge:=Ge hs ht oG;refine ws ?_;refine SS ?_;refine er ?_;refine SS ?_;refine ww Ge rfl bF ?_;refine SS ?_;refine er ?_;refine SS ?_;refine gW (rA (i:=0) (l:=xs) oG rfl rfl hlen) rfl bF fun r m' nx' hp=>?_;obtain⟨rfl,rfl,rfl⟩:=hp;refine er ?_;refine ab ?_;exact aa (az rfl ⟨0,rfl,rfl⟩)
theorem qK{f:FuncId}{cs:List D}{xs:List Int}(hs:SeqA prog f [] cs (xs.map fun n=>[I n]))(ht:Tr (.fn (.func f) [] cs))(hlen:xs.length<=12):PCall prog 155 [.fn (.func f) [] cs] (ao (vP xs)):=by
 have C:∀ a∈[.fn (.func f) [] cs],Tr a:=.cons ht .nil;refine bd Nn C (cH _) ?_;rw[XV];have Gk:=Gk hs ht hlen;refine ws ?_;refine SS ?_;refine aa (ax ?_);refine SS ?_;refine ww Gk rfl bF ?_;refine gW (Al (i:=0) (d:=dO xs) (n:=xs.length) oG rfl oS oG) rfl bF fun r m' nx' hp=>?_;obtain⟨rfl,rfl,c,rfl,hc⟩:=hp;refine SS ?_;refine aa (aR (cE [(0,c,3)] ⟨up_same _ _ _,trivial⟩ (l:=[(2,ao (vP xs))]) ⟨?_,trivial⟩) (az rfl rfl));exact su c3 (by rw[List.drop_zero,Nat.mul_one];exact hc)
def nextR(x:Argus.End):List Int:=vP (bZ x)
theorem LY{x:Argus.End}(hlen:x.aE.length<=9):PCall prog 155 [.fn (.func 202) [] [.pt (bm x)]] (ao (nextR x)):=
 qK (OD oG) (.fn oS (.cons (.pt (mF x)) .nil)) (by have:=Et x;omega)
theorem sM{x:Argus.End}{b:Int}{w:List Int}(J:w.length=20)(hlen:x.aE.length<=1000)(hn: -1000000<=fL x/\fL x<1280):PCall prog 199 [.agg (bm x),I b,eK w] (eK (gl x b w)):=by
 have C:∀ a∈[D.agg (bm x),I b,eK w],Tr a:=.cons (.agg (mF x)) (.cons (.s _) (.cons (mY _) .nil));refine bd No C (mY _) ?_;rw[XW];have Gc:=Gc (x:=x) (b:=b) hlen;refine ws ?_;refine av ?_;refine aa (aB (ai ?_));refine ab ?_;refine cl Gc ?_;refine aa (c6 rfl (fun h=>?_) fun h=>cu (ai ?_))
 .have Gl:=Gl (x:=x);have mZ:=mZ (w:=w) (n:=fL x) J hn;refine aB (fK Ts ?_);refine ab ?_;refine cl Gl ?_;refine cl mZ ?_;refine SS ?_;refine bE bP (c8 (r6 (nw rfl rfl qE od (jW oP) t231 oP) ?_));simp[gl,h]
 .refine ab ?_;refine aa (r6 (nw rfl rfl qE od (jW oP) t231 oP) ?_);simp[gl,h]
set_option maxHeartbeats 1000000 in
theorem kJ{b:ca}{w:List Int}(hw:w.length=20)(hl:b.ins.length<=100000)(hi:∀ x∈b.ins,lW x)(hf:wE b.fin)(mn:∀ x∈b.ins,(cX x).length<=100000)(gz:(cM b.fin).length<=100000):PCall prog 198 [.agg (dt b),eK w] (.tup [eK (kX b w).1,B (kX b w).2]):=by
 have aH:∀ a∈[D.agg (dt b),eK w],Tr a:=.cons (.agg (Jd b)) (.cons (mY _) .nil);refine bd Nq aH (.tup (.cons (mY _) (.cons (.s _) .nil))) ?_;rw[XX];refine ws ?_;refine fa (qd (cs:=dt _) rfl) ak (by first|rfl|exact pX dz dY|exact iM _|exact qm ka) ?_;refine av ?_;refine aa (ax ?_);refine SS ?_;refine aa (aR (bg (l:=[(2,.rp 0 0),(3,.rp 1 0),(4,.rp 2 0),(6,B true)]) (ml:=[(0,.cells (dt b) 72),(1,.cells (w.map bM) 231),(2,.cells (List.replicate 20 (bM 0)) 231)]) eH eH) (aB (ax ?_)));refine aI ?_
 refine aa (cN (fun s=>∃ n',3<=n'/\Ghost prog s ⟨aw [(2,.rp 0 0),(3,.rp 1 0),(4,.rp 2 0),(6,B (iw b.ins w).2)],bi [(0,.cells (dt b) 72),(1,.cells ((iw b.ins w).1.map bM) 231),(2,.cells (List.replicate 20 (bM 0)) 231)],n'⟩) (cG (α:=Nat×Nat)
  (fun k=>⟨aw [(2,.rp 0 0),(3,.rp 1 0),(4,.rp 2 0),(6,B (iw (b.ins.take k.1) w).2),(14,jj b.ins),(15,I b.ins.length),(16,I k.1)],bi [(0,.cells (dt b) 72),(1,.cells ((iw (b.ins.take k.1) w).1.map bM) 231),(2,.cells (List.replicate 20 (bM 0)) 231)],k.2⟩)
  (fun k=>k.1<=b.ins.length/\3<=k.2) (fun k=>b.ins.length - k.1) (0,3) (bg eH eH) ⟨oS,oS⟩ ?_) ?_)
 .rintro⟨k,N⟩ ⟨hk,hN⟩;dsimp only at hk hN ⊢;refine SS ?_;refine aa ⟨_,rfl,fun h=>?_,fun h=>?_⟩
  .have af:k<b.ins.length:=by simpa using h
   have hx:b.ins[k]? =some b.ins[k]:=by simp[af]
   have gp:b.ins[k]∈b.ins:=cZ af;generalize b.ins[k]=x at hx gp;obtain⟨ird,QQ,iwr,iar⟩:=hi x gp;have C:iw (b.ins.take (k+1)) w=Np (iw (b.ins.take k) w) x:=rG hx;have hlen:(iw (b.ins.take k) w).1.length=20:=by rw[D8,hw]
   generalize iw (b.ins.take k) w=u at C hlen;obtain⟨v,ok⟩:=u;dsimp only at hlen ⊢;refine ws ?_;refine aI ?_;refine aa (aB (ax ?_));have wV:=wV (x:=x) iar;refine SS ?_;refine cl wV ?_;refine ab ?_;have aeX:=mn x gp
   refine aa (cN (fun s=>Ghost prog s ⟨aw [(2,.rp 0 0),(3,.rp 1 0),(4,.rp 2 0),(6,B (jh v ok (cX x))),(8,.rp N 0),(14,jj b.ins),(15,I b.ins.length),(16,I k)],up (bi [(0,.cells (dt b) 72),(1,.cells (v.map bM) 231),(2,.cells (List.replicate 20 (bM 0)) 231)]) N (some (.cells (b7 x) 66)),N+1⟩) (cG (α:=Nat)
    (fun j=>⟨aw [(2,.rp 0 0),(3,.rp 1 0),(4,.rp 2 0),(6,B (jh v ok ((cX x).take j))),(8,.rp N 0),(14,jj b.ins),(15,I b.ins.length),(16,I k),(21,ao (cX x)),(22,I (cX x).length),(23,I j)],up (bi [(0,.cells (dt b) 72),(1,.cells (v.map bM) 231),(2,.cells (List.replicate 20 (bM 0)) 231)]) N (some (.cells (b7 x) 66)),N+1⟩)
    (fun j=>j<=(cX x).length) (fun j=>(cX x).length - j) 0 (kq eH (lv _ _ _ _)) oG ?_) ?_)
   .intro j hj;refine SS ?_;refine aa ⟨_,rfl,fun h=>?_,fun h=>?_⟩
    .have J:j<(cX x).length:=by simpa using h
     have hr:(cX x)[j]? =some (cX x)[j]:=by simp[J]
     have X:(cX x)[j]∈cX x:=cZ J;generalize (cX x)[j]=r at hr X;have zW:=ird r X;obtain⟨M,rfl⟩:=dd zW.1;have iN:=iN (w:=v) (m:=M) hlen oG;refine ws ?_;refine av ?_;refine aa (fY ?_);refine aI ?_;refine gc iN ?_;refine ab ?_;refine aa ?_;refine ab ?_;refine aa (aJ (j+1) (aq ⟨rfl,rfl,rfl,?_,rfl,rfl,rfl,rfl,rfl,rfl,rfl,trivial⟩) oG oG)
     have e:jh v ok ((cX x).take (j+1))=(jh v ok ((cX x).take j)&&mX v M):=by
      unfold jh;rw[rG hr,b9]
     rw[e];generalize jh v ok ((cX x).take j)=g;cases g<;>rfl
    .have ba:¬ j<(cX x).length:=by simpa using h
     refine aq ⟨rfl,rfl,rfl,?_,rfl,rfl,rfl,rfl,trivial⟩;show B _=B _;rw[ez oG]
   .intro s hg;have C:iw (b.ins.take (k+1)) w=(ET v x,jh v ok (cX x)&&(x.op !=17||mX v (kp x.n).toNat)):=C;generalize jh v ok (cX x)=HD at hg C;have zw:=zw (w:=v) (x:=x) hlen (fun h=>QQ (.inr h)) (fun _=>by omega);have fin:∀ (d:Bool) env,d=(HD&&(x.op !=17||mX v (kp x.n).toNat))->gU [(2,.rp 0 0),(3,.rp 1 0),(4,.rp 2 0),(6,B d),(8,.rp N 0),(14,jj b.ins),(15,I b.ins.length),(16,I k)] env->True:=fun _ _ _ _=>trivial;refine⟨_,hg,?_⟩;cases HD with
    |false=>
     have qF:false=true->PCall prog 244 [I x.n] (I (kp x.n)):=fun h=>by cases h
     have iN:false=true->PCall prog 200 [eK v,I (kp x.n)] (B true):=fun h=>by cases h
     refine fK Dw ?_;refine aN ?_;refine ud rfl rfl rfl (fun hc=>⟨ak,qF hc⟩) ?_;refine ud rfl rfl rfl (fun hc=>⟨ak,iN hc⟩) ?_;refine av ?_;refine bE bP (fY ?_);refine ab ?_;refine cl zw ?_;refine SS ?_;refine aa ?_;refine ab ?_;refine aa (aJ (k+1,N+1) (bg ⟨rfl,rfl,rfl,?_,rfl,rfl,rfl,trivial⟩ ⟨al oG (al oG rfl),?_,al oG (al oG rfl),trivial⟩) ⟨oM,oM⟩ oM)
     .dsimp only;rw[C];rfl
     .dsimp only;rw[C];exact up_same _ _ _
    |true=>
     by_cases u7:x.op=17
     .have fR:(x.op !=17)=false:=by simp[u7]
      have afa:=QQ (.inl u7);have qF:=qF (n:=x.n) oG;obtain⟨sn,kM⟩:=dd (show 0<=kp x.n by unfold kp;omega);have iN:=iN (w:=v) (m:=sn) hlen (by unfold kp at kM;omega);rw[<- kM] at iN;refine fK Dw ?_;refine aN ?_;refine gc qF ?_;refine gc iN ?_;refine av ?_;refine bE bP (fY ?_);refine ab ?_;refine cl zw ?_;refine SS ?_;refine aa ?_;refine ab ?_;refine aa (aJ (k+1,N+1) (bg ⟨rfl,rfl,rfl,?_,rfl,rfl,rfl,trivial⟩ ⟨al oG (al oG rfl),?_,al oG (al oG rfl),trivial⟩) ⟨oM,oM⟩ oM)
      .dsimp only;rw[C,fR,kM];rfl
      .dsimp only;rw[C];exact up_same _ _ _
     .have fR:(x.op !=17)=true:=by simp[u7]
      have qF:false=true->PCall prog 244 [I x.n] (I (kp x.n)):=fun h=>by cases h
      have iN:false=true->PCall prog 200 [eK v,I (kp x.n)] (B true):=fun h=>by cases h
      refine fK Dw ?_;refine bC ?_;(iterate 5 refine z fun _ _=>?_);refine av ?_;refine bE bP (fY ?_);refine ab ?_;refine cl zw ?_;refine SS ?_;refine aa ?_;refine ab ?_;refine aa (aJ (k+1,N+1) (bg ⟨rfl,rfl,rfl,?_,rfl,rfl,rfl,trivial⟩ ⟨al oG (al oG rfl),?_,al oG (al oG rfl),trivial⟩) ⟨oM,oM⟩ oM)
      .dsimp only;rw[C,fR];rfl
      .dsimp only;rw[C];exact up_same _ _ _
  .have ba:¬ k<b.ins.length:=by simpa using h
   have uJ:b.ins.take k=b.ins:=ez oG;refine⟨N,hN,?_⟩;rw[uJ];exact aq eH
 .rintro s ⟨n',dp,hg⟩;have hlen:(iw b.ins w).1.length=20:=by rw[D8,hw]
  have uZ:kX b w=((iw b.ins w).1,jh (iw b.ins w).1 (iw b.ins w).2 (cM b.fin)):=rfl;rw[uZ];generalize iw b.ins w=u at hg hlen ⊢;obtain⟨v,ok⟩:=u;dsimp only at hlen hg ⊢;have Gm:=Gm (x:=b.fin) hf.a1 hf.a2;refine⟨_,hg,aB (ax ?_)⟩;refine ab ?_;refine cl Gm ?_;refine ab ?_
  refine aa (cN (fun s=>Ghost prog s ⟨aw [(3,.rp 1 0),(4,.rp 2 0),(6,B (jh v ok (cM b.fin)))],bi [(1,.cells (v.map bM) 231),(2,.cells (List.replicate 20 (bM 0)) 231)],n'⟩) (cG (α:=Nat)
   (fun j=>⟨aw [(3,.rp 1 0),(4,.rp 2 0),(6,B (jh v ok ((cM b.fin).take j))),(53,ao (cM b.fin)),(54,I (cM b.fin).length),(55,I j)],bi [(1,.cells (v.map bM) 231),(2,.cells (List.replicate 20 (bM 0)) 231)],n'⟩)
   (fun j=>j<=(cM b.fin).length) (fun j=>(cM b.fin).length - j) 0 (bg eH eH) oG ?_) ?_)
  .intro j hj;refine SS ?_;refine aa ⟨_,rfl,fun h=>?_,fun h=>?_⟩
   .have J:j<(cM b.fin).length:=by simpa using h
    have hr:(cM b.fin)[j]? =some (cM b.fin)[j]:=by simp[J]
    have X:(cM b.fin)[j]∈cM b.fin:=cZ J;generalize (cM b.fin)[j]=r at hr X;have zW:=hf.rd r X;obtain⟨M,rfl⟩:=dd zW.1;have iN:=iN (w:=v) (m:=M) hlen oG;refine ws ?_;refine av ?_;refine aa (fY ?_);refine ab ?_;refine aT rfl rfl (df rfl rfl V.h V.h (jW (by first|rfl|exact aP rfl|(simp;done)|(simp;omega)|omega))) (fun hc=>⟨ak,(dg V.h V.h (by first|rfl|exact aP rfl|(simp;done)|(simp;omega)|omega))⟩) ?_;refine SS ?_;refine gc iN ?_;refine ab ?_;refine aa ?_;refine ab ?_;refine aa (aJ (j+1) (aq ⟨rfl,rfl,?_,rfl,rfl,rfl,trivial⟩) oG oG)
    have e:jh v ok ((cM b.fin).take (j+1))=(jh v ok ((cM b.fin).take j)&&mX v M):=by
     unfold jh;rw[rG hr,b9]
    rw[e];generalize jh v ok ((cM b.fin).take j)=g;cases g<;>rfl
   .have ba:¬ j<(cM b.fin).length:=by simpa using h
    refine aq ⟨rfl,rfl,?_,trivial⟩;show B _=B _;rw[ez oG]
  .intro s hg;refine⟨_,hg,ai ?_⟩;refine aI ?_;exact aa (Ds (nw rfl rfl qE od (jW oP) t231 oP) rfl rfl)
end Go.Proofs.Tryz.K
end
namespace Go.Argus
open Go.Abs
theorem SU{l:List Int}{j:Nat}(hj:j+1<l.length){x:Int}:x∈swapAt l j↔x∈l:=by
 have ha:l.getD j 0=l[j]:=by simp[aV,aK (show j<l.length by omega)]
 have hb:l.getD (j+1) 0=l[j+1]:=by simp[aV,aK hj]
 unfold swapAt;rw[ha,hb];exact(List.set_set_perm (show j+1<l.length from hj) (show j<l.length by omega)).mem_iff
theorem Kb{x:Int}:∀ (j:Nat) {l:List Int},j<l.length->(x∈lz l j↔x∈l)
 |0,l,_=>Iff.rfl
 |j+1,l,hj=>by
  simp only[lz];split
  .exact(Kb j oP).trans (SU hj)
  .exact Iff.rfl
theorem Jw{l:List Int}{x:Int}:∀ k,k<l.length->(x∈jY l k↔x∈l)
 |0,_=>Iff.rfl
 |k+1,h=>by
  simp only[jY];exact(Kb (k+1) (by simpa using h)).trans (Jw k oG)
theorem TK{l:List Int}{x:Int}:x∈dO l↔x∈l:=by
 unfold dO;cases l with
 |nil=>simp[jY]
 |cons a l=>exact Jw _ oS
theorem Dm{l:List Int}{x:Int}:x∈vP l↔x∈l:=by
 unfold vP io;rw[Kz (aU _),List.take_length];exact TK
theorem wrap_u64{n:Nat}(h:n<2 ^ 64):IntKind.u64.wrap (n:Int)=n:=by
 unfold IntKind.wrap;simp[IntKind.signed,IntKind.bits];omega
theorem VD{a b:Int}(ha:0<=a/\a<18446744073709551616):0<=sO a b/\sO a b<=a:=by
 unfold sO intBitsV;simp only;rw[wrap_u64 (n:=(BitVec.ofInt IntKind.u64.bits a&&& BitVec.ofInt IntKind.u64.bits b).toNat) (BitVec.isLt (w:=64) _)];obtain⟨n,rfl⟩:=dd ha.1
 have h1:(BitVec.ofInt IntKind.u64.bits (n:Int)).toNat=n:=by
  rw[BitVec.toNat_ofInt];show((n:Int) % ((2 ^ 64:Nat):Int)).toNat=n;omega
 have h2:(BitVec.ofInt IntKind.u64.bits (n:Int)&&& BitVec.ofInt IntKind.u64.bits b).toNat<=n:=by
  rw[BitVec.toNat_and,h1];exact Nat.and_le_left
 omega
end Go.Argus
section
open Go Go.Abs Go.Proofs Go.Argus
namespace Go.Abs
section
variable{P:Program}{env:Env}{m:Mem}{nx:Nat}{x y:Operand}{t p:TypeId}{k:IntKind}{n n':Int}
theorem ym{j i l sz:Nat}{e:TypeId}{r:Row}(hx:(opd env x).core=.rs j 0 l)(hy:(opd env y).core=.s (.int k (i:Int)))(hm:m j=some r)(he:elemP P t=e)(hs:P.cellsOf e=sz):
 Ef P (.indexAddr t x y) env m nx ⟨slT P t=true/\i<l,.rp j (i*sz),[],[j],0⟩:=by
 have h:=Bv (P:=P) (env:=env) (m:=m) (nx:=nx) (t:=t) hx hy hm he hs;have h1:0+((i:Int)).toNat*sz=i*sz:=by simp
 have h2:(slT P t=true/\(0:Int)<=(i:Int)/\(i:Int)<l)=(slT P t=true/\i<l):=by
  apply propext;constructor
  .rintro⟨a,_,b⟩;exact⟨a,oG⟩
  .rintro⟨a,b⟩;exact⟨a,oG,oG⟩
 rw[h1,h2] at h;exact h
theorem Uw{ps:Array (Nat×Operand)}{e:TypeId}{l:Nat}{z:List D}(C:P.underlying t=some (.array l e))(hp:ps.toList=[])(J:zeroP P t=z):Ef P (.build t ps) env m nx ⟨tyOk P t=true/\tyOk P e=true,.agg z,[],[],0⟩:=by
 refine⟨?_,rfl,rfl⟩;simp only[aop,C,hp,J,List.map_nil,fillD,Option.map_some]
theorem Nf{xs ys:List D}{us vs:List Value}{C:List Nat}(hx:(opd env x).core=.agg xs)(hy:(opd env y).core=.agg ys)(hf:flatT P t=some C)(J:zipV xs ys=some (us,vs)){c:Bool}(hc:(!veqs us vs)=c):
 Ef P (.binOp .neq t x y p) env m nx ⟨us.map kindV=C/\P.eqGuardType P.depth t=false,.s (.bool c),[],[],0⟩:=by
 refine⟨?_,rfl,rfl⟩
 have hn:nilD P m .neq t (.agg xs) y=none:=by
  unfold nilD;split<;>first|rfl|(rename_i h;cases h)
 simp only[aop,rho,hx,hy,hn,binD,aggEqD,hf,J,hc,Option.map_some]
end
def sN(cs:List D):Prop:=∀ d∈cs,∃ v,d=.s v
theorem sN.map{α:Type}{f:α->Value}{l:List α}:sN (l.map fun x=>.s (f x)):=fun d hd=>by
 obtain⟨x,_,rfl⟩:=List.mem_map.1 hd;exact⟨_,rfl⟩
theorem XY{i sz:Nat}{C cs:List D}(h:sN cs):cs.map (sub (fz0 i C sz))=cs:=by
 induction cs with
 |nil=>rfl
 |cons d cs ih=>
  obtain⟨v,rfl⟩:=h d oS;rw[List.map_cons,ih fun d hd=>h d (by simp[hd])];rfl
theorem VC{m:Mem}{i j sz:Nat}{J cs:List D}{e:TypeId}(C:j≠i)(hm:m j=some (.cells cs e))(h:sN cs):(if j=i then none else(m j).map (Row.sub (fz0 i J sz)))=some (.cells cs e):=by
 rw[if_neg C,hm];show some (Row.cells (cs.map _) e)=_;rw[XY h]
theorem Wu{i sz n:Nat}{C es:List D}:sub (fz0 i C sz) (.sl es n)=.sl es n:=rfl
theorem AV{i j sz off n:Nat}{C:List D}(h:j≠i):sub (fz0 i C sz) (.rs j off n)=.rs j off n:=by
 show(if j=i then _ else D.rs j off n)=_;rw[if_neg h]
theorem nA{i sz n:Nat}{C:List D}(h:C.length=n*sz):sub (fz0 i C sz) (.rs i 0 n)=.sl C n:=by
 show(if i=i then D.sl ((C.drop 0).take (n*sz)) n else _)=_;rw[if_pos rfl,List.drop_zero,ez oG]
end Go.Abs
namespace Go.Proofs.Tryz.K
set_option maxRecDepth 10000
theorem XZ:flatT prog 231=some (List.replicate 20 0):=kr
theorem X0:prog.eqGuardType prog.depth 231=false:=kr
theorem X2:zeroP prog 231=(List.replicate 20 (0:Int)).map bM:=O'
theorem aa1:prog.underlying 231=some (.array 20 98):=kr
section
variable{env:Env}{m:Mem}{nx:Nat}{x y:Operand}{p:TypeId}
theorem X3{w v:List Int}(hx:(opd env x).core=eK w)(hy:(opd env y).core=eK v)(h:w.length=v.length):Ef prog (.binOp .neq 231 x y p) env m nx ⟨(w.map (Value.int .u64)).map kindV=List.replicate 20 0/\prog.eqGuardType prog.depth 231=false,B (w !=v),[],[],0⟩:=
 Nf hx hy XZ (JY h) (by rw[JZ h];rfl)
theorem X4{w:List Int}(h:w.length=20):(w.map (Value.int .u64)).map kindV=List.replicate 20 0/\prog.eqGuardType prog.depth 231=false:=⟨by rw[Tt,h],X0⟩
end
end Go.Proofs.Tryz.K
namespace Go.Argus
open Go.Proofs.Tryz.K (nextR)
structure CS where
 ws:List (List Int)
 re:List Bool
 ch:Bool
def fw(x:End)(w:List Int)(s:CS)(n:Int):CS:=
 if s.re.getD n.toNat false=false\/jX (s.ws.getD n.toNat []) (gl x n w)≠s.ws.getD n.toNat [] then⟨s.ws.set n.toNat (jX (s.ws.getD n.toNat []) (gl x n w)),s.re.set n.toNat true,true⟩ else s
def gX(bs:List ca)(s:CS)(k:Nat):CS:=match bs[k]? with
 |none=>s
 |some x=>if s.re.getD k false=true then(nextR x.fin).foldl (fw x.fin (kX x (s.ws.getD k [])).1) s else s
def pY(bs:List ca)(s:CS):CS:=(List.range bs.length).foldl (gX bs) ⟨s.ws,s.re,false⟩
def rM(bs:List ca):Nat->CS->CS
 |0,s=>s
 |k+1,s=>if(pY bs s).ch=true then rM bs k (pY bs s) else pY bs s
def kK:Int:=18446744073709551615
def js:Nat->List Int
 |0=>List.replicate 20 0
 |k+1=>lV (js k) k
@[simp] theorem Je : ∀ k, (js k).length = 20
 |0=>rfl
 |k+1=>by simp[js,Je k]
def rN(n args:Nat):CS:=⟨(List.replicate n (List.replicate 20 kK)).set 0 (js args),(List.replicate n false).set 0 true,true⟩
def eU(u:Int):Prop:=0<=u/\u<18446744073709551616
structure ix(n:Nat)(s:CS):Prop where
 lw:s.ws.length=n
 lr:s.re.length=n
 iZ:∀ w∈s.ws,w.length=20
 rg:∀ w∈s.ws,∀ u∈w,eU u
def j5(w:List Int):Nat:=(w.map Int.toNat).sum
def tA(s:CS):Nat:=(s.ws.map j5).sum+s.re.count false
def nr(s:CS):Nat:=tA s+if s.ch=true then 1 else 0
theorem KB{l:List Nat}{k x y:Nat}(h:l[k]? =some x):(l.set k y).sum+x=l.sum+y:=by
 induction l generalizing k with
 |nil=>simp at h
 |cons a l ih=>cases k with
  |zero=>simp at h;subst h;simp;omega
  |succ k=>have:=ih (k:=k) (by simpa using h);simp;omega
theorem Ux{l:List Int}{k:Nat}{x y:Int}(h:l[k]? =some x):j5 (l.set k y)+x.toNat=j5 l+y.toNat:=by
 unfold j5;rw[List.map_set];exact KB (by simp[h])
theorem Jf{a b:Int}(h:eU a):eU (sO a b)/\sO a b<=a:=by
 have:=VD (b:=b) h;exact⟨⟨this.1,by unfold eU at h;omega⟩,this.2⟩
theorem Uy{α:Type}{l:List α}{k:Nat}{x:α}(h:l[k]? =some x):l.set k x=l:=by
 apply List.ext_getElem?;intro i;rw[List.getElem?_set];split
 .rename_i e;subst e;rw[if_pos (bj.1 h).1,h]
 .rfl
theorem J0{w v:List Int}(M:∀ u∈w,eU u):∀ k,k<=w.length->(∀ u∈eb w v k,eU u)/\j5 (eb w v k)<=j5 w/\(eb w v k≠w->j5 (eb w v k)<j5 w)
 |0,_=>⟨M,aU _,fun h=>absurd rfl h⟩
 |k+1,hk=>by
  obtain⟨h1,h2,h3⟩:=J0 (v:=v) M k oG;have hl:k<(eb w v k).length:=by simp;omega
  have hx:(eb w v k)[k]? =some (eb w v k)[k]:=aK hl;have hg:(eb w v k).getD k 0=(eb w v k)[k]:=by simp[aV,hx]
  have hm:=h1 _ (cZ hl);simp only[eb,hg];generalize (eb w v k)[k]=a at hx hm;obtain⟨C,r2⟩:=Jf (b:=v.getD k 0) hm;generalize sO a (v.getD k 0)=y at C r2;have hs:=Ux (y:=y) hx;unfold eU at C hm;refine⟨fun u X=>?_,oG,fun J=>?_⟩
  .rcases List.mem_or_eq_of_mem_set X with h|h
   .exact h1 u h
   .subst h;exact C
  .by_cases e:y=a
   .subst e;have:(eb w v k).set k y=eb w v k:=Uy hx;rw[this] at J ⊢;exact h3 J
   .omega
theorem Uz{l:List (List Int)}{k:Nat}{w v:List Int}(h:l[k]? =some w):((l.set k v).map j5).sum+j5 w=(l.map j5).sum+j5 v:=by
 rw[List.map_set];exact KB (by simp[h])
theorem count_set{l:List Bool}{k:Nat}{b:Bool}(h:l[k]? =some b):(l.set k true).count false+(if b=true then 0 else 1)=l.count false:=by
 induction l generalizing k with
 |nil=>simp at h
 |cons a l ih=>cases k with
  |zero=>simp at h;subst h;cases a<;>simp
  |succ k=>have:=ih (k:=k) (by simpa using h);simp only[List.set_cons_succ,List.count_cons];omega
theorem IU{x:End}{w:List Int}{s:CS}{n:Nat}{t:Int}(hs:ix n s)(ht:0<=t/\t<n):ix n (fw x w s t)/\nr (fw x w s t)<=nr s:=by
 obtain⟨lw,lr,iZ,rg⟩:=hs;obtain⟨k,rfl⟩:=dd ht.1;have hk:k<n:=by omega
 have hx:s.ws[k]? =some s.ws[k]:=aK oG;have hb:s.re[k]? =some s.re[k]:=aK oG;have M:s.ws.getD k []=s.ws[k]:=by simp[aV,hx]
 have J:s.re.getD k false=s.re[k]:=by simp[aV,hb]
 have hm:s.ws[k]∈s.ws:=cZ _;unfold fw;simp only[b9,M,J];generalize s.ws[k]=v at hx hm;generalize s.re[k]=b at hb;have X:=iZ v hm;obtain⟨m1,C,m3⟩:=J0 (v:=gl x k w) (rg v hm) 20 oG;have hl:=Jg v (gl x k w)
 change (∀ u∈jX v (gl x k w),eU u) at m1
 change j5 (jX v (gl x k w))<=j5 v at C
 change jX v (gl x k w)≠v->j5 (jX v (gl x k w))<j5 v at m3
 generalize jX v (gl x k w)=u at m1 C m3 hl;split
 .rename_i hc;refine⟨⟨by simp[lw],by simp[lr],EA iZ oG,fun y hy=>?_⟩,?_⟩
  .rcases List.mem_or_eq_of_mem_set hy with h|h
   .exact rg y h
   .subst h;exact m1
  .have h1:=Uz (v:=u) hx;have h2:=count_set hb;unfold nr tA;simp only[if_true];rcases hc with hc|hc
   .subst hc;simp only[Bool.false_eq_true,if_false] at h2;omega
   .have:=m3 hc;omega
 .exact⟨⟨lw,lr,iZ,rg⟩,aU _⟩
theorem AX{α β:Type}{f:β->α->β}{J:β->Prop}{φ:β->Nat}{l:List α}(h:∀ x∈l,∀ s,J s->J (f s x)/\φ (f s x)<=φ s){s:β}(hs:J s):J (l.foldl f s)/\φ (l.foldl f s)<=φ s:=by
 induction l generalizing s with
 |nil=>exact⟨hs,aU _⟩
 |cons x l ih=>
  obtain⟨h1,h2⟩:=h x oS s hs;obtain⟨h3,h4⟩:=ih (fun y hy=>h y (by simp[hy])) h1;exact⟨h3,Nat.le_trans h4 h2⟩
theorem xU(x:End):(nextR x).length<=x.aE.length+3:=by
 have h1:=Ex (d:=dO (bZ x)) (dO (bZ x)).length;have h2:=Et x;rw[DF] at h1;exact Nat.le_trans (by simpa[nextR,vP,io] using h1) h2
structure sv(n:Nat)(b:ca):Prop where
 len:b.ins.length<=100000
 ins:∀ x∈b.ins,lW x
 fin:wE b.fin
 rl:∀ x∈b.ins,(cX x).length<=100000
 rf:(cM b.fin).length<=100000
 to:∀ t∈nextR b.fin,0<=t/\t<n
theorem J1{bs:List ca}{s:CS}{n k:Nat}(hb:∀ b∈bs,sv n b)(hs:ix n s):ix n (gX bs s k)/\nr (gX bs s k)<=nr s:=by
 unfold gX;split
 .exact⟨hs,aU _⟩
 .rename_i x hx;split
  .exact AX (J:=ix n) (φ:=nr) (fun t ht s hs=>IU hs ((hb x (bJ hx)).to t ht)) hs
  .exact⟨hs,aU _⟩
theorem Di{bs:List ca}{s:CS}{n:Nat}(hb:∀ b∈bs,sv n b)(hs:ix n s):ix n (pY bs s)/\nr (pY bs s)<=tA s:=by
 have:=AX (J:=ix n) (φ:=nr) (f:=gX bs) (l:=List.range bs.length) (fun k _ s hs=>J1 hb hs) (s:=⟨s.ws,s.re,false⟩) ⟨hs.lw,hs.lr,hs.iZ,hs.rg⟩;exact this
def pj(bs:List ca)(args:Nat):CS:=rM bs (tA (rN bs.length args)+1) (rN bs.length args)
theorem getD_some{α:Type}{l:List α}{k:Nat}{x d:α}(h:l[k]? =some x):l.getD k d=x:=by simp[aV,h]
theorem KC{α:Type}{n k:Nat}{x y:α}(hk:k<n):(List.replicate k x++List.replicate (n - k) y).set k x=List.replicate (k+1) x++List.replicate (n - (k+1)) y:=by
 rw[show n - k=n - (k+1)+1 by omega,List.replicate_succ,List.replicate_succ',List.append_assoc,List.singleton_append];rw[List.set_append];simp
theorem UA{α:Type}{a b:Nat}{x y z:α}(h:z∈List.replicate a x++List.replicate b y):z=x\/z=y:=by
 rcases List.mem_append.1 h with h|h
 .exact .inl (List.eq_of_mem_replicate h)
 .exact .inr (List.eq_of_mem_replicate h)
theorem Sb{x:End}{w v:List Int}{s:CS}{k:Nat}{b:Bool}(hx:s.ws[k]? =some v)(hb:s.re[k]? =some b)(h:b=false\/jX v (gl x k w)≠v):fw x w s k=⟨s.ws.set k (jX v (gl x k w)),s.re.set k true,true⟩:=by
 unfold fw;rw[b9,getD_some hx,getD_some hb,if_pos h]
theorem SB{x:End}{w v:List Int}{s:CS}{k:Nat}{b:Bool}(hx:s.ws[k]? =some v)(hb:s.re[k]? =some b)(h:¬ (b=false\/jX v (gl x k w)≠v)):fw x w s k=s:=by
 unfold fw;rw[b9,getD_some hx,getD_some hb,if_neg h]
theorem ID{n args:Nat}(ha:∀ u∈js args,eU u):ix n (rN n args):=by
 refine⟨by simp[rN],by simp[rN],EA (fun w J=>by rw[List.eq_of_mem_replicate J];simp) oS,fun w J u C=>?_⟩;rcases List.mem_or_eq_of_mem_set J with h|h
 .rw[List.eq_of_mem_replicate h] at C;rw[List.eq_of_mem_replicate C];simp[eU,kK]
 .rw[h] at C;exact ha u C
end Go.Argus
namespace Go.Proofs.Tryz.K
set_option maxRecDepth 10000
set_option maxHeartbeats 2000000 in
theorem wW{p q:D}{f:aC}{n args:Nat}(hp:Tr p)(hq:Tr q)(dz:p.one=true)(dY:q.one=true)(hn:f.blocks.length=n)(iW:0<n)(iX:n<=100000)(ha:f.args=args)(uM:args<=1000)(tB:∀ u∈js args,eU u)(hb:∀ b∈f.blocks,sv n b):
 PCall prog 197 [.agg (aF p q f)] (.tup [.sl (bL (pj f.blocks args).ws) n,.sl ((pj f.blocks args).re.map B) n]):=by
 have aH:∀ a∈[D.agg (aF p q f)],Tr a:=.cons (jN hp hq f) .nil;refine bd Nr aH (.tup (.cons (.sl (Wt _)) (.cons (.sl (.map fun _=>.s _)) .nil))) ?_;rw[X5];refine ax ?_;refine av ?_;refine aa (aR (cE [(0,aF p q f,133)] eH (l:=[(1,.pt (aF p q f))]) eH) (oV Tu ?_));refine aI ?_;refine fa (xX rfl rfl V.h V.h) ak ⟨oG,rfl,oG,by rw[Pa];omega,V.h⟩ ?_;refine eW ?_;have dp:((f.blocks.length:Nat):Int).toNat=n:=hn;refine bE bP (aR (bg (l:=[(1,.pt (aF p q f)),(4,.rs 1 0 n),(5,.rs 2 0 n)]) (ml:=[(1,.cells (bL (List.replicate n (List.replicate 20 0))) 231),(2,.cells ((List.replicate n false).map B) 4)]) ⟨rfl,?_,?_,trivial⟩ ⟨?_,?_,trivial⟩) (aB (ax ?_)))
 .exact congrArg (fun k=>D.rs 1 0 k) dp
 .exact congrArg (fun k=>D.rs 2 0 k) dp
 .exact congrArg (fun c=>some (Row.cells c 231)) ((congrArg (fun k=>replD k ((List.replicate 20 (0:Int)).map bM)) dp).trans (Uv n (List.replicate 20 0)))
 .exact congrArg (fun c=>some (Row.cells c 4)) ((congrArg (fun k=>replD k [B false]) dp).trans (Ez n false))
 refine av ?_
 refine aa (cN (fun s=>Ghost prog s ⟨aw [(1,.pt (aF p q f)),(4,.rs 1 0 n),(5,.rs 2 0 n)],bi [(1,.cells (bL (List.replicate n (List.replicate 20 kK))) 231),(2,.cells ((List.replicate n false).map B) 4)],3⟩) (cG (α:=Nat)
  (fun k=>⟨aw [(1,.pt (aF p q f)),(4,.rs 1 0 n),(5,.rs 2 0 n),(27,I n),(28,I k)],bi [(1,.cells (bL (List.replicate k (List.replicate 20 kK)++List.replicate (n - k) (List.replicate 20 0))) 231),(2,.cells ((List.replicate n false).map B) 4)],3⟩)
  (fun k=>k<=n) (fun k=>n - k) 0 (bg eH eH) oG ?_) ?_)
 .intro k hk;refine SS ?_;refine aa ⟨_,rfl,fun h=>?_,fun h=>?_⟩
  .have af:k<n:=by simpa using h
   have Gn:=KC (x:=List.replicate 20 kK) (y:=List.replicate 20 (0:Int)) af
   have hi:(List.replicate k (List.replicate 20 kK)++List.replicate (n - k) (List.replicate 20 (0:Int)))[k]? =some (List.replicate 20 0):=by
    rw[List.getElem?_append_right oS,List.length_replicate,Nat.sub_self,show n - k=n - (k+1)+1 by omega,List.replicate_succ];rfl
   have ki:∀ w∈List.replicate k (List.replicate 20 kK)++List.replicate (n - k) (List.replicate 20 (0:Int)),w.length=20:=fun w hw=>by
    rcases UA hw with h|h<;>(rw[h];simp)
   have F8:PCall prog 241 [] (eK (List.replicate 20 kK)):=F8;refine ws ?_;refine ab ?_;refine aa (fY ?_);refine ab ?_;refine cl F8 ?_;refine ab ?_;refine aa ?_;refine ab ?_;refine aa (aJ (k+1) (bg eH ⟨?_,rfl,trivial⟩) oG oG);rw[<- Gn];rfl
  .have ba:¬ k<n:=by simpa using h
   have:k=n:=by omega
   subst this;refine bg eH ⟨?_,rfl,trivial⟩;show some (Row.cells (bL (_++List.replicate (k - k) _)) _)=_;rw[Nat.sub_self,List.replicate_zero,List.append_nil]
 rintro s hg;refine⟨_,hg,ax ?_⟩;have hi:(List.replicate n (List.replicate 20 kK))[0]? =some (List.replicate 20 kK):=by simp[iW]
 have ki:∀ w∈List.replicate n (List.replicate 20 kK),w.length=20:=fun w hw=>by rw[List.eq_of_mem_replicate hw];simp
 refine ab ?_;refine au (Uw aa1 rfl X2) ak ⟨V.h,V.h⟩ ?_;refine av ?_;refine aa2 ?_;refine aa (aR (bg (l:=[(1,.pt (aF p q f)),(4,.rs 1 0 n),(5,.rs 2 0 n)]) (ml:=[(1,.cells (bL ((List.replicate n (List.replicate 20 kK)).set 0 (js 0))) 231),(2,.cells (((List.replicate n false).set 0 true).map B) 4)]) eH ⟨rfl,?_,trivial⟩) (aB (ax ?_)))
 .rw[List.map_set];rfl
 clear hi;refine aI ?_
 refine aa (cN (fun s=>Ghost prog s ⟨aw [(1,.pt (aF p q f)),(4,.rs 1 0 n),(5,.rs 2 0 n)],bi [(1,.cells (bL ((List.replicate n (List.replicate 20 kK)).set 0 (js args))) 231),(2,.cells (((List.replicate n false).set 0 true).map B) 4)],3⟩) (cG (α:=Nat)
  (fun k=>⟨aw [(1,.pt (aF p q f)),(4,.rs 1 0 n),(5,.rs 2 0 n),(43,I args),(44,I k)],bi [(1,.cells (bL ((List.replicate n (List.replicate 20 kK)).set 0 (js k))) 231),(2,.cells (((List.replicate n false).set 0 true).map B) 4)],3⟩)
  (fun k=>k<=args) (fun k=>args - k) 0 (bg ⟨rfl,rfl,rfl,congrArg I ha,rfl,trivial⟩ eH) oG ?_) ?_)
 .intro k hk;refine SS ?_;refine aa ⟨_,rfl,fun h=>?_,fun h=>?_⟩
  .have af:k<args:=by simpa using h
   have hi:((List.replicate n (List.replicate 20 kK)).set 0 (js k))[0]? =some (js k):=by simp[iW]
   have ki:=EA (i:=0) ki (Je k);have mZ:=mZ (w:=js k) (n:=(k:Int)) oS oG;refine ws ?_;refine ab ?_;refine aa (fY ?_);refine av ?_;refine au (df rfl rfl V.h V.h (BR oN oN)) ak (dg V.h V.h (uk oN oN)) ?_;refine SS ?_;refine cl mZ ?_;refine ab ?_;refine aa ?_;refine ab ?_;refine aa (aJ (k+1) (bg eH ⟨?_,rfl,trivial⟩) oG oG);show some (Row.cells (bL ((List.set _ 0 (js k)).set 0 (js (k+1)))) _)=_;rw[List.set_set]
  .have ba:¬ k<args:=by simpa using h
   have:k=args:=by omega
   subst this;exact aq eH
 clear ki;rintro s hg;refine⟨_,hg,aB (ax ?_)⟩;refine SS ?_;have u9:=ID (n:=n) tB;have hR:pj f.blocks args=rM f.blocks (tA (rN n args)+1) (rN n args):=by rw[pj,hn]
 generalize pj f.blocks args=R at hR ⊢
 refine aa (cN (fun s=>∃ n',Ghost prog s ⟨aw [(4,.rs 1 0 n),(5,.rs 2 0 n)],bi [(1,.cells (bL R.ws) 231),(2,.cells (R.re.map B) 4)],n'⟩/\ix n R) (Bj (α:=CS×Nat)
  (fun s=>⟨aw [(1,.pt (aF p q f)),(4,.rs 1 0 n),(5,.rs 2 0 n),(8,B s.1.ch)],bi [(1,.cells (bL s.1.ws) 231),(2,.cells (s.1.re.map B) 4)],s.2⟩)
  (fun s=>ix n s.1/\3<=s.2/\(s.1.ch=true->∃ k,tA s.1<k/\rM f.blocks k s.1=R)/\(s.1.ch=false->s.1=R)) (fun s=>2*tA s.1+if s.1.ch=true then 1 else 0) (rN n args,3)
  (bg eH eH) ⟨u9,aU _,fun _=>⟨_,Nat.lt_succ_self _,hR.symm⟩,fun h=>by cases h⟩ ?_) ?_)
 .rintro⟨C,N0⟩ ⟨uC,QR,oQ,zA⟩;dsimp only at uC QR oQ zA ⊢;refine SS ?_;refine aa ⟨_,rfl,fun h0=>?_,fun h=>?_⟩
  .obtain⟨jy,aeY,Ns⟩:=oQ h0;obtain⟨jy,rfl⟩:∃ j,jy=j+1:=⟨jy - 1,oG⟩
   have Nt:=Di hb uC;refine ws ?_;refine SS ?_;refine aa (ax ?_);refine aQ ?_
   refine aa (cG (α:=Nat×Nat)
    (fun k=>⟨aw [(1,.pt (aF p q f)),(4,.rs 1 0 n),(5,.rs 2 0 n),(8,B ((List.range k.1).foldl (gX f.blocks) ⟨C.ws,C.re,false⟩).ch),(58,dM f.blocks),(59,I n),(60,I k.1)],bi [(1,.cells (bL ((List.range k.1).foldl (gX f.blocks) ⟨C.ws,C.re,false⟩).ws) 231),(2,.cells (((List.range k.1).foldl (gX f.blocks) ⟨C.ws,C.re,false⟩).re.map B) 4)],k.2⟩)
    (fun k=>k.1<=n/\3<=k.2) (fun k=>n - k.1) (0,N0) (bg ⟨rfl,rfl,rfl,rfl,rfl,congrArg (fun k:Nat=>I k) hn,rfl,trivial⟩ eH) ⟨Nat.zero_le _,QR⟩ ?_)
   rintro⟨k,N⟩ ⟨hk,hN⟩;dsimp only at hk hN ⊢;have bz:=(AX (J:=ix n) (φ:=nr) (f:=gX f.blocks) (l:=List.range k) (fun k _ s hs=>J1 hb hs) (s:=⟨C.ws,C.re,false⟩) ⟨uC.lw,uC.lr,uC.iZ,uC.rg⟩).1;have cO:(List.range (k+1)).foldl (gX f.blocks) ⟨C.ws,C.re,false⟩=gX f.blocks ((List.range k).foldl (gX f.blocks) ⟨C.ws,C.re,false⟩) k:=by rw[List.range_succ,List.foldl_append];rfl
   have iJ:k=n->(List.range k).foldl (gX f.blocks) ⟨C.ws,C.re,false⟩=pY f.blocks C:=fun e=>by rw[e,pY,hn]
   generalize (List.range k).foldl (gX f.blocks) ⟨C.ws,C.re,false⟩=u at bz cO iJ;refine SS ?_;refine aa ⟨_,rfl,fun h=>?_,fun h=>?_⟩
   .have af:k<n:=by simpa using h
    have hx:f.blocks[k]? =some f.blocks[k]:=aK oG;have fW:f.blocks[k]∈f.blocks:=cZ _;generalize f.blocks[k]=x at hx fW;have eC:=hb x fW;have M:gX f.blocks u k=if u.re.getD k false=true then(nextR x.fin).foldl (fw x.fin (kX x (u.ws.getD k [])).1) u else u:=by rw[gX,hx]
    have lw:=bz.lw;have lr:=bz.lr;have iZ:=bz.iZ;have hw:u.ws[k]? =some u.ws[k]:=aK oG;have fV:u.re[k]? =some u.re[k]:=aK oG;rw[getD_some hw,getD_some fV] at M;have tC:=iZ _ (cZ (h:=by omega):u.ws[k]∈u.ws);generalize u.ws[k]=w at hw M tC;generalize u.re[k]=b at fV M;have kd:=fM (f:=B) fV;refine ws ?_;refine bC ?_;refine aa (aB (ai ?_));refine ab ?_;refine au (kv rfl rfl (al oG (al oG rfl)) V.h V.h) ak ⟨V.h,oG⟩ ?_;refine au (eD rfl (al oG (al oG rfl)) kd V.h) ak (eE V.h V.h kd) ?_;refine SS ?_;refine aa (c6 rfl (fun h=>jK (o9 ?_)) fun h=>cu (oV SC ?_))
    .have oK:b=false:=by simpa using h
     subst oK;have M:gX f.blocks u k=u:=M;refine ab ?_;refine aa (aJ (k+1,N+1) (bg ⟨rfl,rfl,rfl,?_,rfl,rfl,rfl,trivial⟩ ⟨?_,?_,trivial⟩) ⟨oM,oM⟩ oM)
     .dsimp only;rw[cO,M];rfl
     .dsimp only;rw[cO,M];exact al oG (al oG rfl)
     .dsimp only;rw[cO,M];exact al oG (al oG rfl)
    have fH:b=true:=by simpa using h
    subst fH;have M:gX f.blocks u k=(nextR x.fin).foldl (fw x.fin (kX x w).1) u:=M;have kJ:=kJ tC eC.len eC.ins eC.fin eC.rl eC.rf;have qL:=Dd x w;rw[tC] at qL;generalize uZ:kX x w=th at kJ qL M;obtain⟨w',HD⟩:=th;dsimp only at qL kJ M;clear kd;refine au (df (vs:=dt _) rfl (up_same _ _ _) V.h V.h rfl) ak (dg V.h V.h (by first|(simp;done)|omega|exact aP rfl)) ?_;refine ab ?_;refine au (ym rfl rfl (al oG (al oG (up_same _ _ _))) V.h V.h) ak ⟨V.h,oG⟩ ?_;refine au (df rfl (al oG (al oG (up_same _ _ _))) V.h V.h (BR oN oN)) ak (dg V.h V.h (uk oN oN)) ?_;refine cl kJ ?_;refine bC ?_;refine bE bP (aR (kq (l:=[(1,.pt (aF p q f)),(4,.rs 1 0 n),(5,.rs 2 0 n),(8,B u.ch),(10,.rp N 0),(11,.rp (N+1) 0),(58,dM f.blocks),(59,I n),(60,I k)]) (m':=up (up (bi [(1,.cells (bL u.ws) 231),(2,.cells (u.re.map B) 4)]) N (some (.cells (dt x) 72))) (N+1) (some (.cells (w'.map bM) 231))) eH (by rw[lv,lv])) (ax ?_));have qG:=qG (x:=x.fin);have qK:=LY (x:=x.fin) eC.fin.wh
    change PCall _ _ _ (ao (nextR x.fin)) at qK
    have dK:=eC.to;have jG:=xU x.fin;have HE:=eC.fin.wh;generalize nextR x.fin=l at qK M dK jG;refine au (oZ rfl (al oG (up_same _ _ _)) V.h) ak (mS V.h) ?_;refine au (df (vs:=bm _) rfl (al oG (up_same _ _ _)) V.h V.h rfl) ak (dg V.h V.h (by first|(simp;done)|omega|exact aP rfl)) ?_;refine cl qG ?_;refine cl qK ?_;refine ab ?_;have wT:gX f.blocks u k=l.foldl (fw x.fin w') u:=M
    refine aa (cG (α:=Nat×Nat)
     (fun j=>⟨aw [(1,.pt (aF p q f)),(4,.rs 1 0 n),(5,.rs 2 0 n),(8,B ((l.take j.1).foldl (fw x.fin w') u).ch),(10,.rp N 0),(11,.rp (N+1) 0),(58,dM f.blocks),(59,I n),(60,I k),(82,ao l),(83,I l.length),(84,I j.1)],up (up (bi [(1,.cells (bL ((l.take j.1).foldl (fw x.fin w') u).ws) 231),(2,.cells (((l.take j.1).foldl (fw x.fin w') u).re.map B) 4)]) N (some (.cells (dt x) 72))) (N+1) (some (.cells (w'.map bM) 231)),j.2⟩)
     (fun j=>j.1<=l.length/\N+2<=j.2) (fun j=>l.length - j.1) (0,N+2) (kq eH rfl) ⟨Nat.zero_le _,aU _⟩ ?_)
    rintro⟨j,N'⟩ ⟨hj,hN'⟩;dsimp only at hj hN' ⊢;have CT:=(AX (J:=ix n) (φ:=nr) (f:=fw x.fin w') (l:=l.take j) (fun t ht s hs=>IU hs (dK t (List.mem_of_mem_take ht))) bz).1;have X:∀ t,l[j]? =some t->(l.take (j+1)).foldl (fw x.fin w') u=fw x.fin w' ((l.take j).foldl (fw x.fin w') u) t:=fun t ht=>rG ht;have sw:j=l.length->(l.take j).foldl (fw x.fin w') u=gX f.blocks u k:=fun e=>by rw[wT,ez oG]
    generalize (l.take j).foldl (fw x.fin w') u=v at CT X sw;clear lw lr iZ hw fV;have lw:=CT.lw;have lr:=CT.lr;have iZ:=CT.iZ;refine SS ?_;refine aa ⟨_,rfl,fun h=>?_,fun h=>?_⟩
    .have dy:j<l.length:=by simpa using h
     have ht:l[j]? =some l[j]:=aK dy;have rB:=dK _ (cZ dy);generalize l[j]=t at ht rB;obtain⟨i,rfl⟩:=dd rB.1;have bc:i<n:=by omega
     have hw:v.ws[i]? =some v.ws[i]:=aK oG;have fV:v.re[i]? =some v.re[i]:=aK oG;have HF:=iZ _ (cZ (h:=by omega):v.ws[i]∈v.ws);generalize v.ws[i]=y at hw HF;generalize v.re[i]=b at fV;have kd:=fM (f:=B) fV;have sM:=sM (x:=x.fin) (b:=(i:Int)) (w:=w') qL (by have:=eC.fin.wh;omega) (by have:=eC.fin.wr;omega);have xu:=Jc x.fin i w';rw[qL] at xu;have B6:=B6 HF xu;have zO:=Jg y (gl x.fin i w');rw[HF] at zO;have yes:=Sb (x:=x.fin) (w:=w') hw fV;have no:=SB (x:=x.fin) (w:=w') hw fV;generalize jX y (gl x.fin i w')=z at B6 zO yes no;refine ws ?_;refine av ?_;refine aa (oV SD ?_);refine ab ?_;refine au (ym rfl rfl (al oG (al oG (up_same _ _ _))) V.h V.h) ak ⟨V.h,oG⟩ ?_;refine au (df rfl (al oG (al oG (up_same _ _ _))) V.h V.h (BR oN oN)) ak (dg V.h V.h (uk oN oN)) ?_;refine au (oZ rfl (al oG (up_same _ _ _)) V.h) ak (mS V.h) ?_;refine au (df (vs:=bm _) rfl (al oG (up_same _ _ _)) V.h V.h rfl) ak (dg V.h V.h (by first|(simp;done)|omega|exact aP rfl)) ?_;refine SS ?_;refine au (df rfl (up_same _ _ _) V.h V.h (jW (by first|rfl|exact aP rfl|(simp;done)|(simp;omega)|omega))) ak (dg V.h V.h (by first|rfl|exact aP rfl|(simp;done)|(simp;omega)|omega)) ?_;refine cl sM ?_;refine cl B6 ?_;refine ab ?_;refine bE bP (aR (kq (l:=[(1,.pt (aF p q f)),(4,.rs 1 0 n),(5,.rs 2 0 n),(8,B v.ch),(10,.rp N 0),(11,.rp (N+1) 0),(14,I i),(15,.rp N' 0),(58,dM f.blocks),(59,I n),(60,I k),(82,ao l),(83,I l.length),(84,I j)]) (m':=up (up (up (bi [(1,.cells (bL v.ws) 231),(2,.cells (v.re.map B) 4)]) N (some (.cells (dt x) 72))) (N+1) (some (.cells (w'.map bM) 231))) N' (some (.cells (z.map bM) 231))) eH (lv _ _ _ _)) (fK SE ?_));refine ab ?_;refine au (kv rfl rfl (al oG (al oG (al oG rfl))) V.h V.h) ak ⟨V.h,oG⟩ ?_;refine au (eD rfl (al oG (al oG (al oG rfl))) kd V.h) ak (eE V.h V.h kd) ?_;refine ab ?_;refine aT rfl rfl (df rfl (up_same _ _ _) V.h V.h (jW (by first|rfl|exact aP rfl|(simp;done)|(simp;omega)|omega))) (fun hc=>⟨ak,(dg V.h V.h (by first|rfl|exact aP rfl|(simp;done)|(simp;omega)|omega))⟩) ?_;refine ab ?_;refine aT rfl rfl (ym rfl rfl (al oG (al oG (al oG (up_same _ _ _)))) V.h V.h) (fun hc=>⟨ak,⟨V.h,oG⟩⟩) ?_;refine aT rfl rfl (df rfl (al oG (al oG (al oG (up_same _ _ _)))) V.h V.h (BR oN oN)) (fun hc=>⟨ak,(dg V.h V.h (uk oN oN))⟩) ?_;refine aT rfl rfl (X3 rfl rfl (by first|assumption|(simp;omega)|omega)) (fun hc=>⟨ak,(X4 (by first|assumption|(simp;omega)|omega))⟩) ?_;refine SS ?_;refine bE bP (aD rfl (fun h=>?_) fun h=>?_)
     .have yes:=yes (by
       cases b with
       |false=>exact .inl rfl
       |true=>exact .inr (by simpa using h))
      have X:=(X _ ht).trans yes;clear yes no;refine fY ?_;refine aI ?_;refine au (df rfl (up_same _ _ _) V.h V.h (jW (by first|rfl|exact aP rfl|(simp;done)|(simp;omega)|omega))) ak (dg V.h V.h (by first|rfl|exact aP rfl|(simp;done)|(simp;omega)|omega)) ?_;refine au (ym rfl rfl (al oG (al oG (al oG (up_same _ _ _)))) V.h V.h) ak ⟨V.h,oG⟩ ?_;refine bB (iE rfl rfl (al oG (al oG (al oG (up_same _ _ _)))) (MM oC oN oN (by first|assumption|(simp;omega)|(simp;done)))) ak (xY (by first|(simp;omega)|(simp;done)) (uk oN oN) (iM _)) ?_;refine au (kv rfl rfl (al oG (al oG (al oG (al oG rfl)))) V.h V.h) ak ⟨V.h,oG⟩ ?_;refine bB (dC (d:=.s (.bool _)) (cs':=_) rfl rfl (al oG (al oG (al oG (al oG rfl)))) rfl rfl) ak (cF V.h V.h (by first|(simp;done)|exact⟨rfl,aP rfl⟩|(simp;omega)) rfl) ?_;refine SS ?_;refine aa ?_;refine ab ?_
      refine aa (aJ (j+1,N'+1) (bg (ml:=[(N+1,.cells (w'.map bM) 231),(N,.cells (dt x) 72),(1,.cells (bL ((l.take (j+1)).foldl (fw x.fin w') u).ws) 231),(2,.cells (((l.take (j+1)).foldl (fw x.fin w') u).re.map B) 4)]) ⟨rfl,rfl,rfl,?_,rfl,rfl,rfl,rfl,rfl,rfl,rfl,rfl,trivial⟩
       ⟨al oG (al oG (al oG (up_same _ _ _))),al oG (al oG (al oG (al oG (up_same _ _ _)))),al oG ?_,?_,trivial⟩) ⟨oM,oM⟩ oM)
      .dsimp only;rw[X];rfl
      .rw[X];exact up_same _ _ _
      .rw[X];dsimp only;rw[List.map_set];exact up_same _ _ _
     .have no:=no (by
       cases b with
       |false=>simp at h
       |true=>simpa using h)
      have X:=(X _ ht).trans no;refine cI ?_;refine ab ?_
      refine aa (aJ (j+1,N'+1) (bg (ml:=[(N+1,.cells (w'.map bM) 231),(N,.cells (dt x) 72),(1,.cells (bL ((l.take (j+1)).foldl (fw x.fin w') u).ws) 231),(2,.cells (((l.take (j+1)).foldl (fw x.fin w') u).re.map B) 4)]) ⟨rfl,rfl,rfl,?_,rfl,rfl,rfl,rfl,rfl,rfl,rfl,rfl,trivial⟩
       ⟨al oG (up_same _ _ _),al oG (al oG (up_same _ _ _)),?_,?_,trivial⟩) ⟨oM,oM⟩ oM)
      .dsimp only;rw[X];rfl
      .rw[X];exact al oG (al oG (al oG rfl))
      .rw[X];exact al oG (al oG (al oG rfl))
    .have ba:¬ j<l.length:=by simpa using h
     have vl:=sw oG;subst vl;show AOps _ _ _ _ _ _ _ _ _;refine ab ?_;refine aa (aJ (k+1,N') (bg ⟨rfl,rfl,rfl,?_,rfl,rfl,rfl,trivial⟩ ⟨?_,?_,trivial⟩) ⟨oM,oM⟩ oM)
     .dsimp only;rw[cO];rfl
     .dsimp only;rw[cO];exact al oG (al oG rfl)
     .dsimp only;rw[cO];exact al oG (al oG rfl)
   .have ba:¬ k<n:=by simpa using h
    have hl:=iJ oG;subst hl;refine aJ (pY f.blocks C,N) (bg eH eH) ⟨bz,hN,fun hc=>?_,fun hc=>?_⟩ ?_
    .refine⟨jy,?_,?_⟩
     .have:=Nt.2;unfold nr at this;show tA (pY f.blocks C)<jy;rw[if_pos hc] at this;omega
     .dsimp only at hc ⊢;rw[<- Ns,rM,if_pos hc]
    .dsimp only at hc ⊢;rw[<- Ns,rM,if_neg (by simp[hc])]
    .have:=Nt.2;unfold nr at this;dsimp only;rw[if_pos h0];split at this<;>rename_i hc
     .rw[if_pos hc];omega
     .rw[if_neg hc];omega
  .have Ag:=zA h;subst Ag;exact⟨N0,bg eH eH,uC⟩
 .rintro s ⟨n',hg,Gp⟩;refine⟨_,hg,ax ?_⟩;refine aI ?_;refine aa (aR (cE [(1,bL R.ws,231),(2,R.re.map B,4)] ⟨rfl,VC oG rfl .map,trivial⟩ (l:=[(2,.sl (bL R.ws) n),(3,.sl (R.re.map B) n)]) ⟨?_,?_,trivial⟩) (iH rfl rfl rfl))
  .show sub (fz0 2 (R.re.map B) (prog.cellsOf 4)) (sub (fz0 1 (bL R.ws) (prog.cellsOf 231)) (D.rs 1 0 n))=_;rw[nA (by rw[od,DG Gp.iZ,Gp.lw]),Wu]
  .show sub (fz0 2 (R.re.map B) (prog.cellsOf 4)) (sub (fz0 1 (bL R.ws) (prog.cellsOf 231)) (D.rs 2 0 n))=_;rw[AV oG,nA (by rw[c4,List.length_map,Gp.lr,Nat.mul_one])]
end Go.Proofs.Tryz.K
namespace Go.Abs
def jc(r:Nat)(l:List D):D:=match l with
 |[]=>.z
 |_=>.rs r 0 l.length
theorem nZ{r:Nat}{l:List D}(h:l≠[]):jc r l=.rs r 0 l.length:=by cases l with
 |nil=>exact absurd rfl h
 |cons=>rfl
def l5(ρ:Nat->Nat)(L:Nat->List D)(n:Nat):List D:=(List.range n).map fun i=>jc (ρ i) (L i)
@[simp] theorem aeL (ρ : Nat -> Nat) (L : Nat -> List D) (n : Nat) : (l5 ρ L n).length = n := by simp [l5]
theorem J2{ρ:Nat->Nat}{L:Nat->List D}{n i:Nat}(hi:i<n):∃ cs,(l5 ρ L n).drop i=jc (ρ i) (L i)::cs:=
 ⟨_,fM (f:=fun i=>jc (ρ i) (L i)) (by simp[hi])⟩
theorem DE{α:Type}{F:Nat->α}{n i:Nat}{x:α}:((List.range n).map F).set i x=(List.range n).map (up F i x):=by
 apply List.ext_getElem?;intro k;rw[List.getElem?_set];simp only[List.length_map,List.length_range,List.getElem?_map];split
 .rename_i e;subst e;split
  .rename_i h;simp[h,up_same]
  .rename_i h;simp[h]
 .rename_i e;by_cases hk:k<n
  .simp[hk,up_ne F x (Ne.symm e)]
  .simp[hk]
theorem VE{ρ:Nat->Nat}{L:Nat->List D}{n i r:Nat}{l:List D}(hl:l≠[]):(l5 ρ L n).set i (.rs r 0 l.length)=l5 (up ρ i r) (up L i l) n:=by
 unfold l5;rw[DE];refine congrArg (fun F=>(List.range n).map F) (funext fun k=>?_);simp only[up];split
 .rw[nZ hl]
 .rfl
structure fq(m:Mem)(nx j n:Nat)(e et:TypeId)(ρ:Nat->Nat)(L:Nat->List D):Prop where
 row:m j=some (.cells (l5 ρ L n) e)
 rC:j<nx
 sP:∀ i,i<n->L i≠[]->m (ρ i)=some (.cells (L i) et)
 lt:∀ i,i<n->L i≠[]->ρ i<nx
 ne:∀ i,i<n->L i≠[]->ρ i≠j
 inj:∀ i k,i<n->k<n->L i≠[]->L k≠[]->ρ i=ρ k->i=k
theorem fq.ext{m m':Mem}{nx nx' j n:Nat}{e et:TypeId}{ρ:Nat->Nat}{L:Nat->List D}(h:fq m nx j n e et ρ L)(hm:∀ q,q<nx->m' q=m q)(hn:nx<=nx'):fq m' nx' j n e et ρ L:=
 ⟨(hm j h.rC).trans h.row,Nat.lt_of_lt_of_le h.rC hn,fun i hi hl=>(hm _ (h.lt i hi hl)).trans (h.sP i hi hl),fun i hi hl=>Nat.lt_of_lt_of_le (h.lt i hi hl) hn,h.ne,h.inj⟩
theorem fq.iC{m m':Mem}{nx nx' j n i r:Nat}{e et:TypeId}{ρ:Nat->Nat}{L:Nat->List D}{l:List D}(h:fq m nx j n e et ρ L)(hi:i<n)(hl:l≠[])(hr:nx<=r)(gw:r<nx')
 (hj:m' j=some (.cells ((l5 ρ L n).set i (.rs r 0 l.length)) e)) (aj:m' r=some (.cells l et)) (hk:∀ q,q<nx->q≠j->(L i≠[]->q≠ρ i)->m' q=m q):fq m' nx' j n e et (up ρ i r) (up L i l):=by
 have dy:=h.rC
 have rD:∀ k,k<n->k≠i->L k≠[]->m' (ρ k)=some (.cells (L k) et):=fun k M J C=>
  (hk _ (h.lt k M C) (h.ne k M C) fun zp e=>J (h.inj k i M hi C zp e)).trans (h.sP k M C)
 refine⟨by rw[hj,VE hl],oG,fun k M C=>?_,fun k M C=>?_,fun k M C=>?_,fun a b ha hb vd ke X=>?_⟩
 .by_cases J:k=i
  .subst J;rw[up_same,up_same];exact aj
  .rw[up_ne _ _ J] at C ⊢;rw[up_ne _ _ J];exact rD k M J C
 .by_cases J:k=i
  .subst J;rw[up_same];exact gw
  .rw[up_ne _ _ J] at C ⊢;have:=h.lt k M C;omega
 .by_cases J:k=i
  .subst J;rw[up_same];omega
  .rw[up_ne _ _ J] at C ⊢;exact h.ne k M C
 .by_cases eX:a=i
  .by_cases rE:b=i
   .omega
   .subst eX;rw[up_same,up_ne _ _ rE] at X;rw[up_ne _ _ rE] at ke;have:=h.lt b hb ke;omega
  .by_cases rE:b=i
   .subst rE;rw[up_same,up_ne _ _ eX] at X;rw[up_ne _ _ eX] at vd;have:=h.lt a ha vd;omega
   .rw[up_ne _ _ eX] at vd X;rw[up_ne _ _ rE] at ke X;exact h.inj a b ha hb vd ke X
theorem J3{m:Mem}{nx j n:Nat}{e et:TypeId}{ρ:Nat->Nat}(hj:j<nx)(hm:m j=some (.cells (List.replicate n .z) e)):fq m nx j n e et ρ (fun _=>[]):=by
 refine⟨?_,hj,fun _ _ h=>absurd rfl h,fun _ _ h=>absurd rfl h,fun _ _ h=>absurd rfl h,fun _ _ _ _ h=>absurd rfl h⟩;rw[hm];congr 2;unfold l5 jc;rw[List.map_const',List.length_range]
theorem yo(n:Nat):replD n [.z]=List.replicate n D.z:=by
 unfold replD
 induction n with
 |zero=>rfl
 |succ n ih=>rw[List.replicate_succ,List.replicate_succ,List.flatten_cons,ih];rfl
def jt(X:Nat->Prop)(d:D):Prop:=∀ i cs sz,X i->sub (fz0 i cs sz) d=d
def jP(X:Nat->Prop)(r:Row):Prop:=∀ i cs sz,X i->Row.sub (fz0 i cs sz) r=r
theorem jt.s{X:Nat->Prop}(v:Value):jt X (.s v):=fun _ _ _ _=>rfl
theorem jt.sl{X:Nat->Prop}(es:List D)(n:Nat):jt X (.sl es n):=fun _ _ _ _=>rfl
theorem jt.z{X:Nat->Prop}:jt X .z:=fun _ _ _ _=>rfl
theorem jt.u{X:Nat->Prop}:jt X .u:=fun _ _ _ _=>rfl
theorem jt.rs{X:Nat->Prop}{j off n:Nat}(h:¬ X j):jt X (.rs j off n):=fun i cs sz hi=>AV fun e=>h (e▸hi)
theorem jt.rp{X:Nat->Prop}{j off:Nat}(h:¬ X j):jt X (.rp j off):=fun i cs sz hi=>by
 show(if j=i then _ else D.rp j off)=_;exact if_neg fun(e:j=i)=>h (e▸hi)
theorem jP.cells{X:Nat->Prop}{cs:List D}{e:TypeId}(h:∀ d∈cs,jt X d):jP X (.cells cs e):=fun i C sz hi=>by
 show Row.cells (cs.map _) e=_;congr 1
 induction cs with
 |nil=>rfl
 |cons d cs ih=>rw[List.map_cons,h d oS i C sz hi,ih fun d hd=>h d (by simp[hd])]
theorem jP.Pb{X:Nat->Prop}{cs:List D}{e:TypeId}(h:sN cs):jP X (.cells cs e):=jP.cells fun d hd=>by obtain⟨v,rfl⟩:=h d hd;exact .s v
theorem Bn(d:D):Wk d d:=fun _ _ _ _ h=>h
theorem O0:Wk .z (.sl [] 0):=fun F β w v hv=>by
 obtain⟨x,rfl⟩:=hv.z_inv;exact .sln x 0
theorem SF{X:Nat->Prop}{l:List (Nat×D)}(h:∀ x∈l,jt X x.2)(t:Nat):jt X (aw l t):=by
 induction l with
 |nil=>exact .u
 |cons x l ih=>
  obtain⟨k,d⟩:=x;simp only[aw];split
  .exact h (k,d) oS
  .exact ih fun y hy=>h y (by simp[hy])
theorem SG{X:Nat->Prop}{l:List (Nat×Row)}(h:∀ x∈l,jP X x.2){q:Nat}{r:Row}(hq:bi l q=some r):jP X r:=by
 induction l with
 |nil=>simp[bi] at hq
 |cons x l ih=>
  obtain⟨k,d⟩:=x;simp only[bi] at hq;split at hq
  .cases hq;exact h (k,r) oS
  .exact ih (fun y hy=>h y (by simp[hy])) hq
theorem Tv{l:List (Nat×Row)}{q:Nat}(h:∀ x∈l,x.1≠q):bi l q=none:=by
 induction l with
 |nil=>rfl
 |cons x l ih=>
  obtain⟨k,d⟩:=x;simp only[bi];rw[if_neg fun e=>h (k,d) oS e.symm];exact ih fun y hy=>h y (by simp[hy])
section
variable{P:Program}
open Classical in
noncomputable def hD(ml:List (Nat×Row))(j n k:Nat)(e et:TypeId)(ρ:Nat->Nat)(L:Nat->List D):Mem:=fun q=>
 if q=j then some (.cells ((List.range n).map fun i=>if i<k then .sl (L i) (L i).length else jc (ρ i) (L i)) e)
 else if h:∃ i,k<=i/\i<n/\L i≠[]/\ρ i=q then some (.cells (L (Classical.choose h)) et)
 else bi ml q
theorem UB{m:Mem}{nx j n k:Nat}{e et:TypeId}{ρ:Nat->Nat}{L:Nat->List D}{l:List (Nat×D)}{ml:List (Nat×Row)}{X:Nat->Prop}(h:fq m nx j n e et ρ L)(hs:∀ i,sN (L i))(het:P.cellsOf et=1)
 (J:∀ i,i<n->L i≠[]->X (ρ i)) (tD:¬ X j) (hl:∀ x∈l,jt X x.2) (j9:∀ x∈ml,jP X x.2/\¬ X x.1) (hk:k<n):
 Ghost P ⟨aw l,hD ml j n k e et ρ L,nx⟩ ⟨aw l,hD ml j n (k+1) e et ρ L,nx⟩:=by
 by_cases C:L k=[]
 .refine .weak _ _ _ _ _ (fun t=>Bn _) fun q=>?_;by_cases hq:q=j
  .subst hq;right;refine⟨_,_,e,by simp only[hD,if_true];rfl,by simp only[hD,if_true];rfl,oS,fun i d d' hd kO=>?_⟩;simp only[List.getElem?_map,bY] at hd kO;obtain⟨a,ha,rfl⟩:=hd;obtain⟨b,hb,rfl⟩:=kO;rw[ha] at hb;cases hb;by_cases h1:a<k
   .rw[if_pos h1,if_pos oG];exact Bn _
   .rw[if_neg h1];by_cases h2:a=k
    .subst h2;rw[if_pos oG,C];exact O0
    .rw[if_neg oG];exact Bn _
  .left;simp only[hD,if_neg hq]
   have:(∃ i,k+1<=i/\i<n/\L i≠[]/\ρ i=q)↔(∃ i,k<=i/\i<n/\L i≠[]/\ρ i=q):=by
    constructor
    .rintro⟨i,h1,h2⟩;exact⟨i,oG,h2⟩
    .rintro⟨i,h1,h2,h3,h4⟩
     exact⟨i,by
      rcases Nat.lt_or_ge k i with g|g
      .exact g
      .have:i=k:=by omega
       subst this;exact absurd C h3,h2,h3,h4⟩
   by_cases hc:∃ i,k<=i/\i<n/\L i≠[]/\ρ i=q
   .rw[dif_pos (this.2 hc),dif_pos hc];have e1:=Classical.choose_spec hc;have e2:=Classical.choose_spec (this.2 hc);have:Classical.choose (this.2 hc)=Classical.choose hc:=h.inj _ _ e2.2.1 e1.2.1 e2.2.2.1 e1.2.2.1 (e2.2.2.2.trans e1.2.2.2.symm);rw[this]
   .rw[dif_neg (fun h=>hc (this.1 h)),dif_neg hc]
 .have QS:ρ k≠j:=h.ne k hk C
  have aj:hD ml j n k e et ρ L (ρ k)=some (.cells (L k) et):=by
   have hc:∃ i,k<=i/\i<n/\L i≠[]/\ρ i=ρ k:=⟨k,aU _,hk,C,rfl⟩
   simp only[hD,if_neg QS,dif_pos hc];have e1:=Classical.choose_spec hc;have:Classical.choose hc=k:=h.inj _ _ e1.2.1 hk e1.2.2.1 C e1.2.2.2;rw[this]
  have hg:=Ghost.freeze (P:=P) (aw l) (hD ml j n k e et ρ L) nx (ρ k) (L k) et aj;have e1:(fun t=>sub (fz0 (ρ k) (L k) (P.cellsOf et)) (aw l t))=aw l:=funext fun t=>SF hl t _ _ _ (J k hk C)
  have e2:(fun q=>if q=ρ k then none else(hD ml j n k e et ρ L q).map (Row.sub (fz0 (ρ k) (L k) (P.cellsOf et))))=hD ml j n (k+1) e et ρ L:=by
   funext q;by_cases M:q=ρ k
   .subst M;rw[if_pos rfl]
    have hc:¬ ∃ i,k+1<=i/\i<n/\L i≠[]/\ρ i=ρ k:=by
     rintro⟨i,g1,g2,g3,g4⟩;have:=h.inj _ _ g2 hk g3 C g4;omega
    simp only[hD,if_neg QS,dif_neg hc];exact(Tv fun x hx e=>(j9 x hx).2 (e▸J k hk C)).symm
   .rw[if_neg M];by_cases tE:q=j
    .subst tE;simp only[hD,if_true,Option.map_some];congr 1;show Row.cells (List.map _ (List.map _ _)) e=_;rw[List.map_map];congr 1;refine List.map_congr_left fun i hi=>?_;have bc:i<n:=by simpa using hi
     simp only[Function.comp_apply];by_cases h1:i<k
     .rw[if_pos h1,if_pos oG];rfl
     .rw[if_neg h1];by_cases h2:i=k
      .subst h2;rw[if_pos oG,nZ C,het];exact nA oG
      .rw[if_neg oG];by_cases h3:L i=[]
       .rw[h3];rfl
       .rw[nZ h3];exact AV fun e=>h2 (h.inj _ _ bc hk h3 C e)
    .simp only[hD,if_neg tE]
     have this:(∃ i,k+1<=i/\i<n/\L i≠[]/\ρ i=q)↔(∃ i,k<=i/\i<n/\L i≠[]/\ρ i=q):=by
      constructor
      .rintro⟨i,h1,h2⟩;exact⟨i,oG,h2⟩
      .rintro⟨i,h1,h2,h3,h4⟩
       exact⟨i,by
        rcases Nat.lt_or_ge k i with g|g
        .exact g
        .have:i=k:=by omega
         subst this;exact absurd h4.symm M,h2,h3,h4⟩
     by_cases hc:∃ i,k<=i/\i<n/\L i≠[]/\ρ i=q
     .rw[dif_pos (this.2 hc),dif_pos hc];have e1:=Classical.choose_spec hc;have e2:=Classical.choose_spec (this.2 hc);have:Classical.choose (this.2 hc)=Classical.choose hc:=h.inj _ _ e2.2.1 e1.2.1 e2.2.2.1 e1.2.2.1 (e2.2.2.2.trans e1.2.2.2.symm);rw[this];exact congrArg some (jP.Pb (X:=X) (hs _) _ _ _ (J k hk C))
     .rw[dif_neg (fun h=>hc (this.1 h)),dif_neg hc];cases hm:bi ml q with
      |none=>rfl
      |some r=>exact congrArg some (SG (fun x hx=>(j9 x hx).1) hm _ _ _ (J k hk C))
  rw[e1,e2] at hg;exact hg
theorem Jh{env:Env}{m:Mem}{nx j n:Nat}{e et:TypeId}{ρ:Nat->Nat}{L:Nat->List D}{l:List (Nat×D)}{ml:List (Nat×Row)}(X:Nat->Prop)(h:fq m nx j n e et ρ L)(hs:∀ i,sN (L i))(C:P.cellsOf et=1)
 (J:∀ i,i<n->L i≠[]->X (ρ i)) (tD:¬ X j) (he:gU l env) (hl:∀ x∈l,jt X x.2) (hm:yV ml m) (M:∀ x∈ml,jP X x.2/\¬ X x.1):
 Ghost P ⟨env,m,nx⟩ ⟨aw l,bi ((j,.cells ((List.range n).map fun i=>.sl (L i) (L i).length) e)::ml),nx⟩:=by
 have key:∀ k,k<=n->Ghost P ⟨aw l,hD ml j n 0 e et ρ L,nx⟩ ⟨aw l,hD ml j n k e et ρ L,nx⟩:=fun k=>by
  induction k with
  |zero=>exact fun _=>.refl _
  |succ k ih=>exact fun hk=>(ih oG).trans (UB h hs C J tD hl M oG)
 have h0:Ghost P ⟨env,m,nx⟩ ⟨aw l,hD ml j n 0 e et ρ L,nx⟩:=by
  refine(Ghost.forget env _ m nx (kY he)).trans (.drop _ _ _ _ fun q=>?_);by_cases hq:q=j
  .subst hq;left;simp only[hD,if_true,Nat.not_lt_zero,if_false];exact h.row.symm
  .simp only[hD,if_neg hq];by_cases hc:∃ i,0<=i/\i<n/\L i≠[]/\ρ i=q
   .rw[dif_pos hc];have e1:=Classical.choose_spec hc;left;have:=h.sP _ e1.2.1 e1.2.2.1;rw[e1.2.2.2] at this;exact this.symm
   .rw[dif_neg hc];exact Er hm q
 refine h0.trans ((key n (aU _)).trans (.drop _ _ _ _ fun q=>.inl ?_));by_cases hq:q=j
 .subst hq;simp only[bi,hD,if_true];congr 2;exact List.map_congr_left fun i hi=>by rw[if_pos (by simpa using hi)]
 .simp only[bi,if_neg hq,hD];rw[dif_neg];rintro⟨i,g1,g2,_⟩;omega
end
section
variable{P:Program}{env:Env}{m:Mem}{nx:Nat}{x y:Operand}{t e:TypeId}{k:IntKind}
theorem UC{w:List Int}{rest:List D}{sz:Nat}(h:w.length=sz):(w.map bM++rest).take sz=w.map bM:=by
 rw[List.take_append_of_le_length (by simp[h]),ez (by simp[h])]
theorem Wv{sz n i:Nat}{l:List (List Int)}{w:List Int}(hx:(opd env x).core=.sl (bL l) n)(hy:(opd env y).core=.s (.int k i))(he:elemP P t=e)(hs:P.cellsOf e=sz)(hl:∀ w∈l,w.length=sz)(C:l[i]? =some w):
 Ef P (.indexAddr t x y) env m nx ⟨slT P t=true/\0<=(i:Int)/\(i:Int)<n/\((i:Int).toNat+1)*sz<=(bL l).length,.pt (w.map bM++bL (l.drop (i+1))),[],[],0⟩:=
 Fi hx hy he hs (by rw[b9];exact Ey hl C)
theorem Ww{sz n i:Nat}{l:List (List Int)}{w:List Int}(ht:slT P t=true)(hl:∀ w∈l,w.length=sz)(C:l[i]? =some w)(hn:i<n):slT P t=true/\0<=(i:Int)/\(i:Int)<n/\((i:Int).toNat+1)*sz<=(bL l).length:=by
 have:=uk hl C;refine⟨ht,oG,oG,?_⟩;rw[b9,Nat.add_mul,Nat.one_mul];exact this
theorem o5{i:Nat}{cs:List D}{l:List (Nat×D)}(hm:m i=some (.cells cs e))(hl:gU l fun t=>sub (fz0 i cs (P.cellsOf e)) (env t)):Ghost P ⟨env,m,nx⟩ ⟨aw l,fun _=>none,nx⟩:=
 cE [(i,cs,e)] ⟨hm,trivial⟩ hl
theorem eN{l:List (Nat×D)}(hl:gU l env):Ghost P ⟨env,m,nx⟩ ⟨aw l,fun _=>none,nx⟩:=A7 hl fun _=>.inr rfl
end
section
variable{P:Program}{env:Env}{m:Mem}{nx:Nat}{x y:Operand}{t e:TypeId}{k:IntKind}
theorem JR{α:Type}{f:α->D}{l:List α}{b:Int}(hx:(opd env x).core=.sl (l.map f) l.length)(he:elemP P t=e)(hs:P.cellsOf e=1)(hb:(opd env y).core=.s (.int .i64 b))(hc:slT P t=true)(C:0<=b/\b<=l.length):
 Ef P (.slice t x none (some y) none) env m nx ⟨True,.sl ((l.take b.toNat).map f) (l.take b.toNat).length,[],[],0⟩:=by
 have h:=Bg (P:=P) (env:=env) (m:=m) (nx:=nx) (t:=t) (lo:=none) (hi:=some y) (a:=0) (b:=b) (es':=(l.take b.toNat).map f) hx he hs (by simp[bndD]) (by simp[bndD,hb,D.int?]) (by simp[List.map_take])
 have h2:(slT P t=true/\(0:Int)<=0/\(0:Int)<=b/\b<=(l.length:Int))=True:=by
  apply propext;constructor
  .exact fun _=>trivial
  .exact fun _=>⟨hc,oG,C.1,C.2⟩
 have h3:(b - 0).toNat=(l.take b.toNat).length:=by rw[List.length_take];omega
 rw[h2,h3] at h;exact h
theorem J5{i j sz:Nat}{C:List D}{r:Row}(J:j≠i)(hm:m j=some r)(h:Row.sub (fz0 i C sz) r=r):(if j=i then none else(m j).map (Row.sub (fz0 i C sz)))=some r:=by
 rw[if_neg J,hm];exact congrArg some h
theorem oX{i:Nat}{cs:List D}{l:List (Nat×D)}{ml:List (Nat×Row)}(hm:m i=some (.cells cs e))(hl:gU l fun t=>sub (fz0 i cs (P.cellsOf e)) (env t))(C:yV ml fun j=>if j=i then none else(m j).map (Row.sub (fz0 i cs (P.cellsOf e)))):Ghost P ⟨env,m,nx⟩ ⟨aw l,bi ml,nx⟩:=
 (Ghost.freeze env m nx i cs e hm).trans (bg hl C)
end
end Go.Abs
namespace Go.Argus
open Go.Proofs.Tryz.K (nextR)
def dT(b:Nat)(L:Nat->List Int)(t:Int):Nat->List Int:=up L t.toNat (L t.toNat++[(b:Int)])
def qh(bs:List ca)(L:Nat->List Int)(b:Nat):Nat->List Int:=match bs[b]? with
 |none=>L
 |some x=>(nextR x.fin).foldl (dT b) L
def bw(bs:List ca)(k:Nat):Nat->List Int:=(List.range k).foldl (qh bs) fun _=>[]
def bu(bs:List ca):List (List Int):=(List.range bs.length).map (bw bs bs.length)
def bR(L:List (List Int)):D:=.sl (L.map ao) L.length
theorem yc(L:List (List Int)):Tr (bR L):=.sl (.map fun _=>cH _)
theorem D7{F:Nat->List Int}{n:Nat}:(D.sl ((List.range n).map fun i=>.sl ((F i).map I) ((F i).map I).length) n)=bR ((List.range n).map F):=by
 unfold bR;rw[List.map_map,List.length_map,List.length_range];congr 1;exact List.map_congr_left fun i _=>by simp[ao]
theorem Dx{b:Nat}{L:Nat->List Int}{t:Int}{c:Nat}(h:∀ i,(L i).length<=c):∀ i,(dT b L t i).length<=c+1:=fun i=>by
 unfold dT;simp only[up];split
 .have:=h t.toNat;simp;omega
 .have:=h i;omega
theorem LZ{L:Nat->List Int}{k:Nat}{l:List Int}:(fun i=>(up L k l i).map I)=up (fun i=>(L i).map I) k (l.map I):=by
 funext i;simp only[up];split<;>rfl
theorem mz{P:Nat->Bool}{n k:Nat}(hk:k<n)(h:P k=false):(List.range n).all P=false:=by
 refine Bool.eq_false_iff.2 fun ht=>?_;have:=bh.1 ht k (by simpa using hk);rw[h] at this;cases this
theorem pU{P:Nat->Bool}{k:Nat}(h:(List.range k).all P=true)(hk:P k=true):(List.range (k+1)).all P=true:=by
 rw[List.range_succ,List.all_append,h];simp[hk]
abbrev dk(l:List Bool):D:=.sl (l.map B) l.length
def lX:ca:=⟨[],⟨0,0,0,0,0,.empty,qj,[],[],0⟩⟩
def rT(bs:List ca)(s:CS)(b:Nat)(y:bN)(i:Nat):Bool:=
 let p:=((bw bs bs.length b).getD i 0).toNat
 !(s.re.getD p false)||mX (gl (bs.getD p lX).fin b (kX (bs.getD p lX) (s.ws.getD p [])).1) (y.args.getD i 0).toNat
def wF(bs:List ca)(s:CS)(b:Nat)(y:bN):Bool:=(List.range (bw bs bs.length b).length).all (rT bs s b y)
def fC(y:bN):Bool:=y.op==19
def pZ(bs:List ca)(s:CS)(b:Nat):Bool:=
 !(s.re.getD b false)||((kX (bs.getD b lX) (s.ws.getD b [])).2&&((bs.getD b lX).ins.takeWhile fC).all (wF bs s b))
def vG(bs:List ca)(args:Nat):Bool:=(List.range bs.length).all (pZ bs (pj bs args))
theorem takeWhile_eq{α:Type}{p:α->Bool}{l:List α}{j:Nat}(h:∀ y∈l.take j,p y=true)(h':∀ y,l[j]? =some y->p y=false):l.takeWhile p=l.take j:=by
 induction l generalizing j with
 |nil=>simp
 |cons a l ih=>cases j with
  |zero=>have:=h' a rfl;simp[this]
  |succ j=>
   have ha:=h a oS;rw[List.takeWhile_cons,if_pos ha,List.take_succ_cons,ih (j:=j) (fun y hy=>h y (by simp[hy])) (fun y hy=>h' y (by simpa using hy))]
theorem IV{b:Nat}{p:Int}:∀ {l:List Int} {L:Nat->List Int} {i:Nat},p∈(l.foldl (dT b) L) i↔p∈L i\/(p=b/\∃ t∈l,t.toNat=i)
 |[],L,i=>by simp
 |t::l,L,i=>by
  rw[List.foldl_cons,IV (l:=l)];unfold dT;simp only[up];by_cases h:i=t.toNat
  .subst h;simp only[if_true,List.mem_append,List.mem_singleton];constructor
   .rintro((h|h)|⟨h,u,h1,h2⟩)
    .exact .inl h
    .exact .inr ⟨h,t,oS,rfl⟩
    .exact .inr ⟨h,u,by simp[h1],h2⟩
   .rintro(h|⟨h,u,h1,h2⟩)
    .exact .inl (.inl h)
    .exact .inl (.inr h)
  .rw[if_neg h];constructor
   .rintro(h'|⟨h',u,h1,h2⟩)
    .exact .inl h'
    .exact .inr ⟨h',u,by simp[h1],h2⟩
   .rintro(h'|⟨h',u,h1,h2⟩)
    .exact .inl h'
    .rcases List.mem_cons.1 h1 with e|e
     .subst e;exact absurd h2.symm h
     .exact .inr ⟨h',u,e,h2⟩
theorem Dy{bs:List ca}{p:Int}{i:Nat}:∀ {k:Nat},p∈bw bs k i↔∃ b:Nat,p=b/\b<k/\∃ x,bs[b]? =some x/\∃ t∈nextR x.fin,t.toNat=i
 |0=>by simp[bw]
 |k+1=>by
  have ih:=Dy (bs:=bs) (p:=p) (i:=i) (k:=k);have e:bw bs (k+1)=qh bs (bw bs k) k:=by rw[bw,List.range_succ,List.foldl_append];rfl
  rw[e,qh];cases hx:bs[k]? with
  |none=>
   simp only;rw[ih];constructor
   .rintro⟨b,h1,h2,h3⟩;exact⟨b,h1,oG,h3⟩
   .rintro⟨b,h1,h2,x,h3,h4⟩;refine⟨b,h1,?_,x,h3,h4⟩;rcases Nat.lt_or_ge b k with g|g
    .exact g
    .have:b=k:=by omega
     subst this;rw[hx] at h3;cases h3
  |some x=>
   simp only;rw[IV,ih];constructor
   .rintro(⟨b,h1,h2,h3⟩|⟨h1,h2⟩)
    .exact⟨b,h1,oG,h3⟩
    .exact⟨k,h1,oG,x,hx,h2⟩
   .rintro⟨b,h1,h2,C,h3,h4⟩;rcases Nat.lt_or_ge b k with g|g
    .exact .inl ⟨b,h1,g,C,h3,h4⟩
    .have:b=k:=by omega
     subst this;rw[hx] at h3;cases h3;exact .inr ⟨h1,h4⟩
theorem IE{bs:List ca}{n:Nat}(hb:∀ b∈bs,sv n b):∀ (k:Nat) {s:CS},ix n s->ix n (rM bs k s)
 |0,_,h=>h
 |k+1,s,h=>by
  rw[rM];split
  .exact IE hb k (Di hb h).1
  .exact(Di hb h).1
theorem UD{bs:List ca}{args:Nat}(hb:∀ b∈bs,sv bs.length b)(C:∀ u∈js args,eU u):ix bs.length (pj bs args):=IE hb _ (ID C)
theorem Ji{b:Nat}:∀ {l:List Int} {L:Nat->List Int} {c:Nat},(∀ i,(L i).length<=c)->∀ i,((l.foldl (dT b) L) i).length<=c+l.length
 |[],_,_,h,i=>h i
 |t::l,L,c,h,i=>by
  have:=Ji (b:=b) (l:=l) (Dx (t:=t) (b:=b) h) i;rw[List.foldl_cons,List.length_cons];omega
theorem Dz{bs:List ca}(C:∀ b∈bs,b.fin.aE.length<=9):∀ (k i:Nat),(bw bs k i).length<=12*k
 |0,_=>by simp[bw]
 |k+1,i=>by
  have ih:=Dz C k;have e:bw bs (k+1)=qh bs (bw bs k) k:=by rw[bw,List.range_succ,List.foldl_append];rfl
  rw[e,qh];cases hx:bs[k]? with
  |none=>have:=ih i;simp only;omega
  |some x=>
   have h1:=Ji (l:=nextR x.fin) (b:=k) ih i;have h2:=xU x.fin;have h3:=C x (bJ hx);simp only;omega
theorem DA{bs:List ca}{n k:Nat}(hn:bs.length=n)(hk:k<n):(bu bs)[k]? =some (bw bs n k):=by
 subst hn;simp[bu,hk]
def vH(f:aC):Bool:=decide (f.result=1)||(decide (f.result=2)||(decide (f.result=0)&& !f.iter))
def vQ(f:aC):Bool:=
 uf f.name&&(gE f.args 0 (if(f.aL.length:Int)<6 then(f.aL.length:Int) else 6)&&(vH f&&(!decide ((1200:Int)<f.aL.length)&&(!decide ((60:Int)<f.cv.length)&&gE f.blocks.length 1 1200))))
def vS(f:aC):Bool:=
 p9 f.aL 3&&(p9 (f.aL.take f.args.toNat) 2&&(p9 f.cv 2&&(!decide ((6:Int)<f.signals.length)&& !f.signals.any fun s=> !isName s)))
def rU(l:List ByteArray)(i:Nat):Bool:=Op.bytesLess (l.getD i .empty).toList (l.getD (i+1) .empty).toList
def EB(f:aC):Bool:=(List.range (f.signals.length - 1)).all (rU f.signals)
def rV(bs:List ca)(k:Nat):List Int:=((bs.take k).filter fun x=>x.fin.kind==7).map fun x=>x.fin.a
def kz(f:aC)(k:Nat):Bool:=
 let x:=f.blocks.getD k lX
 mP f x.fin&&(!decide ((200:Int)<x.ins.length)&& !(x.fin.kind==7&&(rV f.blocks k).any (·==x.fin.a)))
def rO(f:aC)(b:Nat)(l:List bN)(j:Nat):Bool:=jQ f b (l.getD j qj) ((l.take (j+1)).all fC) (bw f.blocks f.blocks.length b).length
def rP(f:aC)(b:Nat):Bool:=(List.range (f.blocks.getD b lX).ins.length).all (rO f b (f.blocks.getD b lX).ins)
def k6(f:aC):Bool:=
 vQ f&&(vS f&&(EB f&&((List.range f.blocks.length).all (kz f)&&(List.range f.blocks.length).all (rP f))))
def bW(f:aC):Int:=if k6 f=true then(if vG f.blocks f.args.toNat=true then 0 else 81) else 80
def gY(l:List Int)(r:Int):Prop:=0<=r/\r<l.length
theorem mH{l:List Int}{r:Int}(h:cS l r≠0):gY l r:=Classical.byContradiction fun hn=>h (Jj hn)
theorem yg{l:List Int}{r:Int}(h:lS l r=true):gY l r:=by
 refine mH fun e=>?_;simp[lS,e] at h
theorem AY{l rs:List Int}(h:nE l rs=true):∀ r∈rs,gY l r:=fun r hr=>yg (bh.1 h r hr)
theorem D9{l:List Int}{r want J:Int}(h:nS l r want J=true)(C:want≠0):gY l r:=by
 unfold nS at h;rw[if_neg C] at h;split at h
 .refine mH fun e=>?_;simp[e] at h
 .split at h
  .refine mH fun e=>?_;simp[e] at h
  .split at h
   .exact yg h
   .refine mH fun e=>?_;simp[e] at h
structure Pq(l:List Int)(x:bN)(s:Shape):Prop where
 to:s.to≠0->gY l x.to
 a:s.a≠0->gY l x.a
 b:s.b≠0->gY l x.b
 args:s.args=5\/s.args=6->x.args.length<=6/\∀ r∈x.args,gY l r
theorem DH{l:List Int}{x:bN}{s:Shape}(h:vT l x s=true):Pq l x s:=by
 unfold vT at h;simp only[aG] at h;obtain⟨h1,h2,h3,h4,_⟩:=h;refine⟨D9 h1,D9 h2,D9 h3,fun hs=>?_⟩;unfold vp at h4;rcases hs with hs|hs
 .rw[if_pos hs,aG] at h4;have:=nD.1 h4.1;exact⟨oG,AY h4.2⟩
 .rw[if_neg oG,if_pos hs,aG] at h4;have:(x.args.length:Int)=1:=by simpa using h4.1
  exact⟨oG,AY h4.2⟩
theorem Dj{l:List (Int×Shape)}{op:Int}{s:Shape}(h:iq l op=some s):(op,s)∈l:=by
 unfold iq at h;rw[bY] at h;obtain⟨⟨o,s'⟩,h1,rfl⟩:=h;have h2:=List.find?_some h1;have h3:=List.mem_of_find?_eq_some h1;have:o=op:=by simpa using h2
 subst this;exact h3
theorem Dk{l:List Int}{x:bN}{s:Shape}(hl:l.length<=1200)(hm:(x.op,s)∈nT\/(x.op,s)∈mQ)(h:Pq l x s):lW x:=by
 obtain⟨h1,h2,h3,h4⟩:=h;unfold gY at h1 h2 h3 h4;have hr:∀ {r:Int},0<=r/\r<l.length->0<=r/\r<1200:=fun h=>by omega
 have J:∀ {r:Int},0<=r/\r<l.length-> -1000000<=r/\r<1200:=fun h=>by omega
 obtain⟨op,to,a,b,n,args⟩:=x;dsimp only at h1 h2 h3 h4 hm;simp only[nT,mQ,List.mem_cons,a8,List.not_mem_nil,or_false] at hm;rcases hm with hm|hm
 .rcases hm with hm|hm|hm|hm|hm|hm|hm|hm|hm|hm|hm|hm|hm|hm|hm<;>obtain⟨rfl,rfl⟩:=hm<;>refine⟨fun r C=>?_,fun h=>?_,?_,fun h=>?_⟩<;>
   simp_all[cX,fZ,aW,qa,tR,p6,tO]<;>first|omega|(rcases C with rfl|rfl<;>omega)|(have:=h4.2 r C;omega)
 .rcases hm with hm|hm|hm|hm|hm|hm|hm|hm|hm<;>obtain⟨rfl,rfl⟩:=hm<;>refine⟨fun r C=>?_,fun h=>?_,?_,fun h=>?_⟩<;>
   simp_all[cX,fZ,aW,qa,tR,p6,tO]<;>first|omega|(rcases C with rfl|rfl<;>omega)|(rcases C with rfl|rfl|C<;>first|omega|(have:=h4.2 r C;omega))
theorem mD{a b:Int}:cr a b=true↔a=b:=by simp[cr]
theorem KD{l cv:List Int}{r n:Int}(hs:∀ k∈cv,k≠0)(h:ur l cv r n=true):gY l r/\0<=n/\n<cv.length:=by
 unfold ur at h;rw[aG,nD] at h;obtain⟨⟨h1,h2⟩,h3⟩:=h
 have h4:cS cv n≠0:=by
  obtain⟨k,rfl⟩:=dd h1;have hk:k<cv.length:=by omega
  rw[D' (aK hk)];exact hs _ (cZ hk)
 refine⟨mH ?_,h1,oG⟩;rw[show cS l r=cS cv n by simpa using h3];exact h4
theorem Dl{f:aC}{b ahead:Int}{x:bN}{phis:Bool}(hl:f.aL.length<=1200)(hs:∀ k∈f.cv,k≠0)(gD:f.cv.length<=60)(h:jQ f b x phis ahead=true):
 lW x/\(x.op=19->(x.args.length:Int)=ahead/\phis=true/\0<b/\gY f.aL x.to/\∀ r∈x.args,cS f.aL r=cS f.aL x.to/\gY f.aL r):=by
 unfold jQ at h;split at h
 .rename_i J;simp only[aG,mD] at h;have hr:=mH (l:=f.aL) (r:=x.a) oG;unfold gY at hr;refine⟨⟨fun r h'=>?_,fun h'=>by omega,?_,fun h'=>by omega⟩,fun h'=>by omega⟩
  .simp[cX,aW,qa,J] at h';omega
  .simp[fZ,aW,p6,tO,J]
 .rename_i J;split at h
  .rename_i X;simp only[aG,mD] at h;obtain⟨h1,h2,h3⟩:=KD hs h.2.2.2;unfold gY at h1;refine⟨⟨fun r h'=>?_,fun h'=>by omega,?_,fun h'=>by omega⟩,fun h'=>by omega⟩
   .simp[cX,aW,qa,tR,X] at h'
   .simp[fZ,aW,p6,X];omega
  .rename_i X;split at h
   .rename_i M;simp only[aG,mD] at h;obtain⟨h1,h2,h3⟩:=KD hs h.2.2.2;unfold gY at h1;refine⟨⟨fun r h'=>?_,fun h'=>by omega,?_,fun h'=>by omega⟩,fun h'=>by omega⟩
    .simp[cX,aW,qa,M] at h';omega
    .simp[fZ,aW,p6,tO,M]
   .rename_i M;split at h
    .rename_i C;simp only[aG,mD,decide_eq_true_eq] at h;obtain⟨g1,g2,g3,g4,g5,g6,g7,g8⟩:=h;have hr:=yg g3;have hk:cS f.aL x.to≠0:=fun e=>by simp[lS,e] at g3
     refine⟨⟨fun r h'=>?_,fun h'=>by omega,?_,fun h'=>by omega⟩,fun _=>⟨g7,g1,g2,hr,fun r gw=>?_⟩⟩
     .simp[cX,aW,qa,tR,C] at h'
     .unfold gY at hr;simp[fZ,aW,p6,C];omega
     .have:cr (cS f.aL r) (cS f.aL x.to)=true:=by
       simp only[Bool.not_eq_true',List.any_eq_false] at g8;simpa using g8 r gw
      rw[mD] at this;exact⟨this,mH (by rw[this];exact hk)⟩
    .rename_i C;rw[aG] at h;cases hs:iq nT x.op with
     |none=>rw[hs] at h;simp at h
     |some s=>
      rw[hs] at h;exact⟨Dk hl (.inl (Dj hs)) (DH h.2),fun h'=>absurd h' C⟩
structure BS(f:aC)(x:End):Prop where
 fin:wE x
 wh:x.aE.length<=7
 to:∀ t∈bZ x,0<=t/\t<f.blocks.length
theorem DB{f:aC}{x:End}(h:rQ f x=true):x.aE.length<=7/\(∀ w∈x.aE,0<=w.to/\w.to<f.blocks.length)/\(0<=x.di->x.di<f.blocks.length):=by
 unfold rQ at h;rw[aG,aG] at h;obtain⟨h1,h2,h3⟩:=h;have h2:(x.aE.length:Int)<=7:=by simpa using h2
 refine⟨oG,fun w C=>?_,fun h0=>?_⟩
 .obtain⟨i,hi⟩:=cU C;have hm:(w,i)∈x.aE.zipIdx:=List.mem_zipIdx_iff_getElem?.2 hi;have:=bh.1 h1 _ hm;simp only[qx,aG,dN,nD] at this;omega
 .rw[Bool.or_eq_true] at h3;rcases h3 with h3|h3
  .have:x.di= -1:=by simpa using h3
   omega
  .rw[dN,nD] at h3;omega
theorem KE{x:End}(h:wG x=true):x.kind=0/\x.a=0/\x.b=0/\x.to=0/\x.iz=0/\x.di= -1/\x.args.length=0/\x.aE.length=0:=by
 simp only[wG,aG,decide_eq_true_eq] at h;omega
theorem J4{f:aC}{x:End}(hl:f.aL.length<=1200)(hr:vH f=true)(h:mP f x=true):BS f x:=by
 have qM:∀ {r:Int},gY f.aL r->0<=r/\r<1200:=fun h=>by unfold gY at h;omega
 unfold mP at h;rw[aG] at h;obtain⟨h,hb⟩:=h;have hb:=KE hb;have X:∀ {t:Int},dN f t=true->0<=t/\t<f.blocks.length:=fun h=>by rw[dN,nD] at h;omega
 obtain⟨kind,a,b,to,iz,name,ins,args,aE,di⟩:=x;simp only[eg] at h hb;by_cases h1:kind=1
 .subst h1;simp only[if_true] at h hb;have J:=X h;have C:aE=[]:=List.length_eq_zero_iff.1 hb.2.2.2.2.2.2.2;subst C;refine⟨⟨fun r h'=>?_,?_,oS,oS,oS⟩,oS,fun t ht=>?_⟩
  .simp[cM,aW] at h'
  .simp[fL,aW]
  .simp[bZ,fj,aW] at ht;subst ht;exact J
 by_cases h2:kind=2
 .subst h2;simp only[Int.reduceEq,if_false,if_true,aG,mD] at h hb;have C:aE=[]:=List.length_eq_zero_iff.1 hb.2.2.2.2.2.2.2;subst C;have xK:=qM (mH (l:=f.aL) (r:=a) oG);have J:=X h.2.1;have Aq:=X h.2.2;refine⟨⟨fun r h'=>?_,?_,oS,oS,oS⟩,oS,fun t ht=>?_⟩
  .simp[cM,aW] at h';subst h';exact xK
  .simp[fL,aW]
  .simp[bZ,fj,aW] at ht;rcases ht with rfl|rfl
   .exact J
   .exact Aq
 by_cases h3:kind=3
 .subst h3;simp only[Int.reduceEq,if_false,if_true] at h hb;have C:aE=[]:=List.length_eq_zero_iff.1 hb.2.2.2.2.2.2.2;subst C;refine⟨⟨fun r h'=>?_,?_,oS,oS,oS⟩,oS,fun t ht=>?_⟩
  .simp[cM,aW] at h';obtain⟨h1,rfl⟩:=h';split at h
   .rename_i hc;rw[mD] at h;exact qM (mH (by rw[h];exact hc.1))
   .rw[mD] at h;exact absurd h h1
  .simp[fL,aW]
  .simp[bZ,aW] at ht
 by_cases h4:kind=4
 .subst h4;simp only[Int.reduceEq,if_false,if_true] at h hb;have C:aE=[]:=List.length_eq_zero_iff.1 hb.2.2.2.2.2.2.2;subst C;refine⟨⟨fun r h'=>?_,?_,oS,oS,oS⟩,oS,fun t ht=>?_⟩
  .simp[cM,aW] at h'
  .simp[fL,aW]
  .simp[bZ,aW] at ht
 by_cases h5:kind=5
 .subst h5;simp only[Int.reduceEq,if_false,if_true,aG] at h hb;obtain⟨g1,g2,g3,M⟩:=h;obtain⟨pQ,rr,Ar⟩:=DB M;have J:=X g3
  have hi:lW ins:=by
   cases hs:iq mQ ins.op with
   |none=>rw[hs] at g1;simp at g1
   |some s=>rw[hs] at g2;exact Dk hl (.inr (Dj hs)) (DH g2)
  refine⟨⟨fun r h'=>?_,?_,?_,fun _=>hi.ar,oS⟩,pQ,fun t ht=>?_⟩
  .simp[cM,aW] at h';exact hi.rd r h'
  .simp only[fL,if_true];exact hi.wr
  .dsimp only at pQ ⊢;omega
  .simp[bZ,fj,aW] at ht;rcases ht with rfl|⟨w,C,rfl⟩|⟨h0,rfl⟩
   .exact J
   .exact rr w C
   .exact⟨h0,Ar h0⟩
 by_cases h6:kind=6
 .subst h6;simp only[Int.reduceEq,if_false,if_true,aG,Bool.or_eq_true,mD,decide_eq_true_eq] at h hb;obtain⟨g1,g2,g3,M,g5,g6⟩:=h;obtain⟨pQ,rr,Ar⟩:=DB g6;have J:=X g5;have hv:=AY g3;refine⟨⟨fun r h'=>?_,?_,?_,oS,fun _=>?_⟩,pQ,fun t ht=>?_⟩
  .simp[cM,aW] at h';exact qM (hv r h')
  .simp only[fL,aW];rcases M with M|M
   .simp[M]
   .have:=qM (yg M);simp;omega
  .dsimp only at pQ ⊢;omega
  .dsimp only;omega
  .simp[bZ,fj,aW] at ht;rcases ht with rfl|⟨w,C,rfl⟩|⟨h0,rfl⟩
   .exact J
   .exact rr w C
   .exact⟨h0,Ar h0⟩
 by_cases h7:kind=7
 .subst h7;simp only[Int.reduceEq,if_false,if_true,aG,mD,decide_eq_true_eq] at h hb;obtain⟨g1,g2,g3,M,g5⟩:=h;have C:aE=[]:=List.length_eq_zero_iff.1 hb.2.2.2.2.2.2.2;subst C;have J:=X g5;have hv:=AY g3;have xK:=qM (mH (l:=f.aL) (r:=a) oG);refine⟨⟨fun r h'=>?_,?_,oS,oS,fun _=>?_⟩,oS,fun t ht=>?_⟩
  .simp[cM,aW] at h';exact qM (hv r h')
  .simp only[fL,aW];simp;omega
  .dsimp only;omega
  .simp[bZ,fj,aW] at ht;subst ht;exact J
 by_cases h8:kind=8
 .subst h8;simp only[Int.reduceEq,if_false,if_true,aG,mD] at h hb;obtain⟨g1,g2,g3,M,g5⟩:=h;obtain⟨pQ,rr,Ar⟩:=DB g5;have J:=X g3;have Aq:=X M;have xK:=qM (mH (l:=f.aL) (r:=a) oG);have hrb:=qM (yg g2);refine⟨⟨fun r h'=>?_,?_,?_,oS,oS⟩,pQ,fun t ht=>?_⟩
  .simp[cM,aW] at h';subst h';exact xK
  .simp[fL,aW];omega
  .dsimp only at pQ ⊢;omega
  .simp[bZ,fj,aW] at ht;rcases ht with rfl|rfl|⟨w,C,rfl⟩|⟨h0,rfl⟩
   .exact J
   .exact Aq
   .exact rr w C
   .exact⟨h0,Ar h0⟩
 by_cases h9:kind=9
 .subst h9;simp only[Int.reduceEq,if_false,if_true,aG,mD] at h hb;obtain⟨g1,g2,g3⟩:=h;have C:aE=[]:=List.length_eq_zero_iff.1 hb.2.2.2.2.2.2.2;subst C;have J:=X g3
  have xK:=qM (mH (l:=f.aL) (r:=a) (by
   rw[g2];intro e
   simp[vH,e,g1] at hr))
  refine⟨⟨fun r h'=>?_,?_,oS,oS,oS⟩,oS,fun t ht=>?_⟩
  .simp[cM,aW] at h';subst h';exact xK
  .simp[fL,aW]
  .simp[bZ,fj,aW] at ht;subst ht;exact J
 .simp[h1,h2,h3,h4,h5,h6,h7,h8,h9] at h
theorem UE(a b:Int):eU (At a b):=by
 unfold At intBitsV eU;simp only;rw[wrap_u64 (n:=(BitVec.ofInt IntKind.u64.bits a||| BitVec.ofInt IntKind.u64.bits b).toNat) (BitVec.isLt (w:=64) _)];have h:(BitVec.ofInt IntKind.u64.bits a||| BitVec.ofInt IntKind.u64.bits b).toNat<18446744073709551616:=BitVec.isLt (w:=64) _;exact⟨Int.natCast_nonneg _,Int.ofNat_lt.2 h⟩
theorem IW{w:List Int}{n:Int}(h:∀ u∈w,eU u):∀ u∈lV w n,eU u:=fun u C=>by
 unfold lV at C;split at C
 .unfold zh at C;rcases List.mem_or_eq_of_mem_set C with h1|h1
  .exact h u h1
  .rw[h1];exact UE _ _
 .exact h u C
theorem IX:∀ k,∀ u∈js k,eU u
 |0,u,hu=>by
  rw[List.eq_of_mem_replicate hu];simp[eU]
 |k+1,u,hu=>IW (IX k) u hu
theorem lW.rl{x:bN}(h:lW x):(cX x).length<=100000:=by
 unfold cX;split
 .simp
 .split
  .simp
  .split
   .rename_i C;have:=h.ar (.inl C);omega
   .split
    .rename_i J;have:=h.ar (.inr J);simp;omega
    .simp
theorem wE.rf{x:End}(h:wE x)(hi:x.kind=5->lW x.ins):(cM x).length<=100000:=by
 unfold cM;split
 .simp
 .split
  .split<;>simp
  .split
   .rename_i h5;exact(hi h5).rl
   .split
    .rename_i C;have:=h.a2 (by simpa[aW] using C);omega
    .simp
structure lT(f:aC):Prop where
 pos:0<f.blocks.length
 oD:f.blocks.length<=1200
 aL:f.aL.length<=1200
 args:0<=f.args/\f.args<=6
 blk:∀ b∈f.blocks,sv f.blocks.length b
 ends:∀ b∈f.blocks,BS f b.fin
 right:∀ (b:Nat) x,f.blocks[b]? =some x->∀ (j:Nat) y,x.ins[j]? =some y->jQ f b y ((x.ins.take (j+1)).all fC) (bw f.blocks f.blocks.length b).length=true
 cv:(∀ k∈f.cv,k≠0)/\f.cv.length<=60
 afb:∀ b∈f.blocks,b.fin.kind=5->lW b.fin.ins
theorem J6{l:List Int}{m:Int}(h:p9 l m=true):∀ k∈l,k≠0:=fun k hk e=>by
 subst e;simp only[p9,Bool.not_eq_true',List.any_eq_false] at h;have:=h 0 hk;simp[yf] at this
theorem VG{f:aC}{x:End}(hl:f.aL.length<=1200)(h:mP f x=true)(h5:x.kind=5):lW x.ins:=by
 unfold mP at h;rw[aG] at h;have h:=h.1;unfold eg at h;simp only[h5,Int.reduceEq,if_false,if_true,aG] at h;obtain⟨C,J,_⟩:=h;cases hs:iq mQ x.ins.op with
 |none=>rw[hs] at C;simp at C
 |some s=>rw[hs] at J;exact Dk hl (.inr (Dj hs)) (DH J)
theorem mN{f:aC}(h:k6 f=true):lT f:=by
 unfold k6 at h;simp only[aG] at h;obtain⟨X,hK,_,hE,hR⟩:=h;unfold vQ at X;simp only[aG,nD,Bool.not_eq_true',decide_eq_false_iff_not] at X;obtain⟨_,ha,hr,mn,gD,bV⟩:=X;unfold vS at hK;simp only[aG,Bool.not_eq_true',decide_eq_false_iff_not] at hK;obtain⟨_,_,s6,_,_⟩:=hK;have J:f.aL.length<=1200:=by omega
 have M:∀ x∈f.blocks,mP f x.fin=true/\x.ins.length<=200:=fun x hx=>by
  obtain⟨k,hk⟩:=cU hx;have af:k<f.blocks.length:=(bj.1 hk).1;have:=bh.1 hE k (by simpa using af);rw[kz,getD_some hk] at this;simp only[aG,Bool.not_eq_true',decide_eq_false_iff_not] at this;exact⟨this.1,oG⟩
 have C:∀ x∈f.blocks,BS f x.fin:=fun x hx=>J4 J hr (M x hx).1
 have Q2:∀ (b:Nat) x,f.blocks[b]? =some x->∀ (j:Nat) y,x.ins[j]? =some y->jQ f b y ((x.ins.take (j+1)).all fC) (bw f.blocks f.blocks.length b).length=true:=fun b x hx j y hy=>by
  have af:b<f.blocks.length:=(bj.1 hx).1;have:=bh.1 hR b (by simpa using af);rw[rP,getD_some hx] at this;have:=bh.1 this j (by simpa using(bj.1 hy).1);rw[rO,getD_some hy] at this;exact this
 have h5:∀ b∈f.blocks,b.fin.kind=5->lW b.fin.ins:=fun b hb h5=>VG J (M b hb).1 h5
 have Cf:∀ b∈f.blocks,∀ x∈b.ins,lW x:=fun b hb x hx=>by
  obtain⟨k,hk⟩:=cU hb;obtain⟨j,hj⟩:=cU hx;exact(Dl J (J6 s6) oG (Q2 k b hk j x hj)).1
 refine⟨oG,oG,J,⟨ha.1,by have:=ha.2;split at this<;>omega⟩,fun b hb=>⟨by have:=(M b hb).2;omega,Cf b hb,(C b hb).fin,fun x hx=>(Cf b hb x hx).rl,(C b hb).fin.rf (h5 b hb),fun t ht=>(C b hb).to t (Dm.1 ht)⟩,C,Q2,⟨J6 s6,oG⟩,h5⟩
theorem lT.Q3{f:aC}(h:lT f){b:Nat}{x:ca}(hx:f.blocks[b]? =some x){y:bN}(hy:y∈x.ins)(C:y.op=19):y.args.length=(bw f.blocks f.blocks.length b).length/\∀ r∈y.args,0<=r/\r<1280:=by
 obtain⟨j,hj⟩:=cU hy;obtain⟨h1,_,_,_,h2⟩:=(Dl h.aL h.cv.1 h.cv.2 (h.right b x hx j y hj)).2 C;refine⟨oG,fun r hr=>?_⟩;have:=(h2 r hr).2;unfold gY at this;have:=h.aL;omega
end Go.Argus
namespace Go.Proofs.Tryz.K
set_option maxRecDepth 10000
set_option maxHeartbeats 1000000 in
theorem xJ{p q:D}{f:aC}{n:Nat}(hp:Tr p)(hq:Tr q)(dz:p.one=true)(dY:q.one=true)(hn:f.blocks.length=n)(iX:n<=100000)(hw:∀ b∈f.blocks,b.fin.aE.length<=9)(ht:∀ b∈f.blocks,∀ t∈nextR b.fin,0<=t/\t<n):
 PCall prog 97 [.agg (aF p q f)] (bR (bu f.blocks)):=by
 have aH:∀ a∈[D.agg (aF p q f)],Tr a:=.cons (jN hp hq f) .nil;refine bd Pc aH (yc _) ?_;rw[aa3];refine ax ?_;refine ab ?_;refine aa (aR (cE [(0,aF p q f,133)] eH (l:=[(1,.pt (aF p q f))]) eH) (ax ?_));refine bC ?_;have dp:((f.blocks.length:Nat):Int).toNat=n:=hn;refine aa (aR (bg (l:=[(1,.pt (aF p q f)),(3,.rs 1 0 n)]) (ml:=[(1,.cells (List.replicate n .z) 27)]) ⟨rfl,congrArg (fun k=>D.rs 1 0 k) dp,trivial⟩ ⟨?_,trivial⟩) (aB (ax ?_)))
 .exact congrArg (fun c=>some (Row.cells c 27)) ((congrArg (fun k=>replD k [D.z]) dp).trans (yo n))
 refine aQ ?_
 refine aa (cN (fun s=>∃ m nx ρ,Ghost prog s ⟨aw [(3,.rs 1 0 n)],m,nx⟩/\fq m nx 1 n 27 3 ρ (fun i=>(bw f.blocks n i).map I)) (cG (α:=Nat×Mem×Nat)
  (fun k=>⟨aw [(1,.pt (aF p q f)),(3,.rs 1 0 n),(15,dM f.blocks),(16,I n),(17,I k.1)],k.2.1,k.2.2⟩)
  (fun k=>k.1<=n/\(∃ ρ,fq k.2.1 k.2.2 1 n 27 3 ρ (fun i=>(bw f.blocks k.1 i).map I))/\∀ i,(bw f.blocks k.1 i).length<=12*k.1) (fun k=>n - k.1) (0,bi [(1,.cells (List.replicate n .z) 27)],2)
  (aq ⟨rfl,rfl,rfl,congrArg (fun k:Nat=>I k) hn,rfl,trivial⟩) ⟨Nat.zero_le _,⟨fun _=>0,J3 (show 1<2 by decide) rfl⟩,fun _=>aU _⟩ ?_) ?_)
 .rintro⟨k,m,nx⟩ ⟨hk,⟨ρ,C⟩,hlen⟩;dsimp only at hk C hlen ⊢;have aj:=C.row;have dy:=C.rC;refine SS ?_;refine aa ⟨_,rfl,fun h=>?_,fun h=>?_⟩
  .have af:k<n:=by simpa using h
   have hx:f.blocks[k]? =some f.blocks[k]:=aK oG;have fW:f.blocks[k]∈f.blocks:=cZ _;generalize f.blocks[k]=x at hx fW
   have cO:bw f.blocks (k+1)=(nextR x.fin).foldl (dT k) (bw f.blocks k):=by
    rw[bw,List.range_succ,List.foldl_append];show qh f.blocks _ k=_;rw[qh,hx];rfl
   generalize bw f.blocks k=L0 at C hlen aj cO;refine ws ?_;refine bC ?_;have qG:=qG (x:=x.fin);have qK:=LY (x:=x.fin) (hw x fW)
   change PCall _ _ _ (ao (nextR x.fin)) at qK
   have dK:=ht x fW;have jG:=xU x.fin;have HE:=hw x fW;generalize nextR x.fin=l at qK dK jG cO;refine aa (ax ?_);refine SS ?_;refine au (df (vs:=bm _) rfl (up_same _ _ _) V.h V.h rfl) ak (dg V.h V.h (by first|(simp;done)|omega|exact aP rfl)) ?_;refine cl qG ?_;refine cl qK ?_;refine ab ?_
   refine aa (cG (α:=Nat×Mem×Nat)
    (fun j=>⟨aw [(1,.pt (aF p q f)),(3,.rs 1 0 n),(4,I k),(15,dM f.blocks),(16,I n),(17,I k),(25,ao l),(26,I l.length),(27,I j.1)],j.2.1,j.2.2⟩)
    (fun j=>j.1<=l.length/\(∃ ρ,fq j.2.1 j.2.2 1 n 27 3 ρ (fun i=>((l.take j.1).foldl (dT k) L0 i).map I))/\∀ i,((l.take j.1).foldl (dT k) L0 i).length<=12*k+j.1) (fun j=>l.length - j.1) (0,up m nx (some (.cells (dt x) 72)),nx+1)
    (kq eH (lv _ _ _ _)) ⟨Nat.zero_le _,⟨ρ,C.ext (fun q hq=>al oG rfl) oM⟩,hlen⟩ ?_)
   clear C aj hlen;rintro⟨j,m,nx⟩ ⟨hj,⟨ρ,C⟩,hlen⟩;dsimp only at hj C hlen ⊢;have aj:=C.row;have dy:=C.rC;have X:∀ t,l[j]? =some t->(l.take (j+1)).foldl (dT k) L0=dT k ((l.take j).foldl (dT k) L0) t:=fun t ht=>rG ht;have sw:j=l.length->(l.take j).foldl (dT k) L0=bw f.blocks (k+1):=fun e=>by rw[cO,ez oG]
   generalize (l.take j).foldl (dT k) L0=L at C hlen aj X sw;refine SS ?_;refine aa ⟨_,rfl,fun h=>?_,fun h=>?_⟩
   .have zB:j<l.length:=by simpa using h
    have rm:l[j]? =some l[j]:=aK zB;have rB:=dK _ (cZ zB);generalize l[j]=t at rm rB;obtain⟨i,rfl⟩:=dd rB.1;have J:i<n:=by omega
    have hL:=hlen i;have X:(l.take (j+1)).foldl (dT k) L0=up L i (L i++[(k:Int)]):=X _ rm
    have sm:∀ i,((l.take (j+1)).foldl (dT k) L0 i).length<=12*k+(j+1):=fun a=>by
     rw[X];exact Dx (t:=(i:Int)) hlen a
    have An:(fun a=>((l.take (j+1)).foldl (dT k) L0 a).map I)=up (fun a=>(L a).map I) i ((L i++[(k:Int)]).map I):=by rw[X];exact LZ
    obtain⟨cs,kd⟩:=J2 (ρ:=ρ) (L:=fun i=>(L i).map I) J;refine ws ?_;refine av ?_;refine aa (fY ?_);by_cases hz:L i=[]
    .have ve:jc (ρ i) ((L i).map I)=.z:=by rw[hz];rfl
     rw[ve] at kd;refine aN ?_;refine Pd ?_;refine Pe ?_;refine aa ?_;refine ab ?_;refine aa (aJ (j+1,up (up (up m nx (some (.cells [I k] 3))) (nx+1) (some (.cells [I k] 3))) 1 (some (.cells ((l5 ρ (fun i=>(L i).map I) n).set i (.rs (nx+1) 0 1)) 27)),nx+2) (aq eH) ⟨oM,⟨up ρ i (nx+1),?_⟩,sm⟩ oM);dsimp only;rw[An];refine C.iC J oS oG oG ?_ ?_ (fun q hq tE _=>?_)
     .rw[hz];exact up_same _ _ _
     .rw[hz];exact al oG (up_same _ _ _)
     .exact al oG (al oG (al oG rfl))
    .have M:(L i).map I≠[]:=by simpa using hz
     have ve:jc (ρ i) ((L i).map I)=.rs (ρ i) 0 (L i).length:=by rw[nZ M,List.length_map]
     rw[ve] at kd;have bX:=C.sP i J M;have Ao:=C.lt i J M;have hρ1:=C.ne i J M;refine aN ?_;refine Pf ?_;refine Pg ?_;refine aa ?_;refine ab ?_;refine aa (aJ (j+1,up (up (up (up m nx (some (.cells [I k] 3))) (ρ i) none) (nx+1) (some (.cells ((L i).map I++[I k]) 3))) 1 (some (.cells ((l5 ρ (fun i=>(L i).map I) n).set i (.rs (nx+1) 0 ((L i).length+1))) 27)),nx+2) (aq eH) ⟨oM,⟨up ρ i (nx+1),?_⟩,sm⟩ oM);dsimp only;rw[An];refine C.iC J oS oG oG ?_ ?_ (fun q hq tE qZ=>?_)
     .rw[List.length_map,List.length_append];exact up_same _ _ _
     .rw[List.map_append];exact al oG (up_same _ _ _)
     .have:=qZ M;exact al oG (al oG (al oG (al oG rfl)))
   .have ba:¬ j<l.length:=by simpa using h
    have vl:=sw oG;subst vl;show AOps _ _ _ _ _ _ _ _ _;refine ab ?_;refine aa (aJ (k+1,m,nx) (aq eH) ⟨oM,⟨ρ,C⟩,fun i=>by have:=hlen i;dsimp only at this ⊢;omega⟩ oM)
  .have ba:¬ k<n:=by simpa using h
   have:k=n:=by omega
   subst this;exact⟨m,nx,ρ,aq eH,C⟩
 .rintro s ⟨m,nx,ρ,hg,C⟩;have tD:¬ ∃ i,i<n/\(bw f.blocks n i).map I≠[]/\ρ i=1:=fun⟨i,h1,h2,h3⟩=>C.ne i h1 h2 h3;refine⟨_,hg.trans (Jh (l:=[(3,.rs 1 0 n)]) (ml:=[]) (fun r=>∃ i,i<n/\(bw f.blocks n i).map I≠[]/\ρ i=r) C (fun _=>.map) c3 (fun i h1 h2=>⟨i,h1,h2,rfl⟩) tD ⟨rfl,trivial⟩ (fun x hx=>?_) trivial (fun x hx=>by cases hx)),ax ?_⟩
  .simp at hx;subst hx;exact .rs tD
  refine ab ?_;refine aa (aR (cE [(1,_,27)] eH (l:=[(2,bR (bu f.blocks))]) ⟨?_,trivial⟩) (az rfl rfl));show sub (fz0 1 _ (prog.cellsOf 27)) (D.rs 1 0 n)=_;rw[nA (by rw[xF];simp),D7,bu,hn]
set_option maxHeartbeats 1000000 in
theorem Cc{p q:D}{f:aC}{n args:Nat}(hp:Tr p)(hq:Tr q)(dz:p.one=true)(dY:q.one=true)(hn:f.blocks.length=n)(iW:0<n)(iX:n<=100000)(ha:f.args=args)(uM:args<=1000)(tB:∀ u∈js args,eU u)(hb:∀ b∈f.blocks,sv n b)
 (aa9:∀ b x,f.blocks[b]? =some x->∀ y∈x.ins,y.op=19->y.args.length=(bw f.blocks n b).length/\∀ r∈y.args,0<=r/\r<1280):
 PCall prog 154 [.agg (aF p q f)] (B (vG f.blocks args)):=by
 have aH:∀ a∈[D.agg (aF p q f)],Tr a:=.cons (jN hp hq f) .nil;have wW:=wW hp hq dz dY hn iW iX ha uM tB hb;have xJ:=xJ hp hq dz dY hn iX (fun b h=>(hb b h).fin.wh) (fun b h=>(hb b h).to);have Pk:ix n (pj f.blocks args):=by subst hn;exact UD hb tB
 refine bd NB aH (.s _) ?_;rw[Yc];refine ax ?_;refine ab ?_;refine aa (aR (cE [(0,aF p q f,133)] eH (l:=[(1,.pt (aF p q f))]) eH) ?_);have eh:vG f.blocks args=(List.range n).all (pZ f.blocks (pj f.blocks args)):=by rw[vG,hn]
 rw[eh];clear eh;generalize pj f.blocks args=R at wW Pk ⊢;obtain⟨lw,lr,iZ,rg⟩:=Pk;have wW:PCall prog 197 [.agg (aF p q f)] (.tup [.sl (bL R.ws) n,dk R.re]):=by unfold dk;rw[lr];exact wW
 show AW _ _ _ _ (scopeQ _) _;refine ws ?_;refine SS ?_;refine cl wW ?_;refine aQ ?_;refine aa (ax ?_);refine SS ?_;refine cl xJ ?_;refine SS ?_;refine aa (aR (eN (l:=[(1,.pt (aF p q f)),(3,.sl (bL R.ws) n),(4,dk R.re),(5,bR (bu f.blocks))]) eH) (R' (aB (ax ?_))));refine aQ ?_
 refine aa (cN (fun s=>(List.range n).all (pZ f.blocks R)=true) (cG (α:=Nat×Nat)
  (fun k=>⟨aw [(1,.pt (aF p q f)),(3,.sl (bL R.ws) n),(4,dk R.re),(5,bR (bu f.blocks)),(25,dM f.blocks),(26,I n),(27,I k.1)],fun _=>none,k.2⟩)
  (fun k=>k.1<=n/\(List.range k.1).all (pZ f.blocks R)=true) (fun k=>n - k.1) (0,1) (eN ⟨rfl,rfl,rfl,rfl,rfl,congrArg (fun k:Nat=>I k) hn,rfl,trivial⟩) ⟨Nat.zero_le _,rfl⟩ ?_) ?_)
 .rintro⟨k,N⟩ ⟨hk,br⟩;dsimp only at hk br ⊢;refine SS ?_;refine aa ⟨_,rfl,fun h=>?_,fun h=>?_⟩
  .have af:k<n:=by simpa using h
   have hx:f.blocks[k]? =some f.blocks[k]:=aK oG;have fW:f.blocks[k]∈f.blocks:=cZ _;generalize f.blocks[k]=x at hx fW;have eC:=hb x fW;have hph:=aa9 k x hx;have hw:R.ws[k]? =some R.ws[k]:=aK oG;have fV:R.re[k]? =some R.re[k]:=aK oG;have tC:=iZ _ (cZ (h:=by omega):R.ws[k]∈R.ws)
   have M:pZ f.blocks R k=(!R.re[k]||((kX x R.ws[k]).2&&(x.ins.takeWhile fC).all (wF f.blocks R k))):=by
    rw[pZ,getD_some hw,getD_some fV,getD_some hx]
   generalize R.ws[k]=w at hw tC M;generalize R.re[k]=b at fV M;refine ax ?_;refine bC ?_;refine aa (aR (o5 (i:=N) (l:=[(1,.pt (aF p q f)),(3,.sl (bL R.ws) n),(4,dk R.re),(5,bR (bu f.blocks)),(6,I k),(7,.pt (dt x)),(25,dM f.blocks),(26,I n),(27,I k)]) (up_same _ _ _) ⟨rfl,rfl,rfl,rfl,rfl,qw,rfl,rfl,rfl,trivial⟩) (aB (ai ?_)));refine aQ ?_;refine aa (c6 rfl (fun h=>jK (o9 ?_)) fun h=>cu (aB (oV Tw ?_)))
   .have oK:b=false:=by simpa using h
    subst oK;refine ab ?_;refine aa (aJ (k+1,N+1) (eN eH) ⟨oM,pU br (by rw[M];rfl)⟩ oM)
   have fH:b=true:=by simpa using h
   subst fH;have kJ:=kJ tC eC.len eC.ins eC.fin eC.rl eC.rf;have qL:=Dd x w;rw[tC] at qL;generalize kX x w=th at kJ M qL;obtain⟨w1,ok⟩:=th;dsimp only at kJ M qL;refine av ?_;refine Pm ?_;refine Pn ?_;refine cl kJ ?_;refine bC ?_;refine bE bP (aR (eN (l:=[(1,.pt (aF p q f)),(3,.sl (bL R.ws) n),(4,dk R.re),(5,bR (bu f.blocks)),(6,I k),(7,.pt (dt x)),(9,B ok),(25,dM f.blocks),(26,I n),(27,I k)]) eH) (aB (ai ?_)));refine ab ?_;refine aa (c6 rfl (fun h=>?_) fun h=>cu (ax ?_))
   .have bz:ok=false:=by simpa using h
    subst bz;refine aB (ai ?_);refine SS ?_;refine aa (c8 (cz (bl (Ep (az (d:=B false) rfl ?_)))));rw[mz af (by rw[M];rfl)]
   have bz:ok=true:=by simpa using h
   subst bz;have M:pZ f.blocks R k=(x.ins.takeWhile fC).all (wF f.blocks R k):=M;refine aI ?_;have jG:=eC.len
   refine aa (cG (α:=Nat×Nat)
    (fun j=>⟨aw [(1,.pt (aF p q f)),(3,.sl (bL R.ws) n),(4,dk R.re),(5,bR (bu f.blocks)),(6,I k),(25,dM f.blocks),(26,I n),(27,I k),(49,jj x.ins),(50,I x.ins.length),(51,I j.1)],fun _=>none,j.2⟩)
    (fun j=>j.1<=x.ins.length/\(∀ y∈x.ins.take j.1,fC y=true)/\(x.ins.take j.1).all (wF f.blocks R k)=true) (fun j=>x.ins.length - j.1) (0,_) (eN eH) ⟨Nat.zero_le _,oS,oS⟩ ?_)
   rintro⟨j,N⟩ ⟨hj,wX,zD⟩;dsimp only at hj wX zD ⊢;refine SS ?_;refine aa ⟨_,rfl,fun h=>?_,fun h=>?_⟩
   .have dy:j<x.ins.length:=by simpa using h
    have hy:x.ins[j]? =some x.ins[j]:=aK dy;have Ap:x.ins[j]∈x.ins:=cZ dy;generalize x.ins[j]=y at hy Ap;refine ax ?_;refine aI ?_;refine aa (aR (o5 (i:=N) (l:=[(1,.pt (aF p q f)),(3,.sl (bL R.ws) n),(4,dk R.re),(5,bR (bu f.blocks)),(6,I k),(11,.pt (b7 y)),(25,dM f.blocks),(26,I n),(27,I k),(49,jj x.ins),(50,I x.ins.length),(51,I j)]) (up_same _ _ _) ⟨rfl,rfl,rfl,rfl,rfl,qw,rfl,rfl,rfl,rfl,rfl,rfl,trivial⟩) (aB (ai ?_)));refine av ?_;refine aa (c6 rfl (fun h=>jK (Xi oC oC (o9 ?_))) fun h=>cu (ax ?_))
    .have ap:y.op≠19:=by simpa using h
     refine ab ?_;refine aa (aJ (k+1,_) (eN eH) ⟨oM,pU br ?_⟩ oM);rw[M,takeWhile_eq wX (fun y' h'=>by rw[hy] at h';cases h';simpa[fC] using ap)];exact zD
    have nu:y.op=19:=by simpa using h
    obtain⟨ng,vf⟩:=hph y Ap nu;have hA:=DA hn af
    have QT:∀ p∈bw f.blocks n k,∃ C:Nat,p=C/\C<n:=fun p hp=>by
     obtain⟨b,h1,h2,_⟩:=Dy.1 hp;exact⟨b,h1,h2⟩
    have HG:wF f.blocks R k y=(List.range (bw f.blocks n k).length).all (rT f.blocks R k y):=by rw[wF,hn]
    have J:∀ i,rT f.blocks R k y i=(!(R.re.getD ((bw f.blocks n k).getD i 0).toNat false)||mX (gl (f.blocks.getD ((bw f.blocks n k).getD i 0).toNat lX).fin k (kX (f.blocks.getD ((bw f.blocks n k).getD i 0).toNat lX) (R.ws.getD ((bw f.blocks n k).getD i 0).toNat [])).1) (y.args.getD i 0).toNat):=fun i=>by rw[rT,hn]
    have hAl:=Dz (fun b h=>(hb b h).fin.wh) n k;generalize bw f.blocks n k=A at ng hA QT HG J hAl
    have Wx:∀ i,i<A.length->rT f.blocks R k y i=false->(List.range n).all (pZ f.blocks R)=false:=fun i hi he=>by
     refine mz af ?_;rw[M];refine Bool.eq_false_iff.2 fun ht=>?_
     have aa':y∈x.ins.takeWhile fC:=by
      have:x.ins.take (j+1)=x.ins.take j++[y]:=by rw[List.take_add_one,hy];rfl
      have h2:x.ins=x.ins.take (j+1)++x.ins.drop (j+1):=(List.take_append_drop _ _).symm;rw[h2,this,List.takeWhile_append_of_pos]
      .simp
      .intro z hz;rcases List.mem_append.1 hz with h|h
       .exact wX z h
       .rw[List.mem_singleton.1 h];simp[fC,nu]
     have:=bh.1 ht y aa';rw[HG,mz hi he] at this;cases this
    refine bC ?_
    refine aa (cG (α:=Nat×Nat)
     (fun i=>⟨aw [(1,.pt (aF p q f)),(3,.sl (bL R.ws) n),(4,dk R.re),(5,bR (bu f.blocks)),(6,I k),(11,.pt (b7 y)),(25,dM f.blocks),(26,I n),(27,I k),(49,jj x.ins),(50,I x.ins.length),(51,I j),(61,ao A),(62,I A.length),(63,I i.1)],fun _=>none,i.2⟩)
     (fun i=>i.1<=A.length/\(List.range i.1).all (rT f.blocks R k y)=true) (fun i=>A.length - i.1) (0,_) (eN eH) ⟨Nat.zero_le _,rfl⟩ ?_)
    rintro⟨i,N⟩ ⟨hi,FD⟩;dsimp only at hi FD ⊢;refine SS ?_;refine aa ⟨_,rfl,fun h=>?_,fun h=>?_⟩
    .have fg:i<A.length:=by simpa using h
     have tg:A[i]? =some A[i]:=aK fg;obtain⟨C,HH,eV⟩:=QT _ (cZ fg);rw[HH] at tg;clear HH;have QU:f.blocks[C]? =some f.blocks[C]:=aK oG;have Po:f.blocks[C]∈f.blocks:=cZ _;have QV:R.ws[C]? =some R.ws[C]:=aK oG;have He:R.re[C]? =some R.re[C]:=aK oG;have Gr:=iZ _ (cZ (h:=by omega):R.ws[C]∈R.ws);have QW:y.args[i]? =some y.args[i]:=aK oG;have tz:=vf _ (cZ (h:=by omega):y.args[i]∈y.args);have J:=J i;rw[getD_some tg,b9,getD_some QU,getD_some QV,getD_some He,getD_some QW] at J;generalize f.blocks[C]=xp at QU Po J;generalize R.ws[C]=wp at QV Gr J;generalize R.re[C]=rb at He J;generalize y.args[i]=r at QW tz J;obtain⟨rn,rfl⟩:=dd tz.1;rw[b9] at J;have uD:=hb xp Po;have kJ:=Go.Proofs.Tryz.K.kJ Gr uD.len uD.ins uD.fin uD.rl uD.rf;have zE:=Dd xp wp;rw[Gr] at zE;generalize kX xp wp=tp at kJ J zE;obtain⟨w2,ok2⟩:=tp;dsimp only at kJ J zE;have sM:=sM (x:=xp.fin) (b:=(k:Int)) (w:=w2) zE (by have:=uD.fin.wh;omega) (by have:=uD.fin.wr;omega);have kT:=Jc xp.fin k w2;rw[zE] at kT;generalize gl xp.fin k w2=w3 at sM kT J;have iN:=iN (w:=w3) (m:=rn) kT oG;refine ws ?_;refine aQ ?_;refine aa (oV SH ?_);refine cy ?_;refine Pm ?_;refine Pn ?_;refine cl kJ ?_;refine bC ?_;refine bE bP (aR (o5 (i:=N) (l:=[(1,.pt (aF p q f)),(3,.sl (bL R.ws) n),(4,dk R.re),(5,bR (bu f.blocks)),(6,I k),(11,.pt (b7 y)),(12,I i),(13,I C),(14,.pt (w2.map bM)),(25,dM f.blocks),(26,I n),(27,I k),(49,jj x.ins),(50,I x.ins.length),(51,I j),(61,ao A),(62,I A.length),(63,I i)]) (up_same _ _ _) ⟨rfl,rfl,rfl,rfl,rfl,rfl,rfl,rfl,qw,rfl,rfl,rfl,rfl,rfl,rfl,rfl,rfl,rfl,trivial⟩) (fK SJ ?_))
     have pg:∀ v:Bool,v=rT f.blocks R k y i->(v=false->(List.range n).all (pZ f.blocks R)=false)/\(v=true->(List.range (i+1)).all (rT f.blocks R k y)=true):=fun v hv=>by
      subst hv;exact⟨Wx i fg,fun h=>pU FD h⟩
     cases rb with
     |false=>
      obtain⟨_,X⟩:=pg true J.symm;have X:=X rfl;refine aN ?_;refine Pp ?_;refine av ?_;refine aT rfl rfl (je rfl V.h V.h (L1 (by first|rfl|exact aP rfl|(simp;done)|(simp;omega)|omega))) (fun hc=>⟨ak,(jf V.h V.h (by first|rfl|exact aP rfl|(simp;done)|(simp;omega)|omega))⟩) ?_;refine gc sM ?_;refine aQ ?_;refine gc iN ?_;refine ab ?_;refine bE bP (aD rfl (fun h=>oH) fun h=>cI ?_);refine ab ?_;refine aa (aJ (i+1,_) (eN eH) ⟨oM,X⟩ oM)
     |true=>
      obtain⟨dX,X⟩:=pg (mX w3 rn) J.symm;generalize mX w3 rn=hv at iN dX X;refine aN ?_;refine Pp ?_;refine av ?_;refine aT rfl rfl (je rfl V.h V.h (L1 (by first|rfl|exact aP rfl|(simp;done)|(simp;omega)|omega))) (fun hc=>⟨ak,(jf V.h V.h (by first|rfl|exact aP rfl|(simp;done)|(simp;omega)|omega))⟩) ?_;refine gc sM ?_;refine aQ ?_;refine gc iN ?_;refine ab ?_;refine bE bP (aD rfl (fun h=>?_) fun h=>cI ?_)
      .have hf:hv=false:=by simpa using h
       refine ws ?_;refine SS ?_;refine aa (bq (cz (cz (cz (bl (Ep (az (d:=B false) rfl ?_)))))));rw[dX hf]
      .have ht:hv=true:=by simpa using h
       have X:=X ht;refine ab ?_;refine aa (aJ (i+1,_) (eN eH) ⟨oM,X⟩ oM)
    .have ba:¬ i<A.length:=by simpa using h
     have hiA:i=A.length:=by omega
     subst hiA;show AOps _ _ _ _ _ _ _ _ _;refine ab ?_;refine aa (aJ (j+1,_) (eN eH) ⟨oM,fun z hz=>?_,?_⟩ oM)
     .dsimp only at hz;rw[List.take_add_one,hy] at hz;rcases List.mem_append.1 hz with h|h
      .exact wX z h
      .rw[List.mem_singleton.1 h];simp[fC,nu]
     .dsimp only;rw[List.take_add_one,hy,List.all_append,zD];simpa[HG] using FD
   .have ba:¬ j<x.ins.length:=by simpa using h
    have z3:j=x.ins.length:=by omega
    subst z3;show AOps _ _ _ _ _ _ _ _ _;refine ab ?_;refine aa (aJ (k+1,_) (eN eH) ⟨oM,pU br ?_⟩ oM);rw[List.take_length] at wX zD;rw[M,takeWhile_eq (j:=x.ins.length) (by rw[List.take_length];exact wX) (fun y h=>by simp at h),List.take_length];exact zD
  .have ba:¬ k<n:=by simpa using h
   have:k=n:=by omega
   subst this;exact br
 .rintro⟨env,m,nx⟩ br;refine⟨_,.refl _,ai ?_⟩;refine SS ?_;refine aa (Ep (az (d:=B true) rfl ?_));rw[br]
end Go.Proofs.Tryz.K
namespace Go.Argus
theorem QY:∀ b1 b2 b3 b4 b5 b6:Bool,(if(if(if(if(if(!b1)=true then true else !b2)=true then true else !b3)=true then true else b4)=true then true else b5)=true then true else !b6)= !(b1&&(b2&&(b3&&(!b4&&(!b5&&b6))))):=by decide
theorem QZ:∀ b1 b2 b3 b4 b5:Bool,(if(if(if(if(!b1)=true then true else !b2)=true then true else !b3)=true then true else b4)=true then true else b5)= !(b1&&(b2&&(b3&&(!b4&& !b5)))):=by decide
theorem hd3:∀ b1 b2 b3 b4:Bool,(if(if b1=true then true else b2)=true then true else if b3=true then !b4 else false)=(b1||(b2||(b3&& !b4))):=by decide
def kn(l:List Int):List (Value×D):=l.map fun a=>(.int .i64 a,B true)
theorem EC(a:Int):∀ l:List Int,(lookD (.int .i64 a) (kn l)).map (·.2)=if(l.any (·==a))=true then some (B true) else none
 |[]=>rfl
 |b::l=>by
  have ih:=EC a l;unfold kn at ih ⊢;simp only[List.map_cons,lookD,veq,veq1,List.any_cons,beq_self_eq_true,Bool.true_and] at ih ⊢;by_cases h:b=a
  .subst h;simp
  .have hb:(b==a)=false:=by simpa using h
   simp only[hb,Bool.false_eq_true,if_false,Option.map_map,Bool.false_or];exact ih
theorem Wy{P:Program}{t:TypeId}(C:zeroD P (melP P t)=B false)(a:Int)(l:List Int):gotD P t false (lookD (.int .i64 a) (kn l))=B (l.any (·==a)):=by
 have h:=EC a l;cases h1:lookD (.int .i64 a) (kn l) with
 |none=>
  rw[h1] at h;cases h2:l.any (·==a) with
  |true=>rw[h2] at h;simp at h
  |false=>simp[gotD,C]
 |some x=>
  rw[h1] at h;cases h2:l.any (·==a) with
  |false=>rw[h2] at h;simp at h
  |true=>rw[h2] at h;simp at h;simp[gotD,h]
theorem Wz{a:Int}{l:List Int}(h:l.any (·==a)=false):putD (.int .i64 a) (B true) (kn l)=kn (l++[a]):=by
 have h1:=EC a l;rw[h] at h1;unfold putD;cases h2:lookD (.int .i64 a) (kn l) with
 |none=>simp[kn]
 |some x=>rw[h2] at h1;simp at h1
theorem KF{P:Program}{kt:TypeId}(hk:P.underlying kt=some (.int .i64))(l:List Int):(kn l).all (fun e=>keyP P kt e.1)=true:=by
 refine bh.2 fun x hx=>?_;obtain⟨y,_,rfl⟩:=List.mem_map.1 hx;simp[keyP,hk]
theorem L2{P:Program}{kt:TypeId}(hk:P.underlying kt=some (.int .i64))(a:Int):keyP P kt (.int .i64 a)=true:=by simp[keyP,hk]
theorem VF{i sz:Nat}{C:List D}(l:List Int):Row.sub (fz0 i C sz) (.map (kn l))=.map (kn l):=by
 show Row.map ((kn l).map _)=_;unfold kn;rw[List.map_map];rfl
theorem RV{bs:List ca}{k:Nat}{x:ca}(hx:bs[k]? =some x):rV bs (k+1)=if(x.fin.kind==7)=true then rV bs k++[x.fin.a] else rV bs k:=by
 unfold rV;rw[List.take_add_one,hx];by_cases h:(x.fin.kind==7)=true
 .simp[h]
 .simp[h]
end Go.Argus
namespace Go.Proofs.Tryz.K
set_option maxRecDepth 10000
theorem CU:prog.underlying 3=some (.int .i64):=kr
theorem Yd:zeroD prog (melP prog 127)=B false:=kr
set_option maxHeartbeats 1000000 in
theorem Gs{f:aC}:PCall prog 153 [.agg (aX f)] (B (k6 f)):=by
 have aH:∀ a∈[D.agg (aX f)],Tr a:=.cons (.agg (jL f)) .nil;refine bd NC aH (.s _) ?_;rw[Ye];refine ax ?_;refine ab ?_;refine aa (aR (o5 (i:=0) (l:=[(1,.pt (aX f))]) rfl eH) (ax ?_));have Gt:=Gt (f:=f);refine SS ?_;refine cl Gt ?_;refine SS ?_;refine bB (iE (cs':=aF _ _ _) rfl rfl rfl rfl) ak (cF V.h V.h (by first|(simp;done)|exact⟨rfl,aP rfl⟩|(simp;omega)) (by rfl)) ?_;refine aa (aR (o5 (i:=1) (l:=[(1,.pt (aX f)),(3,.pt (aF P0 Q0 f))]) rfl eH) (ax ?_));refine aN ?_;refine cy ?_;refine ab ?_;refine aa (aR (eN (l:=[(1,.pt (aX f)),(3,.pt (aF P0 Q0 f)),(4,B (vH f))]) ⟨rfl,rfl,congrArg B (hd3 (f.result==1) (f.result==2) (f.result==0) f.iter),trivial⟩) (aB (ai ?_)));have aba:k6 f=(vQ f&&(vS f&&(EB f&&((List.range f.blocks.length).all (kz f)&&(List.range f.blocks.length).all (rP f))))):=rfl;rw[aba];have hH:vQ f=(uf f.name&&(gE f.args 0 (if(f.aL.length:Int)<6 then(f.aL.length:Int) else 6)&&(vH f&&(!decide ((1200:Int)<f.aL.length)&&(!decide ((60:Int)<f.cv.length)&&gE f.blocks.length 1 1200))))):=rfl;generalize eh:vH f=res at hH ⊢;refine ab ?_;refine cl og ?_;refine eW ?_;refine aT rfl rfl (Xc rfl rfl) (fun hc=>⟨ak,rfl⟩) ?_;refine gc jI ?_;refine aN ?_;refine aN ?_;refine aI ?_;refine gc jI ?_;refine ab ?_;refine aa (c6 rfl (fun h=>?_) fun h=>cu (aB (ai ?_)))
 .have h:=(QY _ _ _ _ _ _).symm.trans h;rw[<- hH] at h;have h:vQ f=false:=by simpa using h
  refine aB (ai ?_);refine SS ?_;refine aa (c8 (az (d:=B false) rfl ?_));rw[h];rfl
 have h:=(QY _ _ _ _ _ _).symm.trans h;rw[<- hH] at h;have J:vQ f=true:=by simpa using h
 rw[J,Bool.true_and];rw[hH] at J;simp only[aG,nD,Bool.not_eq_true',decide_eq_false_iff_not] at J;obtain⟨_,ha,hr,mn,gD,bV⟩:=J;subst hr;clear h hH
 have uM:0<=f.args/\f.args<=f.aL.length/\f.args<=6:=by
  split at ha<;>omega
 have hK:vS f=(p9 f.aL 3&&(p9 (f.aL.take f.args.toNat) 2&&(p9 f.cv 2&&(!decide ((6:Int)<f.signals.length)&& !f.signals.any fun s=> !isName s)))):=rfl;have B5:=B5 (l:=f.signals) (g:=193) (fs:=[]) (cs:=[]) (p:=fun s=> !isName s) (.fn oS oS) (fun x _=>aa7);have ha2:0<=f.args/\f.args<=f.aL.length:=⟨uM.1,uM.2.1⟩
 refine ab ?_;refine cl Gq ?_;refine bC ?_;refine aT rfl rfl (JR rfl Q1 c5 rfl Pr ha2) (fun hc=>⟨(by repeat' (first|exact trivial|exact hc|exact rfl|refine And.intro ?_ ?_)),trivial⟩) ?_;refine gc Gq ?_;refine aQ ?_;refine gc Gq ?_;refine aN ?_;refine ab ?_;refine gc B5 ?_;refine SS ?_;refine aa (c6 rfl (fun h=>?_) fun h=>cu (aB (ax ?_)))
 .have h:=(QZ _ _ _ _ _).symm.trans h;rw[<- hK] at h;have h:vS f=false:=by simpa using h
  refine aB (ai ?_);refine SS ?_;refine aa (c8 (az (d:=B false) rfl ?_));rw[h];rfl
 have h:=(QZ _ _ _ _ _).symm.trans h;rw[<- hK] at h;have J:vS f=true:=by simpa using h
 rw[J,Bool.true_and];rw[hK] at J;simp only[aG,Bool.not_eq_true',decide_eq_false_iff_not] at J;obtain⟨_,_,s6,hsg,_⟩:=J;clear h hK B5;have hS:EB f=(List.range (f.signals.length - 1)).all (rU f.signals):=rfl;rw[hS];have kM:f.signals.length<=6:=by omega
 refine SS ?_;refine aa (cN (fun s=>Ghost prog s ⟨aw [(1,.pt (aX f)),(3,.pt (aF P0 Q0 f))],fun _=>none,2⟩/\(List.range (f.signals.length - 1)).all (rU f.signals)=true) (lk (α:=Nat) (fun k=>⟨aw [(1,.pt (aX f)),(3,.pt (aF P0 Q0 f)),(5,I (k+1:Nat))],fun _=>none,2⟩) (fun k=>k<=f.signals.length - 1/\(List.range k).all (rU f.signals)=true) (fun k=>f.signals.length - k) 0 (eN eH) ⟨Nat.zero_le _,rfl⟩ ?_) ?_)
 .rintro k ⟨hk,C⟩;refine aQ ?_;refine aa ⟨_,rfl,fun h=>?_,fun h=>?_⟩
  .have af:k+1<f.signals.length:=by have:((k+1:Nat):Int)<f.signals.length:=by simpa using h
                                    omega
   have h1:f.signals[k]? =some f.signals[k]:=aK oG;have h2:f.signals[k+1]? =some f.signals[k+1]:=aK oG;have gD:rU f.signals k=Op.bytesLess f.signals[k].toList f.signals[k+1].toList:=by rw[rU,getD_some h1,getD_some h2]
   generalize f.signals[k]=s1 at h1 gD;generalize f.signals[k+1]=s2 at h2 gD;have oc:((k+1:Nat):Int) - 1=(k:Int)/\ -9223372036854775808<=(k:Int)/\(k:Int)<=9223372036854775807:=by omega
   refine fK SK ?_;refine aN ?_;refine ab ?_;refine au (V6 rfl rfl) ak trivial ?_;refine bE bP (aD rfl (fun h=>?_) fun h=>cI ?_)
   .have hf:rU f.signals k=false:=by rw[gD];simpa using h
    refine ws ?_;refine SS ?_;refine aa (bq (cz (bl (az (d:=B false) rfl ?_))));rw[mz oG hf];rfl
   .have ht:rU f.signals k=true:=by rw[gD];simpa using h
    refine av ?_;exact aa (aJ (k+1) (eN eH) ⟨oG,pU C ht⟩ oG)
  .have ba:¬ k+1<f.signals.length:=by intro J;simp at h;omega
   have:k=f.signals.length - 1:=by omega
   subst this;exact⟨eN eH,C⟩
 rintro s ⟨hg,C⟩;rw[C,Bool.true_and];clear C hS;refine⟨_,hg,ax ?_⟩;refine ab ?_;refine aa (aR (bg (l:=[(1,.pt (aX f)),(3,.pt (aF P0 Q0 f)),(6,.mp 2)]) (ml:=[(2,.map (kn []))]) eH eH) (aB (ax ?_)));refine aI ?_;generalize hn:f.blocks.length=n at bV ⊢;refine aa (cN (fun s=>∃ N,Ghost prog s ⟨aw [(1,.pt (aX f)),(3,.pt (aF P0 Q0 f))],fun _=>none,N⟩/\(List.range n).all (kz f)=true) (cG (α:=Nat×Nat) (fun k=>⟨aw [(1,.pt (aX f)),(3,.pt (aF P0 Q0 f)),(6,.mp 2),(123,dM f.blocks),(124,I n),(125,I k.1)],bi [(2,.map (kn (rV f.blocks k.1)))],k.2⟩) (fun k=>k.1<=n/\(List.range k.1).all (kz f)=true/\3<=k.2) (fun k=>n - k.1) (0,3) (bg eH eH) ⟨Nat.zero_le _,rfl,aU _⟩ ?_) ?_)
 .rintro⟨k,N⟩ ⟨hk,C,hN⟩;dsimp only at hk C hN ⊢;refine SS ?_;refine aa ⟨_,rfl,fun h=>?_,fun h=>?_⟩
  .have af:k<n:=by simpa using h
   have hx:f.blocks[k]? =some f.blocks[k]:=aK oG;generalize f.blocks[k]=x at hx;have M:kz f k=(mP f x.fin&&(!decide ((200:Int)<x.ins.length)&& !(x.fin.kind==7&&(rV f.blocks k).any (·==x.fin.a)))):=by rw[kz,getD_some hx]
   have X:=RV hx;have Cd:=Cd (f:=f) (x:=x.fin);generalize rV f.blocks k=l at M X;refine ax ?_;refine aI ?_;refine aa (aR (oX (i:=N) (l:=[(1,.pt (aX f)),(3,.pt (aF P0 Q0 f)),(6,.mp 2),(8,.pt (dt x)),(123,dM f.blocks),(124,I n),(125,I k)]) (ml:=[(2,.map (kn l))]) (up_same _ _ _) ⟨rfl,rfl,rfl,qw,rfl,rfl,rfl,trivial⟩ ⟨J5 oG (al oG (al oG rfl)) (VF l),trivial⟩) (aB (ai ?_)));generalize mP f x.fin=e at Cd M;refine av ?_;refine cl Cd ?_;refine eW ?_;refine aa (c6 rfl (fun h=>?_) fun h=>cu (ai ?_))
   .have hf:kz f k=false:=by
     rw[M];cases e with
     |false=>rfl
     |true=>have:decide ((200:Int)<x.ins.length)=true:=by simpa using h
            rw[this];rfl
    refine aB (ai ?_);refine SS ?_;refine aa (c8 (cz (bl (az (d:=B false) rfl ?_))));rw[mz af hf];rfl
   have M:kz f k= !(x.fin.kind==7&&l.any (·==x.fin.a)):=by
    rw[M];cases e with
    |false=>simp at h
    |true=>have:decide ((200:Int)<x.ins.length)=false:=by simpa using h
           rw[this];rfl
   refine aI ?_;refine aa (aD rfl (fun h7=>?_) fun h7=>cI ?_)
   .rw[h7] at M X;refine aB (ai ?_);refine aI ?_;refine au (rI rfl rfl rfl FE (Wy Yd _ _)) bF ⟨FF,L2 CU _,KF CU _⟩ ?_;refine aa (c6 rfl (fun h=>?_) fun h=>cu (fY ?_))
    .have hf:kz f k=false:=by rw[M,h];rfl
     refine aB (ai ?_);refine SS ?_;refine aa (c8 (cz (bl (az (d:=B false) rfl ?_))));rw[mz af hf];rfl
    .have ht:kz f k=true:=by rw[M,h];rfl
     refine aI ?_;refine bB (Bx rfl rfl rfl rfl FE) bF ⟨FF,L2 CU _,KF CU _⟩ ?_;refine aa ?_;refine ab ?_;refine aa (aJ (k+1,_) (bg eH ⟨?_,trivial⟩) ⟨oM,pU C ht,oM⟩ oM);dsimp only;rw[X,if_pos rfl, <- Wz h];exact up_same _ _ _
   .rw[h7] at M X;refine ab ?_;refine aa (aJ (k+1,_) (bg eH ⟨?_,trivial⟩) ⟨oM,pU C M,oM⟩ oM);dsimp only;rw[X,if_neg oS];rfl
  .have ba:¬ k<n:=by simpa using h
   have:k=n:=by omega
   subst this;exact⟨N,eN eH,C⟩
 rintro s ⟨N,hg,C⟩;rw[C,Bool.true_and]
 have hE:∀ x∈f.blocks,BS f x.fin:=fun x hx=>by
  obtain⟨k,hk⟩:=cU hx;have af:k<n:=by rw[<- hn];exact(bj.1 hk).1
  have:=bh.1 C k (by simpa using af);rw[kz,getD_some hk] at this;simp only[aG] at this;exact J4 oG eh this.1
 have xJ:=xJ (f:=f) ju jv rfl rfl hn oG (fun b h=>by have:=(hE b h).wh;omega) (fun b h t ht=>hn▸(hE b h).to t (Dm.1 ht));refine⟨_,hg,ai ?_⟩;refine SS ?_;refine cl xJ ?_;refine SS ?_;refine aa (aB (ax ?_));refine aI ?_;refine aa (cN (fun s=>(List.range n).all (rP f)=true) (cG (α:=Nat×Nat) (fun k=>⟨aw [(1,.pt (aX f)),(3,.pt (aF P0 Q0 f)),(9,bR (bu f.blocks)),(157,dM f.blocks),(158,I n),(159,I k.1)],fun _=>none,k.2⟩) (fun k=>k.1<=n/\(List.range k.1).all (rP f)=true) (fun k=>n - k.1) (0,N) (eN ⟨rfl,rfl,rfl,rfl,congrArg (fun k:Nat=>I k) hn,rfl,trivial⟩) ⟨Nat.zero_le _,rfl⟩ ?_) ?_)
 .rintro⟨k,N⟩ ⟨hk,C⟩;dsimp only at hk C ⊢;refine SS ?_;refine aa ⟨_,rfl,fun h=>?_,fun h=>?_⟩
  .have af:k<n:=by simpa using h
   have hx:f.blocks[k]? =some f.blocks[k]:=aK oG;have fW:f.blocks[k]∈f.blocks:=cZ _;generalize f.blocks[k]=x at hx fW;have hA:=DA hn af;have jH:rP f k=(List.range x.ins.length).all (rO f k x.ins):=by rw[rP,getD_some hx]
   have q7:∀ j,rO f k x.ins j=jQ f k (x.ins.getD j qj) ((x.ins.take (j+1)).all fC) (bw f.blocks n k).length:=fun j=>by rw[rO,hn]
   generalize bw f.blocks n k=A at hA q7;refine ax ?_;refine bC ?_;refine aa (aR (o5 (i:=N) (l:=[(1,.pt (aX f)),(3,.pt (aF P0 Q0 f)),(9,bR (bu f.blocks)),(10,I k),(11,.pt (dt x)),(157,dM f.blocks),(158,I n),(159,I k)]) (up_same _ _ _) ⟨rfl,rfl,rfl,rfl,qw,rfl,rfl,rfl,trivial⟩) (ai ?_));refine SS ?_;refine aa (ax ?_);refine aI ?_
   have eQ:x.ins.length<=200:=by
    have:=bh.1 ‹(List.range n).all (kz f)=true› k (by simpa using af);rw[kz,getD_some hx] at this;simp only[aG,Bool.not_eq_true',decide_eq_false_iff_not] at this;omega
   refine aa (cG (α:=Nat×Nat) (fun j=>⟨aw [(1,.pt (aX f)),(3,.pt (aF P0 Q0 f)),(9,bR (bu f.blocks)),(10,I k),(12,B ((x.ins.take j.1).all fC)),(157,dM f.blocks),(158,I n),(159,I k),(165,jj x.ins),(166,I x.ins.length),(167,I j.1)],fun _=>none,j.2⟩) (fun j=>j.1<=x.ins.length/\(List.range j.1).all (rO f k x.ins)=true) (fun j=>x.ins.length - j.1) (0,N+1) (eN eH) ⟨Nat.zero_le _,rfl⟩ ?_);rintro⟨j,N⟩ ⟨hj,FG⟩;dsimp only at hj FG ⊢;refine SS ?_;refine aa ⟨_,rfl,fun h=>?_,fun h=>?_⟩
   .have dy:j<x.ins.length:=by simpa using h
    have hy:x.ins[j]? =some x.ins[j]:=aK dy;generalize x.ins[j]=y at hy;have uX:(x.ins.take (j+1)).all fC=((x.ins.take j).all fC&&fC y):=by rw[List.take_add_one,hy,List.all_append];simp
    have q7:=q7 j;rw[getD_some hy] at q7;generalize (x.ins.take j).all fC=ph at uX;refine ax ?_;refine aI ?_;refine aa (aR (o5 (i:=N) (l:=[(1,.pt (aX f)),(3,.pt (aF P0 Q0 f)),(9,bR (bu f.blocks)),(10,I k),(12,B ph),(14,.pt (b7 y)),(157,dM f.blocks),(158,I n),(159,I k),(165,jj x.ins),(166,I x.ins.length),(167,I j)]) (up_same _ _ _) ⟨rfl,rfl,rfl,rfl,rfl,qw,rfl,rfl,rfl,rfl,rfl,rfl,trivial⟩) (ax ?_));refine eW ?_;refine aa (aR (eN (l:=[(1,.pt (aX f)),(3,.pt (aF P0 Q0 f)),(9,bR (bu f.blocks)),(10,I k),(12,B ((x.ins.take (j+1)).all fC)),(14,.pt (b7 y)),(157,dM f.blocks),(158,I n),(159,I k),(165,jj x.ins),(166,I x.ins.length),(167,I j)]) ⟨rfl,rfl,rfl,rfl,?_,rfl,rfl,rfl,rfl,rfl,rfl,rfl,trivial⟩) (fK SL ?_))
    .rw[uX];cases ph<;>rfl
    have Ce:=Ce (f:=f) (b:=(k:Int)) (ahead:=(A.length:Int)) (x:=y) (phis:=(x.ins.take (j+1)).all fC);rw[<- q7] at Ce;refine aN ?_;refine cl Ce ?_;refine SS ?_;refine bE bP (aD rfl (fun h=>?_) fun h=>cI ?_)
    .have hf:rO f k x.ins j=false:=by simpa using h
     refine ws ?_;refine SS ?_;refine aa (bq (cz (cz (bl (az (d:=B false) rfl ?_)))));rw[mz af (by rw[jH];exact mz dy hf)]
    .have ht:rO f k x.ins j=true:=by simpa using h
     refine ab ?_;exact aa (aJ (j+1,_) (eN eH) ⟨oM,pU FG ht⟩ oM)
   .have ba:¬ j<x.ins.length:=by simpa using h
    have z3:j=x.ins.length:=by omega
    subst z3;show AOps _ _ _ _ _ _ _ _ _;refine ab ?_;exact aa (aJ (k+1,_) (eN eH) ⟨oM,pU oN (jH.trans FG)⟩ oM)
  .have ba:¬ k<n:=by simpa using h
   have:k=n:=by omega
   subst this;show(List.range k).all (rP f)=true
   assumption
 .rintro⟨env,m,nx⟩ C;refine⟨_,.refl _,ai ?_⟩;refine SS ?_;refine aa (az (d:=B true) rfl ?_);rw[C]
theorem tF{f:aC}:PCall prog 95 [.agg (aX f)] (I (bW f)):=by
 have M:∀ a∈[D.agg (aX f)],Tr a:=.cons (.agg (jL f)) .nil;refine bd Ps M (.s _) ?_;rw[abb];have Gs:=Gs (f:=f);refine ax ?_;refine ab ?_;refine aa (aR (o5 (i:=0) (l:=[(1,.pt (aX f))]) rfl eH) (tM (ai ?_)));refine SS ?_;refine cl Gs ?_;refine ab ?_;refine aa (aD rfl (fun h=>ai ?_) fun h=>ai ?_)
 .have hf:k6 f=false:=by simpa using h
  refine SS ?_;refine aa (bq (eF (bl (az (d:=I 80) rfl ?_))));rw[bW,if_neg (by simp[hf])]
 .have hf:k6 f=true:=by simpa using h
  have C:=mN hf;obtain⟨args,ha⟩:=dd C.args.1;have uM:=C.args.2;have Cc:=Cc (p:=.s (.map none)) (q:=.s (.map none)) (f:=f) (.s _) (.s _) rfl rfl rfl C.pos (by have:=C.oD;omega) ha oG (IX args) C.blk (fun b x hx y hy X=>C.Q3 hx hy X);have J:bW f=if vG f.blocks args=true then 0 else 81:=by rw[bW,if_pos hf,ha,b9]
  generalize vG f.blocks args=r at Cc J;refine SS ?_;refine Pt ?_;refine cl Cc ?_;refine ab ?_;refine aa (aD rfl (fun h=>ai ?_) fun h=>r8 (ai ?_))
  .have hr:r=false:=by simpa using h
   refine SS ?_;refine aa (bq (eF (bl (az (d:=I 81) rfl ?_))));rw[J,hr];rfl
  .have hr:r=true:=by simpa using h
   refine SS ?_;refine aa (bq (az (d:=I 0) rfl ?_));rw[J,hr];rfl
end Go.Proofs.Tryz.K
namespace Go.Argus
def ND(a b:Int):Int:=intBitsV .andNot .u64 a b
def BT(w:List Int)(m:Nat):List Int:=w.set (m / 64) (ND (w.getD (m / 64) 0) (IntKind.u64.wrap (1*2 ^ (min (m % 64) 64))))
def zl(w:List Int)(n:Int):List Int:=if 0<=n then BT w n.toNat else w
def sy(w v:List Int):Nat->List Int
 |0=>w
 |k+1=>(sy w v k).set k (At ((sy w v k).getD k 0) (v.getD k 0))
def Yf(w v:List Int):List Int:=sy w v 19
@[simp] theorem aeF (w : List Int) (m : Nat) : (BT w m).length = w.length := by simp [BT]
@[simp] theorem aeG (w : List Int) (n : Int) : (zl w n).length = w.length := by unfold zl; split <;> simp
@[simp] theorem Jk (w v : List Int) : ∀ k, (sy w v k).length = w.length
 |0=>rfl
 |k+1=>by simp[sy,Jk w v k]
@[simp] theorem aeH (w v : List Int) : (Yf w v).length = w.length := Jk w v 19
def gF(x:End):List Int:=if x.kind≠3/\x.kind≠4 then [x.to] else []
def lI(x:End):List Int:=if x.kind=2\/x.kind=8 then gF x++[x.iz] else gF x
def dL(x:End)(k:Nat):List Int:=lI x++(x.aE.take k).map (·.to)
def gg(x:End):List Int:=if 0<=x.di then dL x x.aE.length++[x.di] else dL x x.aE.length
theorem UF{x:End}{k:Nat}{w:hC}(h:x.aE[k]? =some w):dL x (k+1)=dL x k++[w.to]:=by
 unfold dL;rw[List.take_add_one,h,List.map_append,List.append_assoc];rfl
theorem ED(x:End):(lI x).length<=2:=by unfold lI gF;repeat' split<;>simp
theorem Tx(x:End):(gg x).length<=x.aE.length+3:=by
 have:=ED x;unfold gg dL;split<;>simp<;>omega
end Go.Argus
end
namespace Go.Argus
open Go Go.Abs
theorem JA(v:BitVec 64):eU (IntKind.u64.wrap (v.toNat:Int)):=by
 rw[wrap_u64 v.isLt];have:=v.isLt;unfold eU;omega
theorem SW(a b:Int):eU (ND a b):=JA (BitVec.ofInt 64 a&&& ~~~ BitVec.ofInt 64 b)
theorem TM(a b:Int):eU (At a b):=JA (BitVec.ofInt 64 a||| BitVec.ofInt 64 b)
def gv(w:List Int):Prop:=∀ u∈w,eU u
theorem gv.get{w:List Int}(h:gv w)(i:Nat):eU (w.getD i 0):=by
 rw[aV];cases hx:w[i]? with
 |none=>exact⟨oS,oS⟩
 |some u=>exact h u (bJ hx)
theorem gv.set{w:List Int}(h:gv w){i:Nat}{u:Int}(C:eU u):gv (w.set i u):=fun x hx=>by
 rcases List.mem_or_eq_of_mem_set hx with h1|h1
 .exact h x h1
 .subst h1;exact C
theorem gv.less{w:List Int}(h:gv w)(m:Nat):gv (BT w m):=h.set (SW _ _)
theorem gv.zl{w:List Int}(h:gv w)(n:Int):gv (zl w n):=by
 unfold Argus.zl;split
 .exact h.less _
 .exact h
theorem gv.sy{w v:List Int}(h:gv w):∀ k,gv (sy w v k)
 |0=>h
 |k+1=>(gv.sy h k).set (TM _ _)
section
variable(beh:Nat->List Int)(ab6:Nat->Bool->Int)(ent:Nat->Nat->Int)
variable{beh ab6 ent}{abe:Nat->Bool}{wIn:Nat->Bool->Bool}
end
def sB(s:List Bool)(c:Int):Bool:=s.getD c.toNat false
def cW(beh:Nat->List Int)(w:Int):Nat->List Bool×List Int->Nat->List Bool×List Int
 |0,s,_=>s
 |k+1,s,b=>
  let r:=(beh b).foldl (fun s c=>if sB s.1 c=false/\c≠w then cW beh w k s c.toNat else s) (s.1.set b true,s.2)
  (r.1,r.2++[(b:Int)])
def cJ(beh:Nat->List Int)(w:Int)(k:Nat)(s:List Bool×List Int)(l:List Int):List Bool×List Int:=
 l.foldl (fun s c=>if sB s.1 c=false/\c≠w then cW beh w k s c.toNat else s) s
theorem pV(beh:Nat->List Int)(w:Int)(k:Nat)(s:List Bool×List Int)(b:Nat):
 cW beh w (k+1) s b=((cJ beh w k (s.1.set b true,s.2) (beh b)).1,(cJ beh w k (s.1.set b true,s.2) (beh b)).2++[(b:Int)]):=rfl
theorem AZ(beh:Nat->List Int)(w:Int)(k:Nat)(s:List Bool×List Int)(l:List Int)(c:Int):
 cJ beh w k s (l++[c])=(if sB (cJ beh w k s l).1 c=false/\c≠w then cW beh w k (cJ beh w k s l) c.toNat else cJ beh w k s l):=by
 rw[cJ,List.foldl_append];rfl
theorem Bm{α:Type}{p:List α->Prop}(h0:p [])(h1:∀ l a,p l->p (l++[a]))(l:List α):p l:=by
 have h:∀ l:List α,p l.reverse:=fun l=>by
  induction l with
  |nil=>exact h0
  |cons a l ih=>rw[List.reverse_cons];exact h1 _ _ ih
 have:=h l.reverse
 rwa[List.reverse_reverse] at this
theorem De{l:List Bool}{b:Nat}:(l.set b true).count false<=l.count false:=by
 induction l generalizing b with
 |nil=>simp
 |cons x l ih=>
  cases b with
  |zero=>cases x<;>simp
  |succ b=>simp only[List.set_cons_succ,List.count_cons];have:=ih (b:=b);omega
theorem tJ{l:List Bool}{b:Nat}(h:l[b]? =some false):(l.set b true).count false+1=l.count false:=by
 induction l generalizing b with
 |nil=>simp at h
 |cons x l ih=>
  cases b with
  |zero=>simp at h;subst h;simp
  |succ b=>simp only[List.set_cons_succ,List.count_cons];have:=ih (b:=b) (by simpa using h);omega
structure pI(beh:Nat->List Int)(w:Int)(s s':List Bool×List Int):Prop where
 len:s'.1.length=s.1.length
 cnt:s'.1.count false<=s.1.count false
 mono:∀ i,s.1.getD i false=true->s'.1.getD i false=true
 out:∃ l:List Int,s'.2=s.2++l/\l.Nodup/\∀ x,x∈l↔0<=x/\s'.1.getD x.toNat false=true/\s.1.getD x.toNat false=false
theorem pI.refl{beh:Nat->List Int}{w:Int}(s:List Bool×List Int):pI beh w s s:=⟨rfl,aU _,fun _ h=>h,[],oS,List.nodup_nil,fun x=>by
 constructor
 .intro h;simp at h
 .rintro⟨_,h1,h2⟩;rw[h1] at h2;cases h2⟩
theorem pI.trans{beh:Nat->List Int}{w:Int}{s t u:List Bool×List Int}(h1:pI beh w s t)(h2:pI beh w t u):pI beh w s u:=by
 refine⟨h2.len.trans h1.len,Nat.le_trans h2.cnt h1.cnt,fun i h=>h2.mono i (h1.mono i h),?_⟩;obtain⟨M,a1,b1,C⟩:=h1.out;obtain⟨X,a2,b2,J⟩:=h2.out;refine⟨M++X,by rw[a2,a1,List.append_assoc],?_,fun x=>?_⟩
 .rw[List.nodup_append];refine⟨b1,b2,fun a ha b hb e=>?_⟩;subst e;have:=((C a).1 ha).2.1;rw[((J a).1 hb).2.2] at this;cases this
 .rw[List.mem_append,C,J];constructor
  .rintro(⟨h0,h,h'⟩|⟨h0,h,h'⟩)
   .exact⟨h0,h2.mono _ h,h'⟩
   .refine⟨h0,h,?_⟩;cases hs:s.1.getD x.toNat false with
    |false=>rfl
    |true=>rw[h1.mono _ hs] at h';cases h'
  .rintro⟨h0,h,h'⟩;cases ht:t.1.getD x.toNat false with
   |true=>exact .inl ⟨h0,rfl,h'⟩
   |false=>exact .inr ⟨h0,h,rfl⟩
theorem getD_set_true{l:List Bool}{b i:Nat}(hb:b<l.length):(l.set b true).getD i false=(decide (i=b)||l.getD i false):=by
 simp only[aV,List.getElem?_set];split
 .rename_i h;subst h;simp[hb]
 .rename_i h;have:¬ i=b:=fun e=>h e.symm;simp[this]
section
variable{beh:Nat->List Int}{w:Int}{n:Nat}(hb:∀ b,∀ c∈beh b,0<=c/\c.toNat<n)
theorem tL{l:List Bool}{c:Nat}(h:l.getD c false=false)(hc:c<l.length):l[c]? =some false:=by
 rw[aV,aK hc] at h;rw[aK hc];simpa using h
include hb in
theorem Kk:∀ (k:Nat) (s:List Bool×List Int) (b:Nat),s.1.length=n->b<n->s.1.count false<=k->s.1.getD b false=false->
 pI beh w s (cW beh w k s b)/\(cW beh w k s b).1.getD b false=true/\
 (∀ x,(cW beh w k s b).1.getD x false=true->s.1.getD x false=false->∀ c∈beh x,c≠w->(cW beh w k s b).1.getD c.toNat false=true)
 |0,s,b,hn,mw,hk,hs=>by
  have:=tJ (tL hs oG);omega
 |k+1,s,b,hn,mw,hk,hs=>by
  have h0:pI beh w s (s.1.set b true,s.2++[(b:Int)]):=by
   refine⟨oS,De,fun i h=>?_,[(b:Int)],rfl,oS,fun x=>?_⟩
   .simp only;rw[getD_set_true oG,h,Bool.or_true]
   .simp only[getD_set_true (show b<s.1.length by omega),List.mem_singleton];constructor
    .rintro rfl;simp[<- List.getD_eq_getElem?_getD,hs]
    .rintro⟨h1,h2,h3⟩;rw[h3,Bool.or_false,decide_eq_true_eq] at h2;omega
  have hF:∀ l:List Int,(∀ c∈l,0<=c/\c.toNat<n)->∀ o,let r:=cJ beh w k (s.1.set b true,o) l
   pI beh w (s.1.set b true,o) r/\(∀ c∈l,c≠w->r.1.getD c.toNat false=true)/\
   (∀ x,r.1.getD x false=true->(s.1.set b true).getD x false=false->∀ c∈beh x,c≠w->r.1.getD c.toNat false=true):=by
   intro l
   induction l using Bm with
   |h0=>intro _ o;exact⟨.refl _,fun c h=>by simp at h,fun x h h'=>by rw[show(cJ beh w k (s.1.set b true,o) []).1=s.1.set b true from rfl,h'] at h;cases h⟩
   |h1 l c ih=>
    intro hl o;obtain⟨C,X,g3⟩:=ih (fun c h=>hl c (by simp[h])) o;simp only;rw[AZ];generalize cJ beh w k (s.1.set b true,o) l=t at C X g3;have hc:=hl c oS;have cD:t.1.length=n:=by rw[C.len];simp[hn]
    split
    .rename_i nb;have s9:t.1.getD c.toNat false=false:=nb.1
     have zG:t.1.count false<=k:=by
      have a1:=C.cnt;have a2:=tJ (tL hs oG);simp only at a1;omega
     obtain⟨q1,q2,q3⟩:=Kk k t c.toNat cD hc.2 zG s9;refine⟨C.trans q1,fun M h' J=>?_,fun x h1 h2 M xh J=>?_⟩
     .rw[List.mem_append] at h';rcases h' with h'|h'
      .exact q1.mono _ (X M h' J)
      .simp at h';subst h';exact q2
     .cases ht:t.1.getD x false with
      |true=>exact q1.mono _ (g3 x ht h2 M xh J)
      |false=>exact q3 x h1 ht M xh J
    .rename_i nb;refine⟨C,fun M h' J=>?_,g3⟩;rw[List.mem_append] at h';rcases h' with h'|h'
     .exact X M h' J
     .simp at h';subst h';cases ht:t.1.getD M.toNat false with
      |true=>rfl
      |false=>exact absurd ⟨ht,J⟩ nb
  rw[pV];obtain⟨C,X,g3⟩:=hF (beh b) (hb b) s.2;generalize cJ beh w k (s.1.set b true,s.2) (beh b)=t at C X g3;have fH:t.1.getD b false=true:=C.mono b (by simp only;rw[getD_set_true oG];simp);refine⟨⟨by have:=C.len;simp at this;exact this,Nat.le_trans C.cnt De,fun i h=>C.mono i (by simp only;rw[getD_set_true oG,h,Bool.or_true]),?_⟩,fH,fun x h1 h2 c hc J=>?_⟩
  .obtain⟨l,e,nd,hm⟩:=C.out;simp only at e hm;refine⟨l++[(b:Int)],by simp only;rw[e,List.append_assoc],?_,fun x=>?_⟩
   .rw[List.nodup_append];refine⟨nd,oS,fun a ha b' ic e=>?_⟩;simp at ic;subst ic e;have:=((hm _).1 ha).2.2;rw[getD_set_true oG] at this;simp at this
   .rw[List.mem_append,hm,getD_set_true oG,List.mem_singleton];simp only;constructor
    .rintro(⟨h0,h1,h2⟩|rfl)
     .simp only[Bool.or_eq_false_iff] at h2;exact⟨h0,h1,h2.2⟩
     .exact⟨oG,by simpa using fH,by simpa using hs⟩
    .rintro⟨h0,h1,h2⟩;by_cases hx:x=(b:Int)
     .exact .inr hx
     .refine .inl ⟨h0,h1,?_⟩;rw[h2];have:¬ x.toNat=b:=by omega
      simp[this]
  .simp only at h1 ⊢;by_cases hx:x=b
   .subst hx;exact X c hc J
   .exact g3 x h1 (by rw[getD_set_true oG,h2];simp[hx]) c hc J
end
def b8(beh:Nat->List Int)(n:Nat)(w:Int):List Bool:=if w=0 then List.replicate n false else(cW beh w n (List.replicate n false,[]) 0).1
def bH(beh:Nat->List Int)(n:Nat):List Int:=(cW beh (-1) n (List.replicate n false,[]) 0).2.reverse
section
variable{beh:Nat->List Int}{n:Nat}(hb:∀ b,∀ c∈beh b,0<=c/\c.toNat<n)(hn:0<n)
include hb hn
theorem zM(w:Int):pI beh w (List.replicate n false,[]) (cW beh w n (List.replicate n false,[]) 0)/\(cW beh w n (List.replicate n false,[]) 0).1.getD 0 false=true/\
 (∀ x,(cW beh w n (List.replicate n false,[]) 0).1.getD x false=true->∀ c∈beh x,c≠w->(cW beh w n (List.replicate n false,[]) 0).1.getD c.toNat false=true):=by
 have C:∀ i,(List.replicate n false).getD i false=false:=fun i=>by
  rw[aV,List.getElem?_replicate];split<;>rfl
 obtain⟨h1,h2,h3⟩:=Kk (w:=w) hb n (List.replicate n false,[]) 0 oS hn oS (C 0);exact⟨h1,h2,fun x hx=>h3 x hx (C x)⟩
theorem vB(w:Int):(b8 beh n w).length=n:=by
 unfold b8;split
 .simp
 .rw[(zM hb hn w).1.len];simp
theorem DL{x:Int}:x∈bH beh n↔0<=x/\(b8 beh n (-1)).getD x.toNat false=true:=by
 obtain⟨h1,_,_⟩:=zM hb hn (-1);obtain⟨l,e,_,hm⟩:=h1.out;unfold bH b8;rw[if_neg oG,List.mem_reverse,e];simp only[List.nil_append];rw[hm]
 have C:(List.replicate n false).getD x.toNat false=false:=by
  rw[aV,List.getElem?_replicate];split<;>rfl
 simp only[C,and_true]
theorem Dn:(bH beh n).Nodup:=by
 obtain⟨h1,_,_⟩:=zM hb hn (-1);obtain⟨l,e,nd,_⟩:=h1.out;unfold bH;rw[e];exact List.pairwise_reverse.2 (nd.imp fun h e=>h e.symm)
theorem Iv{x:Nat}(hx:(b8 beh n (-1)).getD x false=true):∀ c∈beh x,(b8 beh n (-1)).getD c.toNat false=true:=by
 obtain⟨_,_,h3⟩:=zM hb hn (-1);unfold b8 at hx ⊢;rw[if_neg oG] at hx ⊢;intro c hc;exact h3 x hx c hc (by have:=hb x c hc;omega)
end
end Go.Argus
section
open Go Go.Abs Go.Proofs Go.Argus
namespace Go.Proofs.Tryz.K
set_option maxRecDepth 10000
def CW(x:Argus.End)(l:List Int)(s:St):Prop:=∃ r m nx,r<nx/\m r=some (.cells (l.map I) 3)/\Ghost prog s ⟨aw [(1,.pt (bm x)),(3,.rs r 0 l.length)],m,nx⟩
theorem zF{x:Argus.End}(hlen:x.aE.length<=100000):OCall prog 115 [.agg (bm x)] ((gg x).map I) (gg x).length 3:=by
 have aH:∀ a∈[D.agg (bm x)],Tr a:=.cons (.agg (mF x)) .nil;refine uW NE aH (.map fun _=>.s _) ?_;rw[Yg];refine ax ?_;refine ab ?_;refine aa (aR (cE [(0,bm x,69)] eH (l:=[(1,.pt (bm x))]) eH) (ax ?_));refine SS ?_;refine aa ⟨_,.nilrow _ _ _ 3 3 rfl,?_⟩;refine eO (CW x (gF x)) (ai ?_) fun s hs=>?_
 .have yes:x.kind≠3/\x.kind≠4->gF x=[x.to]:=fun h=>by rw[gF,if_pos h]
  have no:¬ (x.kind≠3/\x.kind≠4)->gF x=[]:=fun h=>by rw[gF,if_neg h]
  have aj:up (fun _=>(none:Option Row)) 1 (some (.cells [] 3)) 1=some (.cells [] 3):=up_same _ _ _;by_cases h3:x.kind=3
  .have fR:(x.kind !=3)=false:=by simp[h3]
   refine aI ?_;(iterate 3 refine z fun _ _=>?_);refine SS ?_;refine aa (aD rfl (fun h=>oH) fun h=>bD ?_);rw[no (by simp[h3])];exact⟨_,_,_,Nat.lt_succ_self _,up_same _ _ _,aq eH⟩
  .by_cases h4:x.kind=4
   .have fR:(x.kind !=3)=true:=by simp[h4]
    have Yh:(x.kind !=4)=false:=by simp[h4]
    refine cy ?_;refine aa (aD rfl (fun h=>(by simp[h4] at h)) fun h=>bD ?_);rw[no (by simp[h4])];exact⟨_,_,_,Nat.lt_succ_self _,up_same _ _ _,aq eH⟩
   .have fR:(x.kind !=3)=true:=by simp[h3]
    have Yh:(x.kind !=4)=true:=by simp[h4]
    refine cy ?_;refine aa (aD rfl (fun h=>?_) fun h=>(by simp[h4] at h));refine kB ?_;refine aI ?_;refine abc ?_;refine SS ?_;refine aa ?_;rw[yes ⟨h3,h4⟩];exact⟨_,_,_,Nat.lt_succ_self _,up_same _ _ _,aq eH⟩
 obtain⟨r,m,nx,hr,aj,hg⟩:=hs;refine⟨_,hg,eO (CW x (lI x)) (ai ?_) fun s hs=>?_⟩
 .have C:lI x=if x.kind=2\/x.kind=8 then gF x++[x.iz] else gF x:=rfl
  have J:(gF x).length<=1:=by unfold gF;split<;>simp
  generalize gF x=l at aj C J;have X:(l.map I).length=l.length:=by simp
  by_cases h2:x.kind=2\/x.kind=8
  .rw[if_pos h2] at C;refine cy ?_;refine aa (aD rfl (fun h=>kB ?_) fun h=>(by rcases h2 with h2|h2<;>simp[h2] at h));refine aI ?_;refine Q4 ?_;refine SS ?_;refine aa ?_;rw[C];refine⟨_,_,_,Nat.lt_succ_self _,(up_same _ _ _).trans (by rw[List.map_append];rfl),aq ⟨rfl,?_,trivial⟩⟩;show D.rs _ 0 _=D.rs _ 0 _;rw[List.length_append];rfl
  .rw[if_neg h2] at C;refine cy ?_;refine aa (aD rfl (fun h=>(by exfalso;apply h2;revert h;by_cases e2:x.kind=2<;>by_cases e8:x.kind=8<;>simp[e2,e8])) fun h=>bD ?_);rw[C];exact⟨r,m,nx,hr,aj,aq eH⟩
 clear hg hr aj;obtain⟨r,m,nx,hr,aj,hg⟩:=hs;refine⟨_,hg,eO (CW x (dL x x.aE.length)) (ax ?_) fun s hs=>?_⟩
 .refine aI ?_
  refine aa (cG (α:=Nat×Nat×Mem×Nat) (fun s=>⟨aw [(1,.pt (bm x)),(3,.rs s.2.1 0 (dL x s.1).length),(33,mC x.aE),(34,I x.aE.length),(35,I s.1)],s.2.2.1,s.2.2.2⟩)
   (fun s=>s.1<=x.aE.length/\s.2.1<s.2.2.2/\s.2.2.1 s.2.1=some (.cells ((dL x s.1).map I) 3)) (fun s=>x.aE.length - s.1) (0,r,m,nx) (aq ⟨rfl,?_,rfl,rfl,rfl,trivial⟩) ⟨Nat.zero_le _,hr,?_⟩ ?_)
  .show D.rs r 0 _=D.rs r 0 _;simp[dL]
  .show m r=_;rw[aj];simp[dL]
  clear hg hr aj;rintro⟨j,r,m,nx⟩ ⟨hj,hr,aj⟩;dsimp only at hj hr aj ⊢;refine SS ?_;refine aa ⟨_,rfl,fun h=>?_,fun h=>?_⟩
  .have dy:j<x.aE.length:=by simpa using h
   have hy:x.aE[j]? =some x.aE[j]:=aK dy;generalize x.aE[j]=w at hy;have M:=UF hy;have xu:(dL x (j+1)).length=(dL x j).length+1:=by rw[M];simp
   have X:((dL x j).map I).length=(dL x j).length:=by simp
   have J:(dL x j).length<=2+j:=by have:=ED x;unfold dL;simp;omega
   generalize dL x j=l at aj M X xu J;refine ws ?_;refine aI ?_;refine aa (fY ?_);refine ab ?_;refine OE ?_;refine SS ?_;refine sH (r5 rfl (al oG (al oG (al oG aj))) rfl V.h V.h (rH (up_same _ _ _) rfl) rfl) ak ⟨V.h,rfl,(by first|omega|exact aP rfl|(simp;done)|(simp;omega)),oC,(by first|rfl|(simp;done)|(simp;omega)),(by unfold maxLen;first|omega|(simp;omega)),(by rw[b3];first|omega|(simp;omega)),(by first|(simp;done)|(simp;omega))⟩ ?_;refine SS ?_;refine aa ?_;refine ab ?_;refine aa (aJ (j+1,nx+1+1,_,_) (aq ⟨rfl,?_,rfl,rfl,rfl,trivial⟩) ⟨oM,oM,?_⟩ oM)
   .show D.rs _ 0 _=D.rs _ 0 _;rw[xu]
   .dsimp only;rw[M,List.map_append];exact up_same _ _ _
  .have ba:¬ j<x.aE.length:=by simpa using h
   have:j=x.aE.length:=by omega
   subst this;exact⟨r,m,nx,hr,aj,aq eH⟩
 clear hg hr aj;obtain⟨r,m,nx,hr,aj,hg⟩:=hs;refine⟨_,hg,eO (CW x (gg x)) (ai ?_) fun s hs=>?_⟩
 .have hd:gg x=if 0<=x.di then dL x x.aE.length++[x.di] else dL x x.aE.length:=rfl
  have J:(dL x x.aE.length).length<=2+x.aE.length:=by have:=ED x;unfold dL;simp;omega
  generalize dL x x.aE.length=l at aj hd J;have X:(l.map I).length=l.length:=by simp
  refine av ?_;refine aa (aD rfl (fun h=>kB ?_) fun h=>bD ?_)
  .rw[if_pos (by simpa using h)] at hd;refine aI ?_;refine Q4 ?_;refine SS ?_;refine aa ?_;rw[hd];refine⟨_,_,_,Nat.lt_succ_self _,(up_same _ _ _).trans (by rw[List.map_append];rfl),aq ⟨rfl,?_,trivial⟩⟩;show D.rs _ 0 _=D.rs _ 0 _;rw[List.length_append];rfl
  .rw[if_neg (by simpa using h)] at hd;rw[hd];exact⟨r,m,nx,hr,aj,aq eH⟩
 clear hg hr aj;obtain⟨r,m,nx,hr,aj,hg⟩:=hs;refine⟨_,hg,ai ?_⟩;refine ab ?_;exact aa (az rfl ⟨r,rfl,aj⟩)
end Go.Proofs.Tryz.K
end
