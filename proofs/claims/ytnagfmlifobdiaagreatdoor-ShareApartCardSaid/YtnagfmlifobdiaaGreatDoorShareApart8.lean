/- Part 8. -/
import Derived.Test.YtnagfmlifobdiaaGreatDoorShareApart4
import Derived.Below
import Derived.Carry
import Derived.ChangeOld
import Derived.MakeChecks
import Derived.OpenShut
set_option linter.all false
set_option maxHeartbeats 0
set_option maxRecDepth 10000
noncomputable section
namespace Go.Abs
open List
open Go.Proofs.Tryz
open Go
section
def bo(f:Func):Code:=(f.body).getD .skip
variable{o:Array Oper}
def hD(c:List (Nat×Nat))(h:ct o=some c:=by kernel_rfl):ct o=some c:=h
def iO(h:ct o=some []:=by kernel_rfl):ct o=some []:=h
abbrev FO(n:FuncId)(f:Func):=Aw prog n f (bo f)
def fo(f:Func){n:FuncId}(h1:prog.funcs[n]? =some f:=by kernel_rfl)(h2:f.body=some (bo f):=by kernel_rfl)(C:ke f.ntmps (bo f)=true:=by kernel_rfl)(J:pD prog n=true:=by kernel_rfl):FO n f:=⟨h1,h2,C,J⟩
def avo: f10.results.toList=[.tmp 8]:=kr
def fC:=bo f64
def tV:=bo f65
def Dl:=bo f93
def fk:=bo f111
variable{fn:Func}{c:Code}{args:List D}
def bx{f:FuncId}(hf:Aw prog f fn c)(ht:∀ a∈args,Tr a){r:D}(hr:Tr r)(h:AW prog iV true c (pb prog fn.results.toList λd _=>d=r) ⟨pN args,λ_=>none,0⟩)(hn:Nat.ble args.length fn.ntmps=true:=by kernel_rfl):aH prog f args r:=akV mixed hf hn ht hr h
variable{f:FuncId}
def OQ(hf:Aw prog f fn c)(ht:∀ a∈args,Tr a){es:List D}(C:∀ a∈es,Tr a){k:Nat}{t:TypeId}(h:AW prog iV true c (pb prog fn.results.toList λd st=>∃ i,d=.rs i 0 k∧st.mem i=some (.cells es t)) ⟨pN args,λ_=>none,0⟩)(hn:Nat.ble args.length fn.ntmps=true:=by kernel_rfl):pL prog f args es k t:=akW mixed hf hn ht C h
def AQ(hf:Aw prog f fn c){m:Mem}{nx:Nat}{fq:D->Mem->Nat->Prop}(h:AW prog iV true c (pb prog fn.results.toList λd st=>fq d st.mem st.nx) ⟨pN args,m,nx⟩)(hn:Nat.ble args.length fn.ntmps=true:=by kernel_rfl):js prog f args m nx fq:=akU mixed hf hn h
end
def gF(P:Program)(t:TypeId):Array Field:=match P.underlying t with|some (.struct fs)=>fs|_=> #[]
def u3:prog.underlying 3=some (.int .i64):=kr
def u5:prog.underlying 5=some (.int .u8):=kr
def u8:prog.underlying 8=some (.struct (gF prog 8)):=kr
def u70:prog.underlying 70=some (.struct (gF prog 70)):=kr
def u72:prog.underlying 72=some (.struct (gF prog 72)):=kr
def Tz:qL prog 111=237:=kr
def aeX:prog.underlying 121=some (.struct (gF prog 121)):=kr
def aeo:((gF prog 121).toList.map λf=>(f.offset,prog.cellsOf f.type))=[(0,1),(1,1)]:=kr
def aeq:((gF prog 121).toList.all λf=>(prog.info? f.type).isSome)=true:=kr
def ae4:prog.underlying 123=some (.struct (gF prog 123)):=kr
def aeN:((gF prog 123).toList.map λf=>(f.offset,prog.cellsOf f.type))=[(0,1),(1,1),(2,1)]:=kr
def aeO:((gF prog 123).toList.all λf=>(prog.info? f.type).isSome)=true:=kr
def I7:iZ prog 144=9:=kr
def I8:kN prog 144=true:=kr
def aey:prog.underlying 163=some (.struct (gF prog 163)):=kr
def adj:((gF prog 163).toList.map λf=>(f.offset,prog.cellsOf f.type))=[(0,1),(1,1)]:=kr
def adk:((gF prog 163).toList.all λf=>(prog.info? f.type).isSome)=true:=kr
def WG:iZ prog 172=121:=kr
def WH:kN prog 172=true:=kr
def aeY:prog.underlying 174=some (.struct (gF prog 174)):=kr
def aer:((gF prog 174).toList.map λf=>(f.offset,prog.cellsOf f.type))=[(0,2),(2,1)]:=kr
def aes:((gF prog 174).toList.all λf=>(prog.info? f.type).isSome)=true:=kr
def Tv:iZ prog 194=3:=kr
def Tw:kN prog 194=true:=kr
def zf(i:Nat):Code->Option (Array Oper)
 | .region j o _=>bif Nat.beq i j then some o else none
 | .seq a b=>match zf i a with
  |some x=>some x
  |none=>zf i b
 | .cond _ a b=>match zf i a with
  |some x=>some x
  |none=>zf i b
 | .block _ b=>zf i b
 | .loop b=>zf i b
 | .scope b=>zf i b
 | .rangeFunc _ _ a b=>match zf i a with
  |some x=>some x
  |none=>zf i b
 |_=>none
def Z(b:Code)(i:Nat):Array Oper:=(zf i b).getD #[]
end Go.Abs
namespace Go.Abs
open List
open Go
class V{α:Type}(x:α)(y:outParam α):Prop where h:x=y
section
variable{P:Program}{Y:iu}{ops:Array Oper}{dr:Bool}{cf:List (Nat×Nat)}{Q:Exit->St->Prop}{r:List Oper}{v:Env}{m:Mem}{n:Nat}{q:pk}{x:Oper}{s:St}{e:List Nat×List Nat}
variable{t:Option Nat}{u:Nat}{ty:TypeId}{pos:String}{after:Array Edge}{j:Nat}{b c:Bool}{op:Op}
def SO(P:Program)(Y:iu)(ops:Array Oper)(dr:Bool)(o:Oper)(v:Env)(m:Mem)(n:Nat)(s:St)(e:List Nat×List Nat):Prop:=
 ∀ cf Q r q,aE P Y ops dr cf Q r s (q++[e])->aE P Y ops dr cf Q (o::r) ⟨v,m,n⟩ q
def ak{l:List Operand}(h:je v l:=by repeat' (first|exact trivial|exact hc|exact rfl|refine And.intro ?_ ?_)):je v l:=h
def z(K:∀ (x:D) rd,aE P Y ops dr cf Q r (St.put ⟨v,m,n⟩ t (.dw false x)) (q++[(rd,[])]))(hj:(ops[j]?).bind (·.dst)=some u:=by exact rfl)(hg:nF (v u) b=some false:=by exact rfl):
 aE P Y ops dr cf Q (⟨t,op,ty,pos,after,some (j,b)⟩::r) ⟨v,m,n⟩ q:=acP hj hg K
def cl{f:FuncId}{gs:List D}{d:D}{t:Nat}(h:aH P f gs d)(K:aE P Y ops dr cf Q r ⟨up v t d,m,n⟩ (q++[([],[])]))(hc:eX (bO v op) op=some (f,gs):=by exact rfl)(ha:je v op.operands.toList:=by exact ak):
 aE P Y ops dr cf Q (⟨some t,op,ty,pos,after,none⟩::r) ⟨v,m,n⟩ q:=wX h hc ha K
def gc{f:FuncId}{gs:List D}{d:D}{t:Nat}(h:aH P f gs d)(K:aE P Y ops dr cf Q r ⟨up v t (.dw c d),m,n⟩ (q++[([],[])]))(hj:(ops[j]?).bind (·.dst)=some u:=by exact rfl)(hg:nF (v u) b=some c:=by exact rfl)(hl:eX (bO v op) op=some (f,gs):=by exact rfl)(ha:c=true->je v op.operands.toList:=by exact λhc=>ak):
 aE P Y ops dr cf Q (⟨some t,op,ty,pos,after,some (j,b)⟩::r) ⟨v,m,n⟩ q:=Di hj hg hl (λhc=>⟨ha hc,h⟩) K
def aeR(K:aE P Y ops dr cf Q r s (q++[e]))(h:SO P Y ops dr x v m n s e:=by intro _ _ _ _ k;exact cF rfl rfl (Sv rfl rfl xy) (λhc=>⟨ak,rfl⟩) k):aE P Y ops dr cf Q (x::r) ⟨v,m,n⟩ q:=h _ _ _ _ K
def ae3(K:aE P Y ops dr cf Q r s (q++[e]))(h:SO P Y ops dr x v m n s e:=by intro _ _ _ _ k;exact aI (wL rfl rfl fJ V.h V.h) ak ⟨V.h,by omega⟩ k):aE P Y ops dr cf Q (x::r) ⟨v,m,n⟩ q:=h _ _ _ _ K
def ae9(K:aE P Y ops dr cf Q r s (q++[e]))(h:SO P Y ops dr x v m n s e:=by intro _ _ _ _ k;exact aI (wL rfl rfl (ay oG (ay oG (ay oG aF))) V.h V.h) ak ⟨V.h,by omega⟩ k):aE P Y ops dr cf Q (x::r) ⟨v,m,n⟩ q:=h _ _ _ _ K
def ae'(K:aE P Y ops dr cf Q r s (q++[e]))(h:SO P Y ops dr x v m n s e:=by intro _ _ _ _ k;exact dH (lT (d:=.rs _ _ _) (cs':=_) rfl rfl (ay oG (ay oG (ay oG aF))) rfl rfl) ak (eO V.h V.h (by first|(simp;done)|exact⟨rfl,bL rfl⟩|(simp;omega)) rfl) k):aE P Y ops dr cf Q (x::r) ⟨v,m,n⟩ q:=h _ _ _ _ K
def ae7(K:aE P Y ops dr cf Q r s (q++[e]))(h:SO P Y ops dr x v m n s e:=by intro _ _ _ _ k;exact aI (wL rfl rfl (ay oG (ay oG aF)) V.h V.h) ak ⟨V.h,by omega⟩ k):aE P Y ops dr cf Q (x::r) ⟨v,m,n⟩ q:=h _ _ _ _ K
def ae8(K:aE P Y ops dr cf Q r s (q++[e]))(h:SO P Y ops dr x v m n s e:=by intro _ _ _ _ k;exact dH (lT (d:=.rs _ _ _) (cs':=_) rfl rfl (ay oG (ay oG aF)) rfl rfl) ak (eO V.h V.h (by first|(simp;done)|exact⟨rfl,bL rfl⟩|(simp;omega)) rfl) k):aE P Y ops dr cf Q (x::r) ⟨v,m,n⟩ q:=h _ _ _ _ K
def aqX(K:aE P Y ops dr cf Q r s (q++[e]))(h:SO P Y ops dr x v m n s e:=by intro _ _ _ _ k;exact cF rfl rfl (nZ rfl V.h V.h rfl) (λhc=>⟨ak,(n9 V.h V.h (by simp))⟩) k):aE P Y ops dr cf Q (x::r) ⟨v,m,n⟩ q:=h _ _ _ _ K
def avl(K:aE P Y ops dr cf Q r s (q++[e]))(h:SO P Y ops dr x v m n s e:=by intro _ _ _ _ k;exact aI (fh rfl fJ fX V.h) ak (fj V.h V.h fX) k):aE P Y ops dr cf Q (x::r) ⟨v,m,n⟩ q:=h _ _ _ _ K
variable{rf:Bool}{W:Exit->St->Prop}{o:Array Oper}{B:Code}{i:Nat}{k:St}
def ws[fG Y](h:aE P Y o false [] (iJ λk=>AW P Y rf B W k) o.toList k []):AW P Y rf (.seq (.region i o false) B) W k:=al h
def er[fG Y](h:aE P Y o false [] (iJ λk=>AW P Y rf B W k) o.toList k []):aE P Y ops dr [] (iJ λk=>AW P Y rf (.seq (.region i o false) B) W k) [] k q:=af (al h)
end
end Go.Abs
def eH{p:Prop}(h:p:=by repeat' (first|exact trivial|exact rfl|refine And.intro ?_ ?_)):p:=h
namespace Go.Abs
open List
open Go.Proofs.Tryz
open Go
def kR{α:Sort _}{a b:α}(h:a=b:=by kernel_rfl):a=b:=h
abbrev j0(n:Nat):=V (bX prog n)
abbrev kj(n:Nat):=V (a8 prog n)
abbrev mA(n:Nat):=V (bN prog n)
abbrev nn(n:Nat):=V (aT prog n)
abbrev oL(n:Nat):=V (bH prog n)
abbrev o2(n:Nat):=V (prog.cellsOf n)
abbrev o3(n:Nat):=V (prog.bytesOf n)
abbrev pM(n:Nat):=V (prog.underlying n)
instance:o2 1 1:=⟨kR⟩
instance:j0 1 false:=⟨a1⟩
instance:kj 1 true:=⟨t1⟩
instance:o3 1 8:=⟨b1⟩
instance:o2 2 1:=⟨kR⟩
instance:o3 2 8:=⟨b2⟩
instance:j0 2 false:=⟨a2⟩
instance:kj 2 true:=⟨t2⟩
instance:mA 2 [.s (.int .i64 0)]:=⟨z2⟩
instance:o2 3 1:=⟨c3⟩
instance:o3 3 8:=⟨b3⟩
instance:j0 3 false:=⟨a3⟩
instance:kj 3 true:=⟨t3⟩
instance:mA 3 [.s (.int .i64 0)]:=⟨z3⟩
instance:o2 4 1:=⟨c4⟩
instance:o3 4 1:=⟨b4⟩
instance:j0 4 false:=⟨a4⟩
instance:kj 4 true:=⟨t4⟩
instance:mA 4 [.s (.bool false)]:=⟨z4⟩
instance:V (xJ prog 4) true:=⟨kR⟩
instance:o2 5 1:=⟨c5⟩
instance:o3 5 1:=⟨b5⟩
instance:j0 5 false:=⟨a5⟩
instance:kj 5 true:=⟨t5⟩
instance:mA 5 [.s (.int .u8 0)]:=⟨z5⟩
instance:o3 6 1:=⟨b6⟩
instance:o3 7 24:=⟨b7⟩
instance:o3 8 24:=⟨b8⟩
instance:o2 9 1:=⟨c9⟩
instance:o3 9 16:=⟨b9⟩
instance:j0 9 false:=⟨a9⟩
instance:kj 9 true:=⟨t9⟩
instance:mA 9 [.s (.string "".toUTF8)]:=⟨z9⟩
instance:V (ji prog 9) true:=⟨kR⟩
instance:o3 10 16:=⟨px⟩
instance:nn 15 321:=⟨KE⟩
instance:nn 16 324:=⟨KF⟩
instance:nn 17 331:=⟨KD⟩
instance:o2 22 1:=⟨kR⟩
instance:j0 22 false:=⟨kR⟩
instance:kj 22 true:=⟨kR⟩
instance:nn 22 48:=⟨kR⟩
instance:oL 22 true:=⟨kR⟩
instance:o2 23 1:=⟨kR⟩
instance:j0 23 false:=⟨kR⟩
instance:kj 23 true:=⟨kR⟩
instance:nn 23 43:=⟨e23⟩
instance:oL 23 true:=⟨aeb⟩
instance:o2 27 1:=⟨Fa⟩
instance:j0 27 false:=⟨Qd⟩
instance:kj 27 true:=⟨t27⟩
instance:mA 27 [.s (.int .i64 0)]:=⟨kR⟩
instance:j0 31 false:=⟨a31⟩
instance:kj 31 true:=⟨t31⟩
instance:mA 31 [.s .nilFunc]:=⟨z31⟩
instance:o2 34 1:=⟨kR⟩
instance:j0 34 false:=⟨kR⟩
instance:kj 34 true:=⟨kR⟩
instance:nn 34 9:=⟨uP⟩
instance:oL 34 true:=⟨DT⟩
instance:j0 37 false:=⟨a37⟩
instance:kj 37 true:=⟨t37⟩
instance:mA 37 [.s .nilFunc]:=⟨z37⟩
instance:o2 43 1:=⟨ly⟩
instance:o3 43 24:=⟨Ez⟩
instance:j0 43 false:=⟨uX⟩
instance:kj 43 true:=⟨t43⟩
instance:mA 43 [.z]:=⟨kR⟩
instance:nn 43 3:=⟨dJ⟩
instance:oL 43 true:=⟨dI⟩
instance:o2 45 1:=⟨kR⟩
instance:j0 45 false:=⟨kR⟩
instance:kj 45 true:=⟨kR⟩
instance:nn 45 5:=⟨OX⟩
instance:oL 45 true:=⟨GC⟩
instance:o2 46 1:=⟨kR⟩
instance:j0 46 false:=⟨a46⟩
instance:kj 46 true:=⟨t46⟩
instance:mA 46 [.z]:=⟨z46⟩
instance:nn 46 59:=⟨e46⟩
instance:oL 46 true:=⟨ad9⟩
instance:o2 48 8:=⟨zz⟩
instance:j0 48 true:=⟨AR⟩
instance:kj 48 true:=⟨t48⟩
instance:mA 48 [.s (.string "".toUTF8),.s (.bool false),.s (.int .i64 0),.s (.int .u8 0),.z,.z,.z,.z]:=⟨kR⟩
instance:V (df prog 48 0) (some (0,9)):=⟨kR⟩
instance:V (df prog 48 1) (some (1,4)):=⟨kR⟩
instance:V (df prog 48 2) (some (2,3)):=⟨kR⟩
instance:V (df prog 48 3) (some (3,5)):=⟨kR⟩
instance:V (df prog 48 4) (some (4,45)):=⟨kR⟩
instance:V (df prog 48 5) (some (5,45)):=⟨kR⟩
instance:V (df prog 48 6) (some (6,34)):=⟨kR⟩
instance:V (df prog 48 7) (some (7,46)):=⟨kR⟩
instance:j0 51 false:=⟨a51⟩
instance:kj 51 true:=⟨t51⟩
instance:mA 51 [.s .nilFunc]:=⟨z51⟩
instance:o2 52 1:=⟨kR⟩
instance:j0 52 false:=⟨kR⟩
instance:kj 52 true:=⟨kR⟩
instance:nn 52 54:=⟨e52⟩
instance:oL 52 true:=⟨ad8⟩
instance:j0 53 true:=⟨a53⟩
instance:kj 53 true:=⟨t53⟩
instance:mA 53 [.s (.int .u8 0),.s (.int .i64 0),.s (.int .i64 0),.s (.int .i64 0),.s (.int .i64 0),.z]:=⟨z53⟩
instance:o2 54 6:=⟨VE⟩
instance:o3 54 64:=⟨VD⟩
instance:j0 54 true:=⟨kR⟩
instance:kj 54 true:=⟨kR⟩
instance:mA 54 [.s (.int .u8 0),.s (.int .i64 0),.s (.int .i64 0),.s (.int .i64 0),.s (.int .i64 0),.z]:=⟨kR⟩
instance:V (df prog 54 0) (some (0,5)):=⟨kR⟩
instance:V (df prog 54 1) (some (1,3)):=⟨kR⟩
instance:V (df prog 54 2) (some (2,3)):=⟨TA⟩
instance:V (df prog 54 3) (some (3,3)):=⟨TC⟩
instance:V (df prog 54 4) (some (4,3)):=⟨kR⟩
instance:V (df prog 54 5) (some (5,43)):=⟨Jg⟩
instance:o2 55 1:=⟨kR⟩
instance:j0 55 false:=⟨kR⟩
instance:kj 55 true:=⟨kR⟩
instance:nn 55 79:=⟨VA⟩
instance:oL 55 true:=⟨JB⟩
instance:o2 57 15:=⟨VS⟩
instance:j0 57 true:=⟨a57⟩
instance:kj 57 true:=⟨t57⟩
instance:mA 57 [.s (.int .u8 0),.s (.int .i64 0),.s (.int .i64 0),.s (.int .i64 0),.s (.int .i64 0),.s (.string "".toUTF8),.s (.int .u8 0),.s (.int .i64 0),.s (.int .i64 0),.s (.int .i64 0),.s (.int .i64 0),.z,.z,.z,.s (.int .i64 0)]:=⟨kR⟩
instance:V (df prog 57 0) (some (0,5)):=⟨kR⟩
instance:V (df prog 57 1) (some (1,3)):=⟨kR⟩
instance:V (df prog 57 2) (some (2,3)):=⟨kR⟩
instance:V (df prog 57 3) (some (3,3)):=⟨kR⟩
instance:V (df prog 57 4) (some (4,3)):=⟨kR⟩
instance:V (df prog 57 5) (some (5,9)):=⟨kR⟩
instance:V (df prog 57 6) (some (6,54)):=⟨kR⟩
instance:V (df prog 57 7) (some (12,43)):=⟨TD⟩
instance:V (df prog 57 8) (some (13,55)):=⟨kR⟩
instance:V (df prog 57 9) (some (14,3)):=⟨kR⟩
instance:o2 59 16:=⟨O1⟩
instance:o3 59 200:=⟨O0⟩
instance:j0 59 true:=⟨kR⟩
instance:kj 59 true:=⟨kR⟩
instance:mA 59 [.z,.s (.int .u8 0),.s (.int .i64 0),.s (.int .i64 0),.s (.int .i64 0),.s (.int .i64 0),.s (.string "".toUTF8),.s (.int .u8 0),.s (.int .i64 0),.s (.int .i64 0),.s (.int .i64 0),.s (.int .i64 0),.z,.z,.z,.s (.int .i64 0)]:=⟨z59⟩
instance:V (df prog 59 0) (some (0,52)):=⟨kR⟩
instance:V (df prog 59 1) (some (1,57)):=⟨kR⟩
instance:j0 70 true:=⟨a70⟩
instance:kj 70 true:=⟨t70⟩
instance:mA 70 [.s (.int .u8 0),.s (.int .i64 0)]:=⟨z70⟩
instance:j0 72 true:=⟨a72⟩
instance:kj 72 true:=⟨t72⟩
instance:mA 72 [.s (.int .u8 0),.s (.string "".toUTF8),.s (.int .u8 0),.s (.int .i64 0),.z,.s (.int .i64 0)]:=⟨z72⟩
instance:j0 75 false:=⟨a75⟩
instance:kj 75 true:=⟨t75⟩
instance:mA 75 [.s .nilFunc]:=⟨z75⟩
instance:j0 76 false:=⟨a76⟩
instance:kj 76 true:=⟨t76⟩
instance:mA 76 [.s .nilFunc]:=⟨z76⟩
instance:o2 79 2:=⟨OY⟩
instance:o3 79 24:=⟨b79⟩
instance:j0 79 true:=⟨kR⟩
instance:kj 79 true:=⟨kR⟩
instance:mA 79 [.s (.string "".toUTF8),.s (.int .i64 0)]:=⟨kR⟩
instance:V (df prog 79 0) (some (0,9)):=⟨kR⟩
instance:V (df prog 79 1) (some (1,3)):=⟨kR⟩
instance:o2 82 3:=⟨VH⟩
instance:j0 82 true:=⟨VG⟩
instance:kj 82 true:=⟨t82⟩
instance:mA 82 [.z,.z,.z]:=⟨kR⟩
instance:V (df prog 82 0) (some (0,22)):=⟨kR⟩
instance:V (df prog 82 1) (some (1,34)):=⟨kR⟩
instance:V (df prog 82 2) (some (2,23)):=⟨kR⟩
instance:nn 90 92:=⟨kR⟩
instance:oL 90 true:=⟨kR⟩
instance:o2 92 1:=⟨CA⟩
instance:o3 92 24:=⟨b92⟩
instance:j0 92 false:=⟨KC⟩
instance:kj 92 true:=⟨t92⟩
instance:mA 92 [.z]:=⟨kR⟩
instance:nn 92 4:=⟨EK⟩
instance:oL 92 true:=⟨D6⟩
instance:o2 111 1:=⟨kR⟩
instance:j0 111 false:=⟨kR⟩
instance:kj 111 true:=⟨kR⟩
instance:o2 113 10:=⟨aex⟩
instance:j0 113 true:=⟨aew⟩
instance:kj 113 true:=⟨t113⟩
instance:mA 113 [.s (.string "".toUTF8),.s (.bool false),.s (.int .i64 0),.s (.int .u8 0),.z,.z,.z,.z,.s (.map none),.s (.map none)]:=⟨kR⟩
instance:V (df prog 113 0) (some (0,48)):=⟨kR⟩
instance:V (df prog 113 1) (some (8,111)):=⟨kR⟩
instance:V (df prog 113 2) (some (9,111)):=⟨kR⟩
instance:o2 121 2:=⟨Xk⟩
instance:j0 121 true:=⟨kR⟩
instance:kj 121 true:=⟨t121⟩
instance:mA 121 [.s (.int .i64 0),.s (.int .i64 0)]:=⟨O6⟩
instance:V (df prog 121 0) (some (0,3)):=⟨kR⟩
instance:V (df prog 121 1) (some (1,3)):=⟨kR⟩
instance:o2 123 3:=⟨yv⟩
instance:o3 123 40:=⟨ae5⟩
instance:j0 123 true:=⟨ae2⟩
instance:kj 123 true:=⟨t123⟩
instance:mA 123 [.s (.int .i64 0),.s (.int .i64 0),.z]:=⟨Pf⟩
instance:V (df prog 123 0) (some (0,3)):=⟨kR⟩
instance:V (df prog 123 1) (some (1,3)):=⟨kR⟩
instance:V (df prog 123 2) (some (2,43)):=⟨kR⟩
instance:nn 124 123:=⟨Hx⟩
instance:oL 124 true:=⟨Hs⟩
instance:j0 127 false:=⟨a127⟩
instance:kj 127 true:=⟨t127⟩
instance:mA 127 [.s .nilFunc]:=⟨z127⟩
instance:nn 159 163:=⟨kR⟩
instance:oL 159 true:=⟨kR⟩
instance:o2 163 2:=⟨pj⟩
instance:o3 163 32:=⟨aez⟩
instance:j0 163 true:=⟨xF⟩
instance:kj 163 true:=⟨t163⟩
instance:mA 163 [.s (.bool false),.z]:=⟨UN⟩
instance:V (df prog 163 0) (some (0,4)):=⟨Sz⟩
instance:V (df prog 163 1) (some (1,92)):=⟨SA⟩
instance:j0 164 false:=⟨a164⟩
instance:kj 164 true:=⟨t164⟩
instance:mA 164 [.s .nilFunc]:=⟨z164⟩
instance:j0 171 false:=⟨a171⟩
instance:kj 171 true:=⟨t171⟩
instance:mA 171 [.s .nilFunc]:=⟨z171⟩
instance:j0 173 true:=⟨a173⟩
instance:kj 173 true:=⟨t173⟩
instance:mA 173 [.s (.int .i64 0),.s (.int .i64 0),.z]:=⟨z173⟩
instance:o2 174 3:=⟨vB⟩
instance:o3 174 40:=⟨aeZ⟩
instance:j0 174 true:=⟨aeU⟩
instance:kj 174 true:=⟨t174⟩
instance:mA 174 [.s (.int .i64 0),.s (.int .i64 0),.z]:=⟨O4⟩
instance:V (df prog 174 0) (some (0,121)):=⟨kR⟩
instance:V (df prog 174 1) (some (2,43)):=⟨kR⟩
instance:nn 175 174:=⟨EB⟩
instance:oL 175 true:=⟨Dj⟩
instance:o2 183 2:=⟨kR⟩
instance:V (df prog 183 1) (some (1,45)):=⟨kR⟩
instance:nn 196 201:=⟨kR⟩
instance:oL 196 true:=⟨kR⟩
instance:o2 199 1:=⟨kR⟩
instance:j0 199 false:=⟨kR⟩
instance:kj 199 true:=⟨kR⟩
instance:o2 201 20:=⟨xz⟩
instance:o3 201 160:=⟨aet⟩
instance:j0 201 true:=⟨a201⟩
instance:kj 201 true:=⟨t201⟩
instance:mA 201 [.s (.int .u64 0),.s (.int .u64 0),.s (.int .u64 0),.s (.int .u64 0),.s (.int .u64 0),.s (.int .u64 0),.s (.int .u64 0),.s (.int .u64 0),.s (.int .u64 0),.s (.int .u64 0),.s (.int .u64 0),.s (.int .u64 0),.s (.int .u64 0),.s (.int .u64 0),.s (.int .u64 0),.s (.int .u64 0),.s (.int .u64 0),.s (.int .u64 0),.s (.int .u64 0),.s (.int .u64 0)]:=⟨z201⟩
instance:nn 201 199:=⟨kR⟩
instance:V (rX prog 201) true:=⟨kR⟩
instance:V (s4 prog 201) 20:=⟨kR⟩
instance:o2 206 9:=⟨kR⟩
instance:j0 206 true:=⟨kR⟩
instance:kj 206 true:=⟨kR⟩
instance:mA 206 [.s (.string "".toUTF8),.s (.bool false),.s (.int .i64 0),.s (.int .u8 0),.z,.z,.z,.z,.z]:=⟨kR⟩
instance:V (df prog 206 0) (some (0,48)):=⟨kR⟩
instance:V (df prog 206 1) (some (8,23)):=⟨kR⟩
instance:j0 212 true:=⟨a212⟩
instance:kj 212 true:=⟨t212⟩
instance:mA 212 [.s (.pointer none),.z]:=⟨z212⟩
instance:o2 213 2:=⟨kR⟩
instance:j0 213 true:=⟨a213⟩
instance:kj 213 true:=⟨t213⟩
instance:mA 213 [.s (.pointer none),.z]:=⟨z213⟩
instance:V (df prog 213 0) (some (0,183)):=⟨kR⟩
instance:j0 232 false:=⟨a232⟩
instance:kj 232 true:=⟨t232⟩
instance:mA 232 [.s .nilFunc]:=⟨z232⟩
instance:j0 233 false:=⟨a233⟩
instance:kj 233 true:=⟨t233⟩
instance:mA 233 [.s .nilFunc]:=⟨z233⟩
instance:o2 237 6:=⟨kR⟩
instance:j0 237 true:=⟨UK⟩
instance:kj 237 true:=⟨kR⟩
instance:mA 237 [.s (.int .i64 0),.s (.int .i64 0),.s (.int .i64 0),.s (.int .i64 0),.s (.int .i64 0),.s (.int .i64 0)]:=⟨UL⟩
instance:V (df prog 237 0) (some (0,3)):=⟨kR⟩
instance:V (df prog 237 1) (some (1,3)):=⟨kR⟩
instance:V (df prog 237 2) (some (2,3)):=⟨kR⟩
instance:V (df prog 237 3) (some (3,3)):=⟨kR⟩
instance:V (df prog 237 4) (some (4,3)):=⟨kR⟩
instance:V (df prog 237 5) (some (5,3)):=⟨kR⟩
instance:pM 2 (some (.int .i64)):=⟨kR⟩
instance:pM 3 (some (.int .i64)):=⟨u3⟩
instance:pM 5 (some (.int .u8)):=⟨u5⟩
instance:pM 8 (some (.struct (gF prog 8))):=⟨u8⟩
instance:pM 45 (some (.slice 5)):=⟨kR⟩
instance:pM 48 (some (.struct (gF prog 48))):=⟨kR⟩
instance:V (((gF prog 48).toList.map λf=>(f.offset,prog.cellsOf f.type))) [(0,1),(1,1),(2,1),(3,1),(4,1),(5,1),(6,1),(7,1)]:=⟨kR⟩
instance:V (((gF prog 48).toList.all λf=>(prog.info? f.type).isSome)) true:=⟨kR⟩
instance:pM 54 (some (.struct (gF prog 54))):=⟨kR⟩
instance:V (((gF prog 54).toList.map λf=>(f.offset,prog.cellsOf f.type))) [(0,1),(1,1),(2,1),(3,1),(4,1),(5,1)]:=⟨kR⟩
instance:V (((gF prog 54).toList.all λf=>(prog.info? f.type).isSome)) true:=⟨kR⟩
instance:pM 69 (some (.int .u64)):=⟨kR⟩
instance:pM 70 (some (.struct (gF prog 70))):=⟨u70⟩
instance:pM 72 (some (.struct (gF prog 72))):=⟨u72⟩
instance:pM 82 (some (.struct (gF prog 82))):=⟨kR⟩
instance:V (((gF prog 82).toList.map λf=>(f.offset,prog.cellsOf f.type))) [(0,1),(1,1),(2,1)]:=⟨kR⟩
instance:V (((gF prog 82).toList.all λf=>(prog.info? f.type).isSome)) true:=⟨kR⟩
instance:V (iZ prog 111) 5:=⟨kR⟩
instance:V (kN prog 111) true:=⟨kR⟩
instance:V (qL prog 111) 237:=⟨Tz⟩
instance:pM 113 (some (.struct (gF prog 113))):=⟨kR⟩
instance:V (((gF prog 113).toList.map λf=>(f.offset,prog.cellsOf f.type))) [(0,8),(8,1),(9,1)]:=⟨kR⟩
instance:V (((gF prog 113).toList.all λf=>(prog.info? f.type).isSome)) true:=⟨kR⟩
instance:pM 121 (some (.struct (gF prog 121))):=⟨aeX⟩
instance:V (((gF prog 121).toList.map λf=>(f.offset,prog.cellsOf f.type))) [(0,1),(1,1)]:=⟨aeo⟩
instance:V (((gF prog 121).toList.all λf=>(prog.info? f.type).isSome)) true:=⟨aeq⟩
instance:pM 123 (some (.struct (gF prog 123))):=⟨ae4⟩
instance:V (((gF prog 123).toList.map λf=>(f.offset,prog.cellsOf f.type))) [(0,1),(1,1),(2,1)]:=⟨aeN⟩
instance:V (((gF prog 123).toList.all λf=>(prog.info? f.type).isSome)) true:=⟨aeO⟩
instance:V (iZ prog 144) 9:=⟨I7⟩
instance:V (kN prog 144) true:=⟨I8⟩
instance:pM 163 (some (.struct (gF prog 163))):=⟨aey⟩
instance:V (((gF prog 163).toList.map λf=>(f.offset,prog.cellsOf f.type))) [(0,1),(1,1)]:=⟨adj⟩
instance:V (((gF prog 163).toList.all λf=>(prog.info? f.type).isSome)) true:=⟨adk⟩
instance:V (iZ prog 172) 121:=⟨WG⟩
instance:V (kN prog 172) true:=⟨WH⟩
instance:pM 174 (some (.struct (gF prog 174))):=⟨aeY⟩
instance:V (((gF prog 174).toList.map λf=>(f.offset,prog.cellsOf f.type))) [(0,2),(2,1)]:=⟨aer⟩
instance:V (((gF prog 174).toList.all λf=>(prog.info? f.type).isSome)) true:=⟨aes⟩
instance:V (iZ prog 194) 3:=⟨Tv⟩
instance:V (kN prog 194) true:=⟨Tw⟩
instance:pM 206 (some (.struct (gF prog 206))):=⟨kR⟩
instance:V (((gF prog 206).toList.map λf=>(f.offset,prog.cellsOf f.type))) [(0,8),(8,1)]:=⟨kR⟩
instance:V (((gF prog 206).toList.all λf=>(prog.info? f.type).isSome)) true:=⟨kR⟩
instance:pM 213 (some (.struct (gF prog 213))):=⟨kR⟩
instance:V (((gF prog 213).toList.map λf=>(f.offset,prog.cellsOf f.type))) [(0,2)]:=⟨kR⟩
instance:V (((gF prog 213).toList.all λf=>(prog.info? f.type).isSome)) true:=⟨kR⟩
instance:pM 237 (some (.struct (gF prog 237))):=⟨kR⟩
instance:V (((gF prog 237).toList.map λf=>(f.offset,prog.cellsOf f.type))) [(0,1),(1,1),(2,1),(3,1),(4,1),(5,1)]:=⟨kR⟩
instance:V (((gF prog 237).toList.all λf=>(prog.info? f.type).isSome)) true:=⟨kR⟩
section
variable{P:Program}{Y:iu}{ops:Array Oper}{dr:Bool}{cf:List (Nat×Nat)}{Q:Exit->St->Prop}{r:List Oper}{v:Env}{m:Mem}{n:Nat}{q:pk}{x:Oper}{s:St}{e:List Nat×List Nat}
def pu{p:Prop}(h:p:=by first|rfl|exact bL rfl|(simp;done)|(simp;omega)|omega):p:=h
def ON{p:Prop}(h:p:=by first|omega|exact bL rfl|(simp;done)|(simp;omega)):p:=h
def pv{p:Prop}(h:p:=by first|(simp;done)|exact⟨rfl,bL rfl⟩|(simp;omega)):p:=h
def Vl{p:Prop}(h:p:=by first|rfl|exact s9 _|(simp[s9];done)|exact alA):p:=h
def Ew{p:Prop}(h:p:=by first|(simp;done)|omega|exact bL rfl):p:=h
def OO{p:Prop}(h:p:=by unfold maxLen;first|omega|(simp;omega)):p:=h
def Vm{p:Prop}(h:p:=by first|rfl|(simp;done)|(simp;omega)):p:=h
def Vn{p:Prop}(h:p:=by first|(simp;done)|(simp;omega)):p:=h
def uO{p:Prop}(h:p:=by first|(simp;done)|fail):p:=h
def Hk{p:Prop}(h:p:=by first|decide|simp):p:=h
def oT(x:Oper):Nat:=2*(match x.op with
 | .move ..=>1
 | .assign ..=>2
 | .pick ..=>3
 | .alloc ..=>4
 | .box ..=>5
 | .build ..=>6
 | .buildSlice ..=>7
 | .insert ..=>8
 | .load ..=>9
 | .store ..=>10
 | .nilCheck ..=>11
 | .unOp ..=>12
 | .convert ..=>13
 | .makeFunc ..=>14
 | .makeMap ..=>15
 | .makeSlice ..=>16
 | .slice ..=>17
 | .fieldAddr ..=>18
 | .field ..=>19
 | .indexAddr ..=>20
 | .index ..=>21
 | .lookup ..=>22
 | .mapUpdate ..=>23
 | .extract ..=>24
 | .call ..=>25
 | .binOp .add ..=>26
 | .binOp .sub ..=>27
 | .binOp .mul ..=>28
 | .binOp .quo ..=>29
 | .binOp .rem ..=>30
 | .binOp .and ..=>31
 | .binOp .or ..=>32
 | .binOp .xor ..=>33
 | .binOp .shl ..=>34
 | .binOp .shr ..=>35
 | .binOp .andNot ..=>36
 | .binOp .eql ..=>37
 | .binOp .neq ..=>38
 | .binOp .lss ..=>39
 | .binOp .leq ..=>40
 | .binOp .gtr ..=>41
 | .binOp .geq ..=>42
 |_=>0)+(match x.guard with
 |none=>0
 |_=>1)
def qs(i:Nat)(h:aE P Y ops dr cf Q (x::r) s q)(ht:oT x=i:=by exact rfl):aE P Y ops dr cf Q (x::r) s q:=h
def SS(K:aE P Y ops dr cf Q r s (q++[e]))(h:SO P Y ops dr x v m n s e:=by intro _ _ _ _ k;first|(refine qs 2 ?_;first|exact aI (ki (v:=.s (.int _ _)) rfl) ak aa k|exact aI (ki (v:=.s (.bool _)) rfl) ak aa k|exact aI (ki (v:=.sl _ _) rfl) ak aa k|exact aI (ki (v:=.rs _ _ _) rfl) ak aa k|exact aI (ki (v:=.s (.string _)) rfl) ak aa k|exact aI (ki (v:=.fn _ _ _) rfl) ak aa k|exact aI (ki (v:=.rp _ _) rfl) ak aa k|exact aI (ki (v:=_) rfl) ak aa k|exact aI (ki (v:=.mp _) rfl) ak aa k|exact aI (ki (v:=.im _) rfl) ak aa k)|(refine qs 4 ?_;first|exact aI (fR (v:=.s (.bool _)) rfl) ak aa k|exact aI (fR (v:=.s (.int _ _)) rfl) ak aa k|exact aI (fR (v:=.sl _ _) rfl) ak aa k|exact aI (fR (v:=.rs _ _ _) rfl) ak aa k|exact aI (fR (v:=.z) rfl) ak aa k|exact aI (fR (v:=.s (.string _)) rfl) ak aa k|exact aI (fR (v:=.mp _) rfl) ak aa k|exact aI (fR (v:=_) rfl) ak aa k)|(refine qs 18 ?_;first|exact aI (nZ (vs:=aL _) rfl V.h V.h rfl) ak (n9 V.h V.h uO) k|exact aI (nZ (vs:=bU _) rfl V.h V.h rfl) ak (n9 V.h V.h uO) k|exact aI (nZ (vs:=bq _) rfl V.h V.h rfl) ak (n9 V.h V.h uO) k|exact aI (nZ (vs:=bG _ _ _) rfl V.h V.h rfl) ak (n9 V.h V.h uO) k|exact aI (nZ (vs:=cE _) rfl V.h V.h rfl) ak (n9 V.h V.h uO) k|exact aI (nZ rfl V.h V.h rfl) ak (n9 V.h V.h uO) k|exact aI (nZ (vs:=cP _ _) rfl V.h V.h rfl) ak (n9 V.h V.h uO) k|exact aI (gA rfl rfl V.h V.h (rG pu)) ak (gB V.h V.h pu) k|exact aI (nZ (vs:=jX _) rfl V.h V.h rfl) ak (n9 V.h V.h uO) k|exact aI (gA (vs:=bq _) rfl rfl V.h V.h rfl) ak (gB V.h V.h Ew) k|exact aI (gA (vs:=bU _) rfl r9 V.h V.h rfl) ak (gB V.h V.h Ew) k|exact aI (gA (vs:=aL _) rfl rfl V.h V.h rfl) ak (gB V.h V.h Ew) k|exact aI (gA rfl (ay oG rfl) V.h V.h (rG pu)) ak (gB V.h V.h pu) k|exact aI (gA (vs:=aL _) rfl aF V.h V.h rfl) ak (gB V.h V.h Ew) k|exact aI (gA rfl rfl V.h V.h rfl) ak (gB V.h V.h Ew) k|exact aI (gA rfl r9 V.h V.h rfl) ak (gB V.h V.h Ew) k|exact aI (z7 rfl V.h) ak (z8 V.h V.h) k|exact aI (fh rfl rfl kd V.h) ak (fj V.h V.h kd) k|exact aI (fh rfl aF kd V.h) ak (fj V.h V.h kd) k|exact aI (fh rfl r9 kd V.h) ak (fj V.h V.h kd) k|exact aI (fh rfl rfl rfl V.h) ak (fj V.h V.h rfl) k|exact aI (fh rfl aF rfl V.h) ak (fj V.h V.h rfl) k)|(refine qs 19 ?_;first|exact cF rfl rfl (z7 rfl V.h) (λhc=>⟨ak,(z8 V.h V.h)⟩) k|exact cF rfl rfl (nZ (vs:=cP _ _) rfl V.h V.h rfl) (λhc=>⟨ak,(n9 V.h V.h uO)⟩) k|exact cF rfl rfl (nZ (vs:=bG _ _ _) rfl V.h V.h rfl) (λhc=>⟨ak,(n9 V.h V.h uO)⟩) k|exact cF rfl rfl (fh rfl rfl rfl V.h) (λhc=>⟨ak,(fj V.h V.h rfl)⟩) k|exact cF rfl rfl (nZ (vs:=bq _) rfl V.h V.h rfl) (λhc=>⟨ak,(n9 V.h V.h uO)⟩) k|exact cF rfl rfl (nZ (vs:=bU _) rfl V.h V.h rfl) (λhc=>⟨ak,(n9 V.h V.h uO)⟩) k|exact cF rfl rfl (fh rfl r9 rfl V.h) (λhc=>⟨ak,(fj V.h V.h rfl)⟩) k|exact cF rfl rfl (gA rfl (ay oG rfl) V.h V.h (rG pu)) (λhc=>⟨ak,(gB V.h V.h pu)⟩) k|exact cF rfl rfl (nZ (vs:=aL _) rfl V.h V.h rfl) (λhc=>⟨ak,(n9 V.h V.h uO)⟩) k|exact cF rfl rfl (gA rfl rfl V.h V.h rfl) (λhc=>⟨ak,(gB V.h V.h Ew)⟩) k)|(refine qs 36 ?_;first|exact aI (zR rfl V.h) ak (kK V.h) k|exact aI (pA rfl rfl V.h) ak (kK V.h) k|exact aI (pA rfl aF V.h) ak (kK V.h) k|exact aI (pA rfl r9 V.h) ak (kK V.h) k)|(refine qs 6 ?_;first|exact alv rfl rfl (by first|exact trivial|exact rfl) k|exact alw rfl rfl (by first|exact trivial|exact rfl) k|exact anB rfl rfl rfl (λh=>by first|exact trivial|exact rfl|exact h|(show Eq _ _;rw[h];rfl)|(show Eq _ _;simp[h];done)|(show Eq _ _;simp_all;done)|fail) (λh=>by first|exact trivial|exact rfl|exact h|(show Eq _ _;rw[h];rfl)|(show Eq _ _;simp[h];done)|(show Eq _ _;simp_all;done)|fail) k)|(refine qs 37 ?_;first|exact cF rfl rfl (zR rfl V.h) (λhc=>⟨ak,(kK V.h)⟩) k|exact cF rfl rfl (pA rfl rfl V.h) (λhc=>⟨ak,(kK V.h)⟩) k|exact cF rfl rfl (pA rfl r9 V.h) (λhc=>⟨ak,(kK V.h)⟩) k)|(refine qs 74 ?_;first|exact aI (Ss rfl rfl iy) ak rfl k|exact aI (NY rfl rfl) ak rfl k|exact aI (abh rfl rfl) ak aa k)|(refine qs 3 ?_;first|exact cF rfl rfl (ki (v:=.s (.int _ _)) rfl) (λhc=>⟨ak,aa⟩) k|exact cF rfl rfl (ki (v:=.s (.bool _)) rfl) (λhc=>⟨ak,aa⟩) k|exact cF rfl rfl (ki (v:=.sl _ _) rfl) (λhc=>⟨ak,aa⟩) k|exact cF rfl rfl (ki (v:=.s (.string _)) rfl) (λhc=>⟨ak,aa⟩) k|exact cF rfl rfl (ki (v:=.fn _ _ _) rfl) (λhc=>⟨ak,aa⟩) k|exact cF rfl rfl (ki (v:=.rs _ _ _) rfl) (λhc=>⟨ak,aa⟩) k|exact cF rfl rfl (ki (v:=.z) rfl) (λhc=>⟨ak,aa⟩) k)|(refine qs 40 ?_;first|exact aI (IF rfl rfl V.h V.h (by assumption)) ak (IG V.h (by assumption)) k|exact aI (yN rfl rfl V.h V.h (E8) (by assumption)) ak (yO V.h (E8) (by assumption)) k|exact aI (yN rfl rfl V.h V.h (Lb) (by assumption)) ak (yO V.h (Lb) (by assumption)) k|exact aI (yN rfl rfl V.h V.h (Lc) (by assumption)) ak (yO V.h (Lc) (by assumption)) k|exact aI (yN rfl rfl V.h V.h (HU) (by assumption)) ak (yO V.h (HU) (by assumption)) k|exact aI (anC rfl rfl rfl V.h V.h V.h) ak ⟨V.h,by omega⟩ k|exact aI (yN rfl rfl V.h V.h (XB) (by assumption)) ak (yO V.h (XB) (by assumption)) k|exact aI (wL rfl rfl rfl V.h V.h) ak ⟨V.h,by omega⟩ k|exact aI (wL rfl rfl aF V.h V.h) ak ⟨V.h,by omega⟩ k|exact aI (wL rfl rfl r9 V.h V.h) ak ⟨V.h,by omega⟩ k|exact aI (Io rfl rfl rfl V.h V.h) ak ⟨V.h,by omega⟩ k|exact aI (anD rfl rfl r9 V.h V.h) ak ⟨V.h,by omega⟩ k)|(refine qs 20 ?_;first|exact dH (jV (cs':=cE _) rfl rfl r9 rfl) ak (eO V.h V.h pv (by rfl)) k|exact dH (lT (d:=.s (.string _)) (cs':=_) rfl rfl rfl rfl rfl) ak (eO V.h V.h pv rfl) k|exact dH (jV rfl rfl rfl (RF pu pu)) ak (H' pu pu Vl) k|exact dH (lT (d:=.s (.bool _)) (cs':=_) rfl rfl rfl rfl rfl) ak (eO V.h V.h pv rfl) k|exact dH (jV (cs':=bq _) rfl rfl r9 rfl) ak (eO V.h V.h pv (by rfl)) k|exact dH (jV (cs':=bU _) rfl rfl r9 rfl) ak (eO V.h V.h pv (by rfl)) k|exact dH (jV (cs':=aL _) rfl rfl rfl rfl) ak (eO V.h V.h pv (by rfl)) k|exact dH (jV (cs':=aL _) rfl rfl r9 rfl) ak (eO V.h V.h pv (by rfl)) k|exact dH (jV rfl rfl r9 (RF pu pu)) ak (H' pu pu Vl) k|exact dH (lT (d:=.sl _ _) (cs':=_) rfl rfl rfl rfl rfl) ak (eO V.h V.h pv rfl) k|exact dH (jV (cs':=jX _) rfl rfl r9 rfl) ak (eO V.h V.h pv (by rfl)) k|exact dH (jV rfl rfl rfl rfl) ak (eO V.h V.h pv (by rfl)) k|exact dH (jV rfl rfl r9 rfl) ak (eO V.h V.h pv (by rfl)) k|exact dH (lT (d:=.s (.int _ _)) (cs':=[_]) rfl rfl rfl rfl rfl) ak (eO V.h V.h pv rfl) k|exact dH (lT (d:=.s (.int _ _)) (cs':=_) rfl rfl rfl rfl rfl) ak (eO V.h V.h pv rfl) k|exact dH (lT (d:=.s (.int _ _)) (cs':=_) rfl rfl r9 rfl rfl) ak (eO V.h V.h pv rfl) k|exact dH (jV rfl rfl (ay oG rfl) (RF pu pu)) ak (H' pu pu Vl) k|exact dH (jV rfl rfl rfl (acQ (by decide) (by assumption) (by assumption) (by first|assumption|(simp;omega)|(simp;done)|fail))) ak (H' (by first|(simp;omega)|(simp;done)|fail) (DD (by assumption) (by assumption)) (s9 _)) k|exact dH (lT (d:=.sl _ _) (cs':=_) rfl rfl aF rfl rfl) ak (eO V.h V.h pv rfl) k|exact dH (lT (d:=.rs _ _ _) (cs':=_) rfl rfl aF rfl rfl) ak (eO V.h V.h pv rfl) k|exact dH (lT (d:=.z) (cs':=_) rfl rfl rfl rfl rfl) ak (eO V.h V.h pv rfl) k)|(refine qs 52 ?_;first|exact aI (aci rfl rfl oG) ak rfl k)|(refine qs 50 ?_;first|exact aI (acm rfl) ak V.h k|exact aI (R7 rfl) ak V.h k|exact eT (eQ rfl (ay oG aF) rfl V.h V.h (fZ r9 rfl) rfl) ak ⟨V.h,rfl,ON,(by decide),Vm,OO,(by rw[b3];first|omega|(simp;omega)),Vn⟩ k|exact eT (eQ rfl (ay oG fJ) rfl V.h V.h (fZ r9 rfl) rfl) ak ⟨V.h,rfl,ON,(by decide),Vm,OO,(by rw[b3];first|omega|(simp;omega)),Vn⟩ k|exact aI (MN rfl rfl) ak V.h k|exact aI (MN rfl aF) ak V.h k|exact eT (eQ rfl (ay oG aF) rfl V.h V.h (fZ r9 rfl) rfl) ak ⟨V.h,rfl,ON,(by decide),Vm,OO,(by rw[b9];first|omega|(simp;omega)),Vn⟩ k|exact di (kX rfl rfl V.h V.h (fZ r9 rfl)) ak ⟨V.h,ON,(by decide),OO,(by rw[b3];first|omega|(simp;omega))⟩ k|exact wX (by assumption) rfl ak k|exact eT (eQ rfl rfl rfl V.h V.h (iH (by assumption)) rfl) ak ⟨V.h,rfl,ON,(by decide),Vm,OO,(by rw[b3];first|omega|(simp;omega)),Vn⟩ k|exact di (kX rfl rfl V.h V.h (iH (by assumption))) ak ⟨V.h,ON,(by decide),OO,(by rw[b3];first|omega|(simp;omega))⟩ k|exact eT (eQ rfl rfl rfl V.h V.h (fZ rfl rfl) rfl) ak ⟨V.h,rfl,ON,(by decide),Vm,OO,(by rw[b3];first|omega|(simp;omega)),Vn⟩ k|exact di (kX rfl rfl V.h V.h (fZ rfl rfl)) ak ⟨V.h,ON,(by decide),OO,(by rw[b3];first|omega|(simp;omega))⟩ k)|(refine qs 78 ?_;first|exact aI (Su rfl rfl rO) ak rfl k|exact aI (SX rfl rfl) ak rfl k)|(refine qs 75 ?_;first|exact cF rfl rfl (Ss rfl rfl iy) (λhc=>⟨ak,rfl⟩) k|exact cF rfl rfl (abk rfl rfl) (λhc=>⟨ak,V.h⟩) k|exact cF rfl rfl (Ss rfl rfl Nt) (λhc=>⟨ak,rfl⟩) k|exact cF rfl rfl (NY rfl rfl) (λhc=>⟨ak,rfl⟩) k|exact cF rfl rfl (abh rfl rfl) (λhc=>⟨ak,aa⟩) k)|(refine qs 10 ?_;first|exact di (yM (cs:=aL _) rfl) ak (by first|rfl|exact zO iE cK|exact s9 _|exact Al dN) k|exact di (yM (cs:=bG _ _ _) rfl) ak (by first|rfl|exact zO iE cK|exact s9 _|exact Al dN) k|exact di (yM rfl) ak (by first|rfl|exact zO iE cK|exact s9 _|exact Al dN) k|exact di (yM (cs:=bq _) rfl) ak (by first|rfl|exact zO iE cK|exact s9 _|exact Al dN) k|exact di (yM (cs:=bU _) rfl) ak (by first|rfl|exact zO iE cK|exact s9 _|exact Al dN) k|exact di (yM (cs:=cP _ _) rfl) ak (by first|rfl|exact zO iE cK|exact s9 _|exact Al dN) k)|(refine qs 8 ?_;first|exact di (B5 V.h) ak V.h k)|(refine qs 48 ?_;first|exact aI (wE (v:=.s (.int _ _)) rfl rfl) ak Hk k|exact aI (wE (v:=.s (.bool _)) rfl rfl) ak Hk k|exact aI (wE (v:=.sl _ _) rfl rfl) ak Hk k|exact aI (wE (v:=.z) rfl rfl) ak Hk k|exact aI (wE (v:=.agg (aL _)) rfl rfl) ak Hk k|exact aI (wE (v:=.agg _) rfl rfl) ak Hk k)|(refine qs 51 ?_;first|exact cF rfl rfl (acm rfl) (λhc=>⟨ak,V.h⟩) k|exact Di rfl rfl rfl (λhc=>⟨ak,by assumption⟩) k)|(refine qs 24 ?_;first|exact aI (acj rfl) ak aa k)|(refine qs 14 ?_;first|exact di (pz (cs:=[_]) V.h V.h V.h rfl rfl) ak ⟨rfl,by decide,V.h,by decide⟩ k|exact di (pz (cs:=[]) V.h V.h V.h rfl rfl) ak ⟨rfl,by decide,V.h,by decide⟩ k|exact di (pz (cs:=[_,_]) V.h V.h V.h rfl rfl) ak ⟨rfl,by decide,V.h,by decide⟩ k|exact di (pz V.h V.h V.h rfl rfl) ak ⟨rfl,by decide,V.h,by decide⟩ k)|(refine qs 41 ?_;first|exact cF rfl rfl (IF rfl rfl V.h V.h (by assumption)) (λhc=>⟨ak,(IG V.h (by assumption))⟩) k|exact cF rfl rfl (yN rfl rfl V.h V.h (Lb) (by assumption)) (λhc=>⟨ak,(yO V.h (Lb) (by assumption))⟩) k|exact cF rfl rfl (yN rfl rfl V.h V.h (Lc) (by assumption)) (λhc=>⟨ak,(yO V.h (Lc) (by assumption))⟩) k)|(refine qs 25 ?_;first|exact cF rfl rfl (acj rfl) (λhc=>⟨ak,aa⟩) k)|(refine qs 12 ?_;first|exact aI (Ln (cs:=bG _ _ _) V.h V.h V.h rfl rfl) ak ⟨V.h,V.h⟩ k|exact aI (Ln V.h V.h V.h rfl rfl) ak ⟨V.h,V.h⟩ k)|(refine qs 76 ?_;first|exact aI (abi rfl rfl) ak aa k|exact aI (abO rfl rfl xx) ak rfl k|exact aI (S3 rfl rfl) ak rfl k)|(refine qs 83 ?_;first|exact cF rfl rfl (abN rfl rfl rP) (λhc=>⟨ak,rfl⟩) k|exact cF rfl rfl (SZ rfl rfl) (λhc=>⟨ak,rfl⟩) k)|(refine qs 7 ?_;first|exact ajc rfl rfl rfl rfl (by first|exact λ_=>trivial|exact λ_=>rfl|exact λhc=>hc) (by first|exact λ_=>trivial|exact λ_=>rfl|exact λhc=>hc) k|exact ajd rfl rfl rfl rfl (by first|exact λ_=>trivial|exact λ_=>rfl|exact λhc=>hc) (by first|exact λ_=>trivial|exact λ_=>rfl|exact λhc=>hc) k|exact alx rfl rfl rfl rfl rfl (by first|exact λ_=>trivial|exact λ_=>rfl|exact λhc=>hc) (λhc h=>by first|exact trivial|exact rfl|exact hc|(show Eq _ _;rw[hc,h];rfl)|(show Eq _ _;rw[h,hc];rfl)|(show Eq _ _;simp[hc,h];done)|(show Eq _ _;simp_all;done)|fail) (λhc h=>by first|exact trivial|exact rfl|exact hc|(show Eq _ _;rw[hc,h];rfl)|(show Eq _ _;rw[h,hc];rfl)|(show Eq _ _;simp[hc,h];done)|(show Eq _ _;simp_all;done)|fail) k)|(refine qs 77 ?_;first|exact cF rfl rfl (abO rfl rfl xx) (λhc=>⟨ak,rfl⟩) k|exact cF rfl rfl (S3 rfl rfl) (λhc=>⟨ak,rfl⟩) k)|(refine qs 16 ?_;first|exact dH (alB rfl rfl rfl rfl V.h) ak ⟨V.h,by kernel_rfl,by kernel_rfl⟩ k)|(refine qs 82 ?_;first|exact aI (abN rfl rfl rP) ak rfl k|exact aI (SZ rfl rfl) ak rfl k)|(refine qs 54 ?_;first|exact aI (abP rfl rfl uu) ak rfl k|exact aI (S4 rfl rfl oG) ak rfl k)|(refine qs 55 ?_;first|exact cF rfl rfl (abP rfl rfl uu) (λhc=>⟨ak,rfl⟩) k|exact cF rfl rfl (S4 rfl rfl oG) (λhc=>⟨ak,rfl⟩) k)|(refine qs 81 ?_;first|exact cF rfl rfl (aoV rfl rfl adU) (λhc=>⟨ak,rfl⟩) k|exact cF rfl rfl (SY rfl rfl) (λhc=>⟨ak,rfl⟩) k)|(refine qs 85 ?_;first|exact cF rfl rfl (S0 rfl rfl) (λhc=>⟨ak,rfl⟩) k|exact cF rfl rfl (abj rfl rfl) (λhc=>⟨ak,aa⟩) k)|(refine qs 79 ?_;first|exact cF rfl rfl (SX rfl rfl) (λhc=>⟨ak,rfl⟩) k)|(refine qs 84 ?_;first|exact aI (S0 rfl rfl) ak rfl k)|(refine qs 26 ?_;first|exact aI (aoG rfl V.h) ak V.h k)|(refine qs 28 ?_;first|exact aI (R8 rfl rfl) ak aa k)|(refine qs 32 ?_;first|exact di (H5 rfl rfl V.h V.h) ak ⟨by omega,rfl,by omega,by rw[b4];omega,V.h⟩ k)|(refine qs 30 ?_;first|exact di apE ak aa k)|(refine qs 22 ?_;first|exact aI (ML rfl aF) ak aa k)|(refine qs 42 ?_;first|exact aI (abn rfl rfl) ak ⟨V.h,by omega,by omega⟩ k)|(refine qs 43 ?_;first|exact cF rfl rfl (abn rfl rfl) (λhc=>⟨ak,⟨V.h,by omega,by omega⟩⟩) k)|(refine qs 80 ?_;first|exact aI (SY rfl rfl) ak rfl k)|(refine qs 15 ?_;first|exact aoU rfl rfl (pz (cs:=[_]) V.h V.h V.h rfl rfl) ak ⟨rfl,by decide,V.h,by decide⟩ k)|exact z λ_ _=>k):aE P Y ops dr cf Q (x::r) ⟨v,m,n⟩ q:=h _ _ _ _ K
variable{x2 x3 x4 x5 x6 x7 x8 x9:Oper}{e2 e3 e4 e5 e6 e7 e8 e9:List Nat×List Nat}
def ag(K:aE P Y ops dr cf Q r s (q++[e]++[e2]))(h:∀ cf Q r q,aE P Y ops dr cf Q r s (q++[e]++[e2])->aE P Y ops dr cf Q (x::x2::r) ⟨v,m,n⟩ q:=by intro _ _ _ _ k;(iterate 2 refine SS ?_);exact k):aE P Y ops dr cf Q (x::x2::r) ⟨v,m,n⟩ q:=h _ _ _ _ K
def ax(K:aE P Y ops dr cf Q r s (q++[e]++[e2]++[e3]))(h:∀ cf Q r q,aE P Y ops dr cf Q r s (q++[e]++[e2]++[e3])->aE P Y ops dr cf Q (x::x2::x3::r) ⟨v,m,n⟩ q:=by intro _ _ _ _ k;(iterate 3 refine SS ?_);exact k):aE P Y ops dr cf Q (x::x2::x3::r) ⟨v,m,n⟩ q:=h _ _ _ _ K
def aQ(K:aE P Y ops dr cf Q r s (q++[e]++[e2]++[e3]++[e4]))(h:∀ cf Q r q,aE P Y ops dr cf Q r s (q++[e]++[e2]++[e3]++[e4])->aE P Y ops dr cf Q (x::x2::x3::x4::r) ⟨v,m,n⟩ q:=by intro _ _ _ _ k;(iterate 4 refine SS ?_);exact k):aE P Y ops dr cf Q (x::x2::x3::x4::r) ⟨v,m,n⟩ q:=h _ _ _ _ K
def bh(K:aE P Y ops dr cf Q r s (q++[e]++[e2]++[e3]++[e4]++[e5]))(h:∀ cf Q r q,aE P Y ops dr cf Q r s (q++[e]++[e2]++[e3]++[e4]++[e5])->aE P Y ops dr cf Q (x::x2::x3::x4::x5::r) ⟨v,m,n⟩ q:=by intro _ _ _ _ k;(iterate 5 refine SS ?_);exact k):aE P Y ops dr cf Q (x::x2::x3::x4::x5::r) ⟨v,m,n⟩ q:=h _ _ _ _ K
def cz(K:aE P Y ops dr cf Q r s (q++[e]++[e2]++[e3]++[e4]++[e5]++[e6]))(h:∀ cf Q r q,aE P Y ops dr cf Q r s (q++[e]++[e2]++[e3]++[e4]++[e5]++[e6])->aE P Y ops dr cf Q (x::x2::x3::x4::x5::x6::r) ⟨v,m,n⟩ q:=by intro _ _ _ _ k;(iterate 6 refine SS ?_);exact k):aE P Y ops dr cf Q (x::x2::x3::x4::x5::x6::r) ⟨v,m,n⟩ q:=h _ _ _ _ K
def ek(K:aE P Y ops dr cf Q r s (q++[e]++[e2]++[e3]++[e4]++[e5]++[e6]++[e7]))(h:∀ cf Q r q,aE P Y ops dr cf Q r s (q++[e]++[e2]++[e3]++[e4]++[e5]++[e6]++[e7])->aE P Y ops dr cf Q (x::x2::x3::x4::x5::x6::x7::r) ⟨v,m,n⟩ q:=by intro _ _ _ _ k;(iterate 7 refine SS ?_);exact k):aE P Y ops dr cf Q (x::x2::x3::x4::x5::x6::x7::r) ⟨v,m,n⟩ q:=h _ _ _ _ K
def cJ(K:aE P Y ops dr cf Q r s (q++[e]++[e2]++[e3]++[e4]++[e5]++[e6]++[e7]++[e8]))(h:∀ cf Q r q,aE P Y ops dr cf Q r s (q++[e]++[e2]++[e3]++[e4]++[e5]++[e6]++[e7]++[e8])->aE P Y ops dr cf Q (x::x2::x3::x4::x5::x6::x7::x8::r) ⟨v,m,n⟩ q:=by intro _ _ _ _ k;(iterate 8 refine SS ?_);exact k):aE P Y ops dr cf Q (x::x2::x3::x4::x5::x6::x7::x8::r) ⟨v,m,n⟩ q:=h _ _ _ _ K
def aX(K:aE P Y ops dr cf Q r s (q++[e]++[e2]++[e3]++[e4]++[e5]++[e6]++[e7]++[e8]++[e9]))(h:∀ cf Q r q,aE P Y ops dr cf Q r s (q++[e]++[e2]++[e3]++[e4]++[e5]++[e6]++[e7]++[e8]++[e9])->aE P Y ops dr cf Q (x::x2::x3::x4::x5::x6::x7::x8::x9::r) ⟨v,m,n⟩ q:=by intro _ _ _ _ k;(iterate 9 refine SS ?_);exact k):aE P Y ops dr cf Q (x::x2::x3::x4::x5::x6::x7::x8::x9::r) ⟨v,m,n⟩ q:=h _ _ _ _ K
end
end Go.Abs
namespace Go.Abs
open List
open Go.ChangeShapes Go.WideShapes
inductive FU:List Sh->List D->Prop
 |nil:FU [] []
 |cons {s:Sh} {l:List Sh} {ds:List D} (x:s.val) (hx:s.ok x) (h:FU l ds):FU (s::l) (s.arg x::ds)
def Cd(P:Program)(n:Nat):List TypeId->Option (List Sh)
 |[]=>some []
 |t::ts=>match zI P n t,Cd P n ts with
  |some s,some l=>some (s::l)
  |_,_=>none
def akA{P:Program}{n:Nat}{t:TypeId}{ts:List TypeId}{l:List Sh}(h:Cd P n (t::ts)=some l):∃ s C,zI P n t=some s/\Cd P n ts=some C/\l=s::C:=by
 simp[Cd] at h;split at h
 .rename_i s C h1 h2;simp[bg] at h;exact⟨s,C,h1,h2,h.symm⟩
 .cases h
section
variable{P:Program}{H:Type}{ec:TypeId×Value->H}{w w':World}{base b0:Nat}{r:Reach}{F:Nat->Prop}
def acd(J:Jl F w){n:Nat}:∀ {ts:List TypeId} {C:List Sh} {vs:List Value} {ds:List (DataW H)} {ps:List MemPlace},Cd P n ts=some C->C.all Sh.yg=true->
 (∀ (j:Nat) t v,ts[j]? =some t->vs[j]? =some v->Value.okWide P w r b0 t v)->DataW.TrodAll ec P w base (λ_=>true) true ts vs ds ps->
 ∃ aS,FU C aS/\aS.length=vs.length/\∀ (k:Nat) (d:D) (v:Value),aS[k]? =some d->vs[k]? =some v->R F j9 w d v
 |[],C,[],[],_,hs,_,_,_=>by
  simp[Cd,bg] at hs;subst hs;exact⟨[],.nil,rfl,oS⟩
 |t::ts,C,v::vs,d::ds,ps,hs,yh,cu,h=>by
  let⟨p,q,h1,h2,_⟩:=h;obtain⟨s,l',M,U,rfl⟩:=akA hs;simp only[all_cons,aJ] at yh;let⟨x,X,hx⟩:=atD J M yh.1 (cu 0 t v rfl rfl) h1;let⟨aS,a1,a2,a3⟩:=acd J U yh.2 (λj t v hj hv=>cu (j+1) t v (s0 hj) (s0 hv)) h2;refine⟨s.arg x::aS,.cons x X a1,by simp[a2],λk d v hd hv=>?_⟩;cases k with
  |zero=>
   simp[getElem?_cons_zero,bg] at hd hv;subst hd hv;exact hx
  |succ k=>exact a3 k d v (s0 hd) (s0 hv)
 |[],_,_::_,_,_,_,_,_,h=>by simp[DataW.TrodAll] at h
 |[],_,[],_::_,_,_,_,_,h=>by simp[DataW.TrodAll] at h
 |_::_,_,[],_,_,_,_,_,h=>by simp[DataW.TrodAll] at h
 |_::_,_,_::_,[],_,_,_,_,h=>by simp[DataW.TrodAll] at h
def Kept.same(h:Kept w w'){p:MemPlace}(hp:p.block<w.heap.size):w.sameAt w' p:=by
 cases p with
 |cell b o=>exact Go.World.cell?_of_block (w:=w) (h.2.1 b hp)
 |map b=>exact h.2.1 b hp
def Kept.frame(h:Kept w w')(C:MemPlace->Prop):w.keptBut w' C:=by
 refine⟨h.2.2.1,h.2.2.2,λi hi=>?_⟩;rw[h.2.1 i hi];split<;>simp_all
def WM(hl:laidOutB P=true)(h:Kept w w'):∀ {ts:List TypeId} {vs:List Value} {ds:List (DataW H)} {ps:List MemPlace},(ts.all λt=>P.readableRec t&&decide (t<P.types.size))=true->
 DataW.TrodAll ec P w 0 (λ_=>true) true ts vs ds ps->DataW.TrodAll ec P w' 0 (λb=>decide (b<w.heap.size)) true ts vs ds ps
 |[],[],[],_,_,h0=>h0
 |t::ts,v::vs,d::ds,ps,ht,h0=>by
  obtain⟨p,q,h1,h2,rfl⟩:=h0;simp[all_cons,aJ,decide_eq_true_eq] at ht;have ao:∀ x∈p,x.block<w.heap.size:=by let⟨m,hm⟩:=h1;exact DataW.trod_lt m _ _ _ hm
  exact⟨p,q,WideElems.Trod_stays hl ht.1.1 ht.1.2 h1 (λx hx=>h.same (ao x hx)) (λx hx=>s0 (ao x hx)),WM hl h (s0 ht.2) h2,rfl⟩
 |[],_::_,_,_,_,h0=>by simp[DataW.TrodAll] at h0
 |[],[],_::_,_,_,h0=>by simp[DataW.TrodAll] at h0
 |_::_,[],_,_,_,h0=>by simp[DataW.TrodAll] at h0
 |_::_,_::_,[],_,_,h0=>by simp[DataW.TrodAll] at h0
def Xj:∀ {ts:List TypeId} {vs:List Value} {ds:List (DataW H)} {ps:List MemPlace},DataW.TrodAll ec P w 0 (λ_=>true) true ts vs ds ps->ds.length=ts.length
 |[],[],[],_,_=>rfl
 |t::ts,v::vs,d::ds,ps,h0=>by
  obtain⟨p,q,h1,h2,rfl⟩:=h0;simp[Xj h2]
 |[],_::_,_,_,h0=>by simp[DataW.TrodAll] at h0
 |[],[],_::_,_,h0=>by simp[DataW.TrodAll] at h0
 |_::_,[],_,_,h0=>by simp[DataW.TrodAll] at h0
 |_::_,_::_,[],_,h0=>by simp[DataW.TrodAll] at h0
def ZX{nm:String}{d:DataW Unit}:∀ {l:List (String×DataW Unit)} {ps:List MemPlace},DataW.LaidVars P w l ps->(nm,d)∈l->
 ∃ g t cs eY p,P.globalNamed nm=some g/\(P.globals[g]?).map (·.type)=some t/\w.var? P nm=some cs/\DataW.trod (λ_=>()) P w 0 (λ_=>true) false eY t cs.toList=some (d,p)/\∀ x∈MemPlace.row ⟨g,0,none⟩ cs.size,x∈ps
 |[],_,_,h=>by simp at h
 |(n,e)::r,ps,hv,h=>by
  obtain⟨g,t,cs,eY,p,q,h1,h2,M,U,X,rfl⟩:=hv;rcases mem_cons.1 h with h|h
  .cases h;exact⟨g,t,cs,eY,p,h1,h2,M,U,λx hx=>mem_append_left _ (mem_append_left _ hx)⟩
  .let⟨J,t',cs',C,p',k1,k2,k3,k4,k5⟩:=ZX X h;exact⟨J,t',cs',C,p',k1,k2,k3,k4,λx hx=>mem_append_right _ (k5 x hx)⟩
def YR{e:TypeId}{m:Nat}{spare:Nat->Bool}{held:Bool}(he:P.underlying e=some (.int .u64))(hc:P.cellsOf e=1):∀ {cs:List Value} {l:List Int} {xs:List (DataW H×List MemPlace)},cs.length=l.length->xs.map (·.1)=l.map (λn=>DataW.lit (.int .u64 n))->
 (∀ i,i<l.length->DataW.trod ec P w base spare held m e ((cs.drop i).take 1)=xs[i]?)->cs=l.map (Value.int .u64 ·)
 |[],[],_,_,_,_=>rfl
 |c::cs,n::l,[],_,hx,_=>by simp at hx
 |c::cs,n::l,x::xs,hl,hx,h=>by
  have h0:=h 0 oS;simp[drop_zero,take_succ_cons,take_zero,getElem?_cons_zero] at h0;let⟨b,hb,J,_⟩:=DataW.trod_int he h0;simp[map_cons,cons.injEq] at hx;have C:x.1=DataW.lit (.int .u64 b):=by rw[J]
  rw[hx.1] at C;simp[DataW.lit.injEq,Lit.int.injEq,true_and] at C;subst C;simp[cons.injEq,and_true] at hb;subst hb;rw[map_cons,YR he hc (cs:=cs) (l:=l) (xs:=xs) (s0 hl) hx.2 λi hi=>s0 (h (i+1) (s0 hi))]
 |[],_::_,_,hl,_,_=>by simp at hl
 |_::_,[],_,hl,_,_=>by simp at hl
def aiu{laid:List (String×DataW Unit)}{nm:String}{g t e:Nat}{l:List Int}(h:laidMet P laid w)(hm:(nm,DataW.agg (l.map λn=>DataW.lit (.int .u64 n)))∈laid)(hg:P.globalNamed nm=some g)
 (ht:(P.globals[g]?).map (·.type)=some t) (hu:P.underlying t=some (.array l.length e)) (hs:P.cellsOf t=l.length) (he:P.underlying e=some (.int .u64)) (hc:P.cellsOf e=1) (aR:0<l.length):
 ∃ ty,w.heap[g]? =some (.cells (l.map (Value.int .u64 ·)).toArray ty (0,0)):=by
 let⟨ps,hv,_,hp⟩:=h;let⟨M,t',cs,eY,p,h1,h2,J,U,X⟩:=ZX hv hm;obtain rfl:g=M:=Option.some.inj (hg.symm.trans h1);obtain rfl:t=t':=Option.some.inj (ht.symm.trans h2);let⟨xs,m,_,e2,e3,e4,e5⟩:=DataW.trod_array hu U
 have C:cs.toList=l.map (Value.int .u64 ·):=by
  refine YR (ec:=λ_=>()) (w:=w) (base:=0) (spare:=λ_=>true) (held:=false) (m:=m) (xs:=xs) he hc (by rw[e3,hs]) ?_ λi hi=>?_
  .simp[dp,DataW.agg.injEq] at e2;exact e2.1.symm
  .have:=e5 i hi
   rwa[hc,Nat.mul_one] at this
 have cC:0<cs.size:=by
  have:cs.toList.length=l.length:=by rw[C];simp
  simp at this;omega
 let⟨⟨c,ty,hh⟩,_⟩:=hp g 0 (X _ (by
  unfold MemPlace.row;refine mem_map.2 ⟨0,s0 cC,?_⟩
  simp[Addr.add]))
 refine⟨ty,?_⟩;simp[World.var?,hg,Option.bind_some,hh,bg] at J;subst J;rw[hh, <- C]
end
def agR{C:Checked}{f:FuncId}{fn:Func}{s:ChangeSpec}{H:Type}{ec:TypeId×Value->H}{n:Nat}{M:List Sh}{tb:TypeId}{F:Nat->Prop}
 (J:s.vars=[]) (hs:∀ ds:List (DataW H),ds.length=fn.params.size->s.fn H ds={ results:=[.lit (.bool true)],args:=ds })
 (U:laidOutB C.prog=true) (X:(fn.params.toList.all λt=>C.prog.readableRec t&&decide (t<C.prog.types.size))=true) (qJ:fn.resultTypes= #[tb]) (hb:C.prog.underlying tb=some .bool)
 (tu:Cd C.prog n fn.params.toList=some M) (yh:M.all Sh.yg=true) (h:∀ aS,FU M aS->aH C.prog f aS (.s (.bool true)))
 (W:World) (base:Nat) (args:Array Value) (ds gs:List (DataW H)) (before:List MemPlace) (hFB:FB F W) (hU:Jl F W)
 (JR:∀ (j:Nat) t v,fn.params[j]? =some t->args[j]? =some v->Value.okWide C.prog W .any base t v)
 (hW:DataW.Whole ec C.prog fn.params.toList s.vars false W args.toList ds gs before):
 Calls C.prog f args W λe W'=>∃ v,e=.returned v/\s.post ec C.prog fn false true false false W args v W':=by
 have hW':=hW;obtain⟨p,q,hA,hV,rfl,hfz,fN⟩:=hW;rw[J] at hV
 have hg:gs=[]/\q=[]:=by
  cases gs with
  |nil=>exact⟨rfl,hV⟩
  |cons g gs=>exact hV.elim
 obtain⟨rfl,rfl⟩:=hg;let⟨aS,a1,a2,a3⟩:=acd hU tu yh (λj t v hj hv=>JR j t v (s0 hj) (s0 hv)) hA;refine((h aS a1).2.2 F W args hFB ⟨s0 a2.symm,λk d v hd hv=>a3 k d v hd (s0 hv)⟩).mono ?_;rintro e W' ⟨v,rfl,hv,hk⟩;obtain⟨rfl,_⟩:=hv.du;have hlen:ds.length=fn.params.size:=s0 (Xj hA)
 refine⟨_,rfl,ds,[],_,[],p,[],hW',?_,?_,?_,hk.frame _,λh=>by cases h⟩
 .rw[append_nil,hs ds hlen,qJ];exact⟨[],[],⟨1,by simp[DataW.trod,Value.cells,hb]⟩,rfl,rfl⟩
 .rw[append_nil,hs ds hlen];exact WM U hk X hA
 .rw[append_nil,hs ds hlen,J];rfl
end Go.Abs
section
open Go Go.Proofs List
namespace Go.Abs
open Go.Proofs.Tryz
section
variable{l:List Int}{g:FuncId}{p:Int->Bool}
def Ul{fs cs:List D}(ht:Tr (.fn (.func g) fs cs))(hg:∀ x∈l,aH prog g (fs++[U8 x]++cs) (B (p x))):aH prog 226 [jW l,.fn (.func g) fs cs] (I (rQ p l)):=by
 refine nB (fo f226).he (.cons (qq _) (.cons ht .nil)) λC=>?_;have hlen:=(C (jW l) oS).sl.1;unfold maxLen at hlen;refine bx (fo f226) (.cons (qq _) (.cons ht .nil)) (Tr.s _) ?_;refine ws (SS ?_);refine af (aG (aA (ax ?_)))
 refine af (cw (λs=>aP prog s ⟨aD [],λ_=>none,0⟩/\∀ (j:Nat) y,l[j]? =some y->p y=false) (eB (α:=Nat) (λk=>⟨aD [(0,jW l),(1,.fn (.func g) fs cs),(7,I l.length),(8,I k)],λ_=>none,0⟩)
  (λk=>k<=l.length/\∀ j y,j<k->l[j]? =some y->p y=false) (λk=>l.length - k) 0 (au eH) ⟨oG,λj y hj=>by omega⟩ ?_) ?_)
 .rintro k ⟨hk,hinv⟩;refine SS ?_;refine af ⟨_,rfl,λh=>?_,λh=>?_⟩
  .have ao:k<l.length:=s0 h
   have hx:l[k]? =some l[k]:=by simp[ao]
   generalize l[k]=x at hx;have J:=hg x (bD hx);refine ws (ag ?_);refine er (cz ?_);refine af (aB rfl (λhp=>?_) λhp=>?_)
   .refine ws (ag ?_);refine af (bj (bP (aY (aC rfl ?_))));rw[yj hx hp hinv];rfl
   .refine cB (ag ?_);refine af (aW (k+1) (au eH) ⟨oG,λj y hj hy=>?_⟩ oG);by_cases e:j=k
    .subst e;rw[hx] at hy;cases hy;exact hp
    .exact hinv j y oG hy
  .have U:¬ k<l.length:=s0 h
   exact⟨.forget _ _ _ _ λ_=>.inr rfl,λj y hy=>hinv j y (by have:=(bQ.1 hy).1;omega) hy⟩
 .rintro s ⟨hg,M⟩;refine⟨_,hg,al ?_⟩;refine SS ?_;refine af (aC rfl ?_);rw[Bf M];rfl
def Ay{l:List Int}{g:FuncId}{fs cs:List D}{p:Int->Bool}(ht:Tr (.fn (.func g) fs cs))(hg:∀ x∈l,aH prog g (fs++[U8 x]++cs) (B (p x))):aH prog 163 [jW l,.fn (.func g) fs cs] (B (l.any p)):=by
 have Ul:=Ul ht hg;refine bx (fo f163) (.cons (qq _) (.cons ht .nil)) (Tr.s _) ?_;refine ws (SS ?_);refine er (bh ?_);refine af (aC rfl ?_);rw[<- Ls];rfl
def Um{l:List ByteArray}{fs cs:List D}{p:ByteArray->Bool}(ht:Tr (.fn (.func g) fs cs))(hg:∀ x∈l,aH prog g (fs++[S x]++cs) (B (p x))):aH prog 166 [fT l,.fn (.func g) fs cs] (I (rQ p l)):=by
 refine nB (fo f166).he (.cons (rA _) (.cons ht .nil)) λC=>?_;have hlen:=(C (fT l) oS).sl.1;unfold maxLen at hlen;refine bx (fo f166) (.cons (rA _) (.cons ht .nil)) (Tr.s _) ?_;refine ws (SS ?_);refine af (aG (aA (ax ?_)))
 refine af (cw (λs=>aP prog s ⟨aD [],λ_=>none,0⟩/\∀ (j:Nat) y,l[j]? =some y->p y=false) (eB (α:=Nat) (λk=>⟨aD [(0,fT l),(1,.fn (.func g) fs cs),(7,I l.length),(8,I k)],λ_=>none,0⟩)
  (λk=>k<=l.length/\∀ j y,j<k->l[j]? =some y->p y=false) (λk=>l.length - k) 0 (au eH) ⟨oG,λj y hj=>by omega⟩ ?_) ?_)
 .rintro k ⟨hk,hinv⟩;refine SS ?_;refine af ⟨_,rfl,λh=>?_,λh=>?_⟩
  .have ao:k<l.length:=s0 h
   have hx:l[k]? =some l[k]:=by simp[ao]
   generalize l[k]=x at hx;have J:=hg x (bD hx);refine ws (ag ?_);refine er (cz ?_);refine af (aB rfl (λhp=>?_) λhp=>?_)
   .refine ws (ag ?_);refine af (bj (bP (aY (aC rfl ?_))));rw[yj hx hp hinv];rfl
   .refine cB (ag ?_);refine af (aW (k+1) (au eH) ⟨oG,λj y hj hy=>?_⟩ oG);by_cases e:j=k
    .subst e;rw[hx] at hy;cases hy;exact hp
    .exact hinv j y oG hy
  .have U:¬ k<l.length:=s0 h
   exact⟨.forget _ _ _ _ λ_=>.inr rfl,λj y hy=>hinv j y (by have:=(bQ.1 hy).1;omega) hy⟩
 .rintro s ⟨hg,M⟩;refine⟨_,hg,al ?_⟩;refine SS ?_;refine af (aC rfl ?_);rw[Bf M];rfl
def NP{l:List ByteArray}{g:FuncId}{fs cs:List D}{p:ByteArray->Bool}(ht:Tr (.fn (.func g) fs cs))(hg:∀ x∈l,aH prog g (fs++[S x]++cs) (B (p x))):aH prog 126 [fT l,.fn (.func g) fs cs] (B (l.any p)):=by
 have Um:=Um ht hg;refine bx (fo f126) (.cons (rA _) (.cons ht .nil)) (Tr.s _) ?_;refine ws (SS ?_);refine er (bh ?_);refine af (aC rfl ?_);rw[<- Ls];rfl
def Un{l:List jf}{fs cs:List D}{p:jf->Bool}(ht:Tr (.fn (.func g) fs cs))(hg:∀ x∈l,aH prog g (fs++[.agg (jX x)]++cs) (B (p x))):aH prog 223 [nX l,.fn (.func g) fs cs] (I (rQ p l)):=by
 refine nB (fo f223).he (.cons (mr _) (.cons ht .nil)) λC=>?_;have hlen:=(C (nX l) oS).sl.1;unfold maxLen at hlen;refine bx (fo f223) (.cons (mr _) (.cons ht .nil)) (Tr.s _) ?_;refine ws (SS ?_);refine af (aG (aA (ax ?_)))
 refine af (cw (λs=>aP prog s ⟨aD [],λ_=>none,0⟩/\∀ (j:Nat) y,l[j]? =some y->p y=false) (eB (α:=Nat) (λk=>⟨aD [(0,nX l),(1,.fn (.func g) fs cs),(7,I l.length),(8,I k)],λ_=>none,0⟩)
  (λk=>k<=l.length/\∀ j y,j<k->l[j]? =some y->p y=false) (λk=>l.length - k) 0 (au eH) ⟨oG,λj y hj=>by omega⟩ ?_) ?_)
 .rintro k ⟨hk,hinv⟩;refine SS ?_;refine af ⟨_,rfl,λh=>?_,λh=>?_⟩
  .have ao:k<l.length:=s0 h
   have hx:l[k]? =some l[k]:=by simp[ao]
   generalize l[k]=x at hx;have J:=hg x (bD hx);refine ws (ag ?_);refine er (cz ?_);refine af (aB rfl (λhp=>?_) λhp=>?_)
   .refine ws (ag ?_);refine af (bj (bP (aY (aC rfl ?_))));rw[yj hx hp hinv];rfl
   .refine cB (ag ?_);refine af (aW (k+1) (au eH) ⟨oG,λj y hj hy=>?_⟩ oG);by_cases e:j=k
    .subst e;rw[hx] at hy;cases hy;exact hp
    .exact hinv j y oG hy
  .have U:¬ k<l.length:=s0 h
   exact⟨.forget _ _ _ _ λ_=>.inr rfl,λj y hy=>hinv j y (by have:=(bQ.1 hy).1;omega) hy⟩
 .rintro s ⟨hg,M⟩;refine⟨_,hg,al ?_⟩;refine SS ?_;refine af (aC rfl ?_);rw[Bf M];rfl
def Jz{l:List jf}{g:FuncId}{fs cs:List D}{p:jf->Bool}(ht:Tr (.fn (.func g) fs cs))(hg:∀ x∈l,aH prog g (fs++[.agg (jX x)]++cs) (B (p x))):aH prog 228 [nX l,.fn (.func g) fs cs] (B (l.any p)):=by
 have Un:=Un ht hg;refine bx (fo f228) (.cons (mr _) (.cons ht .nil)) (Tr.s _) ?_;refine ws (SS ?_);refine er (bh ?_);refine af (aC rfl ?_);rw[<- Ls];rfl
def Vo{fs cs:List D}(ht:Tr (.fn (.func g) fs cs))(hg:∀ x∈l,aH prog g (fs++[I x]++cs) (B (p x))):aH prog 89 [aU l,.fn (.func g) fs cs] (I (rQ p l)):=by
 refine nB (fo f89).he (.cons (dP _) (.cons ht .nil)) λC=>?_;have hlen:=(C (aU l) oS).sl.1;unfold maxLen at hlen;refine bx (fo f89) (.cons (dP _) (.cons ht .nil)) (Tr.s _) ?_;refine ws (SS ?_);refine af (aG (aA (ax ?_)))
 refine af (cw (λs=>aP prog s ⟨aD [],λ_=>none,0⟩/\∀ (j:Nat) y,l[j]? =some y->p y=false) (eB (α:=Nat) (λk=>⟨aD [(0,aU l),(1,.fn (.func g) fs cs),(7,I l.length),(8,I k)],λ_=>none,0⟩)
  (λk=>k<=l.length/\∀ j y,j<k->l[j]? =some y->p y=false) (λk=>l.length - k) 0 (au eH) ⟨oG,λj y hj=>by omega⟩ ?_) ?_)
 .rintro k ⟨hk,hinv⟩;refine SS ?_;refine af ⟨_,rfl,λh=>?_,λh=>?_⟩
  .have ao:k<l.length:=s0 h
   have hx:l[k]? =some l[k]:=by simp[ao]
   generalize l[k]=x at hx;have J:=hg x (bD hx);refine ws (ag ?_);refine er (cz ?_);refine af (aB rfl (λhp=>?_) λhp=>?_)
   .refine ws (ag ?_);refine af (bj (bP (aY (aC rfl ?_))));rw[yj hx hp hinv];rfl
   .refine cB (ag ?_);refine af (aW (k+1) (au eH) ⟨oG,λj y hj hy=>?_⟩ oG);by_cases e:j=k
    .subst e;rw[hx] at hy;cases hy;exact hp
    .exact hinv j y oG hy
  .have U:¬ k<l.length:=s0 h
   exact⟨.forget _ _ _ _ λ_=>.inr rfl,λj y hy=>hinv j y (by have:=(bQ.1 hy).1;omega) hy⟩
 .rintro s ⟨hg,M⟩;refine⟨_,hg,al ?_⟩;refine SS ?_;refine af (aC rfl ?_);rw[Bf M];rfl
def Hl{l:List Int}{g:FuncId}{fs cs:List D}{p:Int->Bool}(ht:Tr (.fn (.func g) fs cs))(hg:∀ x∈l,aH prog g (fs++[I x]++cs) (B (p x))):aH prog 76 [aU l,.fn (.func g) fs cs] (B (l.any p)):=by
 have Vo:=Vo ht hg;refine bx (fo f76) (.cons (dP _) (.cons ht .nil)) (Tr.s _) ?_;refine ws (SS ?_);refine er (bh ?_);refine af (aC rfl ?_);rw[<- Ls];rfl
end
def qj{n a b:Int}:aH prog 73 [I n,I a,I b] (B (eg n a b)):=by
 refine bx (fo f73) (by simp[Tr.s]) (Tr.s _) ?_;refine ws (SS ?_);refine er (aX ?_);refine af (aC (d:=.s (.bool _)) rfl ?_);simp[eg]
def aws{b:Int}:aH prog 164 [U8 b] (B (yq b)):=by
 refine bx (fo f164) (by simp[Tr.s]) (Tr.s _) ?_;refine ws (SS ?_);refine er (ek ?_);refine af (aC (d:=.s (.bool _)) rfl ?_);simp[yq]
def awt{b:Int}:aH prog 167 [U8 b] (B (yr b)):=by
 refine bx (fo f167) (by simp[Tr.s]) (Tr.s _) ?_;refine ws (SS ?_);refine er (aX ?_);refine cz ?_;refine af (aC (d:=.s (.bool _)) rfl ?_);simp[yr]
def xD{s:ByteArray}:aH prog 124 [S s] (B (kZ s)):=by
 refine bx (fo f124) (by simp[Tr.s]) (Tr.s _) ?_;have Ay:=Ay (l:=dO s) (g:=164) (fs:=[]) (cs:=[]) (p:=yq) (.fn oS oS) (λx _=>aws);refine ws (SS ?_);refine er (ag ?_);refine cl qj ?_;refine ag ?_;refine cF rfl rfl (YZ rfl V.h V.h) (λhc=>⟨ak,⟨V.h,by have:=kC.1 (by simpa using hc);unfold maxLen;omega⟩⟩) (gc Ay ?_);refine ax ?_;refine af (aC (d:=.s (.bool _)) rfl ?_);simp[kZ]
def JK{s:ByteArray}:aH prog 128 [S s] (B (isName s)):=by
 refine bx (fo f128) (by simp[Tr.s]) (Tr.s _) ?_;have Ay:=Ay (l:=dO s) (g:=167) (fs:=[]) (cs:=[]) (p:=yr) (.fn oS oS) (λx _=>awt);refine ws (SS ?_);refine er (ag ?_);refine cl qj ?_;refine ag ?_;refine cF rfl rfl (YZ rfl V.h V.h) (λhc=>⟨ak,⟨V.h,by have:=kC.1 (by simpa using hc);unfold maxLen;omega⟩⟩) (gc Ay ?_);refine ax ?_;refine af (aC (d:=.s (.bool _)) rfl ?_);simp[isName]
def awu{s:ByteArray}:aH prog 127 [S s] (B !(isName s)):=by
 refine bx (fo f127) (by simp[Tr.s]) (Tr.s _) ?_;refine ws (SS ?_);refine er (SS ?_);refine cl JK ?_;refine ag ?_;refine af (aC rfl rfl)
def awv{b m:Int}:aH prog 165 [U8 b,.pt [U8 m]] (B (pC m b)):=by
 refine bx (fo f165) (.cons (.s _) (.cons (.pt (by simp[Tr.s])) .nil)) (Tr.s _) ?_;refine ws (SS ?_);refine er (cJ ?_);refine af (aC (d:=.s (.bool _)) rfl ?_);simp[pC]
def UF{l:List Int}{m:Int}:aH prog 125 [jW l,U8 m] (B (gk l m)):=by
 refine bx (fo f125) (.cons (qq _) fp) (Tr.s _) ?_;have Ay:=Ay (l:=l) (g:=165) (fs:=[]) (cs:=[.pt [U8 m]]) (p:=pC m) (.fn oS (.cons (.pt (by simp[Tr.s])) .nil)) (λx _=>awv);refine aA (di (MK (d:=.s (.int _ _)) rfl rfl) ak rfl (SS ?_));refine af (br (cH [(0,[U8 m],5)] eH (l:=[(0,jW l),(3,.pt [U8 m])]) eH) (al ?_));refine bh ?_;refine af (aC rfl rfl)
def QF{p q:D}{f:az}(h:Real (.agg (bG p q f))):f.aj.length<=maxLen/\f.a6.length<=maxLen/\f.signals.length<=maxLen/\f.blocks.length<=maxLen:=
 ⟨(h.agg (jW f.aj) (by simp[bG])).sl.1,(h.agg (jW f.a6) (by simp[bG])).sl.1,(h.agg (fT f.signals) (by simp[bG])).sl.1,(h.agg (dz f.blocks) (by simp[bG])).sl.1⟩
section
variable{p q:D}{f:az}(hp:Tr p)(hq:Tr q)(iE:p.one=true)(cK:q.one=true)
include hp hq iE cK
def nk{n:Int}:aH prog 168 [.agg (bG p q f),I n] (B (eg n 0 (f.blocks.length - 1))):=by
 have C:∀ a∈[D.agg (bG p q f),I n],Tr a:=.cons (oa hp hq f) fp;refine nB (fo f168).he C λJ=>?_;let⟨M,U,X,l4⟩:=QF (J _ (mem_cons_self ..));unfold maxLen at*
 refine bx (fo f168) C (Tr.s _) ?_;refine ws (ag ?_);refine er (cz ?_);refine cl qj ?_;refine SS ?_;refine af (aC rfl rfl)
def iA{r:Int}:aH prog 169 [.agg (bG p q f),I r] (U8 (dc f.aj r)):=by
 have C:∀ a∈[D.agg (bG p q f),I r],Tr a:=.cons (oa hp hq f) fp;refine nB (fo f169).he C λJ=>?_;let⟨M,U,X,l4⟩:=QF (J _ (mem_cons_self ..));unfold maxLen at*
 refine bx (fo f169) C (Tr.s _) ?_;refine ws (ag ?_);refine af (aG (al (cz ?_)));refine cl qj ?_;refine SS ?_;refine af (cM rfl (λh=>?_) λh=>?_)
 .refine aG (al (SS ?_));refine af (de (aC rfl ?_));rw[QC (λhh=>by simp[eg] at h;omega)];rfl
 .have hh:0<=r/\r<f.aj.length:=by simp[eg] at h;omega
  obtain⟨i,rfl⟩:=jy hh.1;have ao:i<f.aj.length:=by omega
  have hx:f.aj[i]? =some f.aj[i]:=by simp[ao]
  generalize f.aj[i]=x at hx;refine cI (al (ek ?_));refine af (aC rfl ?_);rw[yu hx];rfl
theorem awE{r:Int}:aH prog 230 [I r,.pt (bG p q f)] (B !(fU f.aj r)):=by
 have C:∀ a∈[I r,D.pt (bG p q f)],Tr a:=.cons (.s _) (.cons (.pt (Ib hp hq f)) .nil);have iA:=iA (f:=f) (r:=r) hp hq iE cK;refine bx (fo f230) C (Tr.s _) ?_;refine ws (SS ?_);refine er (aX ?_);refine ag ?_;refine af (aC (d:=.s (.bool _)) rfl ?_);unfold fU;generalize dc f.aj r=k;show D.s (.bool _)=D.s (.bool _);simp only[bne];cases (k==1)<;>cases (k==2)<;>rfl
def lm{l:List Int}:aH prog 172 [.agg (bG p q f),aU l] (B (jC f.aj l)):=by
 have C:∀ a∈[D.agg (bG p q f),aU l],Tr a:=.cons (oa hp hq f) (.cons (dP _) .nil);have Hl:=Hl (l:=l) (g:=230) (fs:=[]) (cs:=[.pt (bG p q f)]) (p:=λr=> !(fU f.aj r)) (.fn oS (.cons (.pt (Ib hp hq f)) .nil)) (λx _=>awE hp hq iE cK);refine bx (fo f172) C (Tr.s _) ?_;refine aA (ag ?_);refine af (br (cH [(0,bG p q f,113)] eH (l:=[(1,aU l),(2,.pt (bG p q f))]) eH) (al ?_));refine ag ?_;refine cl Hl ?_;refine ag ?_;refine af (aC (d:=.s (.bool _)) rfl ?_);simp[jC,all_eq_not_any_not]
theorem N7{r n:Int}:aH prog 176 [.agg (bG p q f),I r,I n] (B (pT f.aj f.a6 r n)):=by
 have J:∀ a∈[D.agg (bG p q f),I r,I n],Tr a:=.cons (oa hp hq f) (.cons (.s _) fp);refine nB (fo f176).he J λM=>?_;let⟨U,X,l3,l4⟩:=QF (M _ (mem_cons_self ..));unfold maxLen at*
 have iA:=iA (f:=f) (r:=r) hp hq iE cK;refine bx (fo f176) J (Tr.s _) ?_;have qj:=qj (n:=n) (a:=0) (b:=f.a6.length - 1);by_cases hh:0<=n/\n<f.a6.length
 .obtain⟨i,rfl⟩:=jy hh.1;have ao:i<f.a6.length:=by omega
  have hx:f.a6[i]? =some f.a6[i]:=by simp[ao]
  generalize f.a6[i]=x at hx;have C:eg (i:Int) 0 (f.a6.length - 1)=true:=kC.2 oG;rw[C] at qj;refine ws (ag ?_);refine af (c6 (hD [(10,11),(10,12),(10,13),(10,15),(10,16)]) ?_);refine cJ ?_;refine cF rfl rfl (gA (vs:=bG _ _ _) rfl rfl V.h V.h rfl) (λhc=>⟨ak,(gB V.h V.h c0)⟩) (aX ?_);refine ag ?_;refine bJ bM (aC (d:=.s (.bool _)) rfl ?_);simp[pT,C,yu hx]
 .have C:eg n 0 (f.a6.length - 1)=false:=aj0.2 oG;rw[C] at qj;refine ws (ag ?_);refine af (c6 (hD [(10,11),(10,12),(10,13),(10,15),(10,16)]) ?_);refine cJ ?_;(iterate 10 refine z λ_ _=>?_);refine ag ?_;refine bJ bM (aC (d:=.s (.bool _)) rfl ?_);simp[pT,C]
end
section
variable{p q:D}{f:az}(hp:Tr p)(hq:Tr q)(iE:p.one=true)(cK:q.one=true)
include hp hq iE cK
def JN{r want kd:Int}:aH prog 227 [.agg (bG p q f),I r,I want,U8 kd] (B (og f.aj r want kd)):=by
 have J:∀ a∈[D.agg (bG p q f),I r,I want,U8 kd],Tr a:=.cons (oa hp hq f) (.cons (.s _) (.cons (.s _) fp));have iA:=iA (f:=f) (r:=r) hp hq iE cK;refine bx (fo f227) J (Tr.s _) ?_;refine ws (ag ?_);refine er (aI (gA (vs:=bG _ _ _) rfl rfl V.h V.h rfl) ak (gB V.h V.h c0) (ax ?_));refine af (aG (al (SS ?_)));refine af (rj (al (ag ?_)));refine af (aB rfl (λh0=>?_) λh0=>?_)
 .have h0:want=0:=s0 h0
  refine ws (ax ?_);refine af (bj (cA (aY (aC (d:=.s (.bool _)) rfl ?_))));simp[og,h0]
 have h0:¬ want=0:=s0 h0
 refine ws (ag ?_);refine af (aB rfl (λh1=>?_) λh1=>?_)
 .have h1:want=1:=s0 h1
  refine ws (ax ?_);refine af (bj (cA (aY (aC (d:=.s (.bool _)) rfl ?_))));simp[og,h1]
 have h1:¬ want=1:=s0 h1
 refine ws (ag ?_);refine af (aB rfl (λh2=>?_) λh2=>?_)
 .have h2:want=2:=s0 h2
  refine ws (ax ?_);refine af (bj (cA (aY (aC (d:=.s (.bool _)) rfl ?_))));simp[og,h2]
 have h2:¬ want=2:=s0 h2
 refine ws (ag ?_);refine af (aB rfl (λC=>?_) λC=>?_)
 .have C:want=3:=s0 C
  refine ws (ek ?_);refine af (bj (cA (aY (aC (d:=.s (.bool _)) rfl ?_))));simp[og,C,fU,ib]
 have C:¬ want=3:=s0 C
 refine qw (al (cJ ?_));refine af (aC (d:=.s (.bool _)) rfl ?_);simp[og,h0,h1,h2,C,ib,bne]
def GR{x:cq}{s:Shape}:aH prog 170 [.agg (bG p q f),.agg (bU x),.agg (mU s)] (B (rC f.aj x s)):=by
 have M:∀ a∈[D.agg (bG p q f),.agg (bU x),.agg (mU s)],Tr a:=.cons (oa hp hq f) (.cons (.agg (tP x)) (.cons (.agg (Yw s)) .nil));have iA:=λr=>iA (f:=f) (r:=r) hp hq iE cK;have JN:= @JN p q f hp hq iE cK;have lm:=lm (f:=f) hp hq iE cK (l:=x.args);have J:=qj (n:=x.n) (a:=s.low) (b:=s.high);refine bx (fo f170) M (Tr.s _) ?_;refine aA (ag ?_);refine di (yM (cs:=mU _) rfl) ak (by first|rfl|exact zO iE cK|exact s9 _|exact Al dN) (SS ?_);refine af (br (cH [(0,bG p q f,113),(1,bU x,54),(2,mU s,237)] eH (l:=[(3,.pt (bG p q f)),(4,.pt (bU x)),(5,.pt (mU s))]) eH) (al ?_));have C:=iA;have iA:=iA x.to;refine bh ?_;refine af (fS (λs'=>aP prog s' ⟨aD [(3,.pt (bG p q f)),(4,.pt (bU x)),(5,.pt (mU s)),(7,U8 (vr f.aj x s))],λ_=>none,3⟩) (al ?_) λs' hg=>⟨_,hg,?_⟩)
 .refine cJ ?_;refine af (aB rfl (λh=>nH ?_) λh=>bV ?_)
  .have h:s.to=0\/s.to=1:=by simpa[ib] using h
   have iA:=C x.a;refine bh ?_;apply af;show aP _ _ _;refine au (l:=[(3,_),(4,_),(5,_),(7,_)]) ⟨rfl,rfl,rfl,?_,aa⟩;simp[vr,bi h];rfl
  .have h:¬ (s.to=0\/s.to=1):=by simpa[ib] using h
   show aP _ _ _;refine au (l:=[(3,_),(4,_),(5,_),(7,_)]) ⟨rfl,rfl,rfl,?_,aa⟩;simp[vr,ai h];rfl
 refine ws (bh ?_);refine af (fS (λs'=>aP prog s' ⟨aD [(3,.pt (bG p q f)),(4,.pt (bU x)),(5,.pt (mU s)),(7,U8 (vr f.aj x s)),(8,B (tK f.aj x s))],λ_=>none,3⟩) (al ?_) λs' hg=>⟨_,hg,?_⟩)
 .refine ag ?_;refine af (tN (al (ag ?_)));refine af (aB rfl (λh=>sy ?_) λh=>al ?_)
  .have h:s.args=5:=s0 h
   have qj:=qj (n:=x.args.length) (a:=1) (b:=6);refine aX ?_;refine ag ?_;refine af (au ⟨rfl,rfl,rfl,rfl,?_,aa⟩);show D.s (.bool _)=_;simp[tK,h]
  .have U:¬ s.args=5:=s0 h
   refine ag ?_;refine af (aB rfl (λh=>sy ?_) λh=>QP ?_)
   .have h:s.args=6:=s0 h
    refine aX ?_;refine ag ?_;refine af (au ⟨rfl,rfl,rfl,rfl,?_,aa⟩);show D.s (.bool _)=_;simp[tK,h,ib]
   .have X:¬ s.args=6:=s0 h
    refine au ⟨rfl,rfl,rfl,rfl,?_,aa⟩;show D.s (.bool _)=_;simp[tK,U,X,ib]
 refine ws (bh ?_);refine cl JN ?_;refine ek ?_;refine gc JN ?_;refine cJ ?_;refine gc JN ?_;refine aX ?_;refine ag ?_;refine gc qj ?_;refine ag ?_;refine af (aC (d:=.s (.bool _)) rfl ?_);simp[rC,Bool.and_assoc]
end
def UI{x:cq}:aH prog 231 [.agg (bU x)] (B (BB x)):=by
 have C:∀ a∈[D.agg (bU x)],Tr a:=.cons (.agg (tP x)) .nil;refine bx (fo f231) C (Tr.s _) ?_;refine ws (ag ?_);refine er (aX ?_);refine aX ?_;refine aX ?_;refine ax ?_;refine af (aC (d:=.s (.bool _)) rfl ?_);simp[BB,ib];cases decide (x.op=0)<;>cases decide (x.to=0)<;>cases decide (x.a=0)<;>cases decide (x.b=0)<;>cases decide (x.n=0)<;>rfl
def UJ{x:Abs.End}:aH prog 173 [.agg (bq x)] (B (xc x)):=by
 have C:∀ a∈[D.agg (bq x)],Tr a:=.cons (.agg (oU x)) .nil;have UI:=UI (x:=x.ins);refine bx (fo f173) C (Tr.s _) ?_;refine ws (ag ?_);refine er (aX ?_);refine aX ?_;refine aX ?_;refine aX ?_;refine aX ?_;refine ag ?_;refine cF rfl rfl (gA (vs:=bU _) rfl rfl V.h V.h rfl) (λhc=>⟨ak,(gB V.h V.h c0)⟩) (ax ?_);refine af (aC (d:=.s (.bool _)) rfl ?_);have:decide (x.name.toList=[])=x.name.toList.isEmpty:=by cases x.name.toList<;>rfl
 simp[xc,ib,Bool.and_assoc,this]
def awF{w v:jf}:aH prog 229 [.agg (jX v),.pt (jX w)] (B (v.name.toList==w.name.toList)):=by
 have C:∀ a∈[D.agg (jX v),.pt (jX w)],Tr a:=.cons (.agg (LC v)) (.cons (.pt (LC w)) .nil);refine bx (fo f229) C (Tr.s _) ?_;refine ws (di (yM (cs:=jX _) rfl) ak (by first|rfl|exact zO iE cK|exact s9 _|exact Al dN) (SS ?_));refine er (cz ?_);exact af (aC rfl rfl)
section
variable{p q:D}{f:az}(hp:Tr p)(hq:Tr q)(iE:p.one=true)(cK:q.one=true)
include hp hq iE cK
def zo{x:Abs.End}:aH prog 171 [.agg (bG p q f),.agg (bq x)] (B (mu f x)):=by
 have J:∀ a∈[D.agg (bG p q f),.agg (bq x)],Tr a:=.cons (oa hp hq f) (.cons (.agg (oU x)) .nil);refine nB (fo f171).he J λX=>?_;have hlen:x.aK.length<=maxLen:=((X _ (mem_cons_of_mem _ (mem_cons_self ..))).agg (nX x.aK) (by simp[bq])).sl.1;unfold maxLen at hlen;have nk:= @nk p q f hp hq iE cK;refine bx (fo f171) J (Tr.s _) ?_;refine aA (ax ?_);refine af (br (cH [(0,bG p q f,113),(1,bq x,57)] eH (l:=[(2,.pt (bG p q f)),(3,.pt (bq x))]) eH) (aG (aA ?_)));refine aQ ?_
 refine af (cw (λs=>∃ n,aP prog s ⟨aD [(2,.pt (bG p q f)),(3,.pt (bq x))],λ_=>none,n⟩/\∀ (j:Nat) y,x.aK[j]? =some y->qG f x.aK j y=true) (eB (α:=Nat) (λk=>⟨aD [(2,.pt (bG p q f)),(3,.pt (bq x)),(8,nX x.aK),(9,I x.aK.length),(10,I k)],λ_=>none,2+k⟩)
  (λk=>k<=x.aK.length/\∀ j y,j<k->x.aK[j]? =some y->qG f x.aK j y=true) (λk=>x.aK.length - k) 0 (au eH) ⟨oG,λj y hj=>by omega⟩ ?_) ?_)
 .rintro k ⟨hk,hinv⟩;refine SS ?_;refine af ⟨_,rfl,λh=>?_,λh=>?_⟩
  .have ao:k<x.aK.length:=s0 h
   have hx:x.aK[k]? =some x.aK[k]:=by simp[ao]
   generalize x.aK[k]=w at hx;refine aA (cz ?_);refine af (br (cH [(2+k,jX w,79)] ⟨aw _ _ _,aa⟩ (l:=[(2,.pt (bG p q f)),(3,.pt (bq x)),(5,I k),(6,.pt (jX w)),(8,nX x.aK),(9,I x.aK.length),(10,I k)]) ⟨rfl,rfl,rfl,nh (sz:=prog.cellsOf 79),rfl,rfl,rfl,aa⟩) (al ?_));have JK:=JK (s:=w.name);have Jz:=Jz (l:=x.aK.take k) (g:=229) (fs:=[]) (cs:=[.pt (jX w)]) (p:=λv=>v.name.toList==w.name.toList) (.fn oS (.cons (.pt (LC w)) .nil)) (λv _=>awF);unfold nX at Jz;rw[<- anZ HU hk] at Jz;refine ag ?_;refine cl JK ?_;refine bh ?_;refine gc nk ?_;refine cz ?_;refine cF rfl rfl (CU rfl V.h V.h rfl rfl rfl) (λhc=>⟨ak,⟨V.h,oG,oG,oG⟩⟩) (cF rfl rfl (R8 rfl rfl) (λhc=>⟨ak,aa⟩) (gc Jz ?_));refine SS ?_;have hb:((isName w.name&&(cS f w.to&& !(x.aK.take k).any λv=>v.name.toList==w.name.toList)))=qG f x.aK k w:=rfl;refine af (aB rfl (λhp=>?_) λhp=>?_)
   .refine ws (SS ?_);refine af (bj (bP (aY (aC (d:=.s (.bool _)) rfl ?_))))
    have C:qG f x.aK k w=false:=by
     rw[<- hb];simp only[cS];revert hp;generalize isName w.name=a;generalize eg w.to 0 (f.blocks.length - 1)=b;generalize (any _ _)=c;cases a<;>cases b<;>cases c<;>simp
    simp[mu,PI hx C]
   .apply cB
    have C:qG f x.aK k w=true:=by
     rw[<- hb];simp only[cS];revert hp;generalize isName w.name=a;generalize eg w.to 0 (f.blocks.length - 1)=b;generalize (any _ _)=c;cases a<;>cases b<;>cases c<;>simp
    refine ag ?_;refine af (aW (k+1) (au eH) ⟨oG,λj y hj hy=>?_⟩ oG);by_cases e:j=k
    .subst e;rw[hx] at hy;cases hy;exact C
    .exact hinv j y oG hy
  .have bt:¬ k<x.aK.length:=s0 h
   exact⟨2+k,.forget _ _ _ _ λt=>vu (l:=[(2,.pt (bG p q f)),(3,.pt (bq x))]) ⟨rfl,rfl,aa⟩ t,λj y hy=>hinv j y (by have:=(bQ.1 hy).1;omega) hy⟩
 .rintro s ⟨n,hg,U⟩;refine⟨_,hg,al ?_⟩;refine aX ?_;refine ax ?_;refine gc nk ?_;refine ax ?_;refine af (aC (d:=.s (.bool _)) rfl ?_);have M:=Xh U;simp[mu,cS,M,ib]
end
abbrev P0:D:=.im (qF nI)
abbrev Q0:D:=.im (qF ko)
def awG:aH prog 162 [] (.bu [P0,Q0]):=by
 refine bx (fo f162) Tr.nil (.bu (.cons (Gn _) (.cons (Gn _) .nil))) ?_;refine ws (aI (fR (v:=.s (.map none)) rfl) ak aa (aI (fR (v:=.s (.map none)) rfl) ak aa (er (aX ?_))));refine aX ?_;refine aX ?_;refine cz ?_;refine er (aX ?_);refine aX ?_;refine ax ?_;refine af (aA (aQ ?_));refine af (br (amk [(0,qF nI),(1,qF ko)] eH (l:=[(0,P0),(1,Q0)]) eH) ?_);exact fB rfl rfl rfl
abbrev xd(f:az):D:=.agg (bG P0 Q0 f)
def UH{f:az}:aH prog 123 [.agg (aL f)] (xd f):=by
 have C:∀ a∈[D.agg (aL f)],Tr a:=.cons (.agg (gS f)) .nil;refine bx (fo f123) C (oa (Gn _) (Gn _) f) ?_;refine ws (ag ?_);refine er (cl awG ?_);refine SS ?_;refine aI (wE (v:=.im _) rfl rfl) ak (by first|decide|simp) (aI (wE (v:=.im _) rfl rfl) ak (by first|decide|simp) (aI (fR (v:=.im _) rfl) ak aa (aI (fR (v:=.im _) rfl) ak aa (er (aQ ?_)))));refine dH (jV (cs':=bG _ _ _) rfl rfl rfl rfl) ak (eO V.h V.h bk (by rfl)) (af (nG (kz rfl rfl aew aex rfl t113 oS) ?_));rfl
def pU:Tr P0:=Gn _
def pV:Tr Q0:=Gn _
section
variable{p q:D}{f:az}(hp:Tr p)(hq:Tr q)(iE:p.one=true)(cK:q.one=true)
include hp hq iE cK
def awH{r kd:Int}:aH prog 177 [I r,.pt (bG p q f),.pt [U8 kd]] (B !(bm (dc f.aj r) kd)):=by
 have C:∀ a∈[I r,.pt (bG p q f),.pt [U8 kd]],Tr a:=.cons (.s _) (.cons (.pt (Ib hp hq f)) (.cons (.pt fp) .nil));have iA:=iA (f:=f) (r:=r) hp hq iE cK;refine bx (fo f177) C (Tr.s _) ?_;refine ws (SS ?_);refine af (c6 (hD [(2,3)]) ?_);refine cz ?_;refine bJ bM (aC (d:=.s (.bool _)) rfl ?_);rfl
end
def N5{f:az}{b ahead:Int}{x:cq}{phis:Bool}:aH prog 131 [xd f,I b,.agg (bU x),B phis,I ahead] (B (kG f b x phis ahead)):=by
 have U:∀ a∈[xd f,I b,.agg (bU x),B phis,I ahead],Tr a:=.cons (oa pU pV f) (.cons (.s _) (.cons (.agg (tP x)) (.cons (.s _) fp)));have iA:= @iA P0 Q0 f pU pV rfl rfl;have N7:= @N7 P0 Q0 f pU pV rfl rfl;have lm:= @lm P0 Q0 f pU pV rfl rfl;have GR:= @GR P0 Q0 f pU pV rfl rfl;refine bx (fo f131) U (Tr.s _) ?_;refine aA (ax ?_);refine af (br (cH [(0,bG P0 Q0 f,113),(1,bU x,54)] eH (l:=[(1,I b),(3,B phis),(4,I ahead),(5,.pt (bG P0 Q0 f)),(7,.pt (bU x))]) eH) (aG (al ?_)));refine ag ?_;refine af (rj (al (ag ?_)));refine af (aB rfl (λh0=>?_) λh0=>?_)
 .have h0:x.op=16:=by simpa using h0
  refine ws (ek ?_);refine gc iA ?_;refine aX ?_;refine cJ ?_;refine ag ?_;refine af (bj (cA (aY (aC (d:=.s (.bool _)) rfl ?_))));simp[kG,h0,bm,lW,ib,Bool.and_assoc]
 have h0:¬ x.op=16:=by simpa using h0
 refine ws (ag ?_);refine af (aB rfl (λh1=>?_) λh1=>?_)
 .have h1:x.op=17:=by simpa using h1
  refine ws (aX ?_);refine aX ?_;refine ag ?_;refine gc N7 ?_;refine ag ?_;refine af (bj (cA (aY (aC (d:=.s (.bool _)) rfl ?_))));simp[kG,h1,bm,lW,ib,Bool.and_assoc]
 have h1:¬ x.op=17:=by simpa using h1
 refine ws (ag ?_);refine af (aB rfl (λh2=>?_) λh2=>?_)
 .have h2:x.op=18:=by simpa using h2
  refine ws (aX ?_);refine aX ?_;refine ag ?_;refine gc N7 ?_;refine ag ?_;refine af (bj (cA (aY (aC (d:=.s (.bool _)) rfl ?_))));simp[kG,h2,bm,lW,ib,Bool.and_assoc]
 have h2:¬ x.op=18:=by simpa using h2
 refine ws (ag ?_);refine af (aB rfl (λC=>?_) λC=>?_)
 .have C:x.op=19:=by simpa using C
  refine aA (ax ?_);refine cl iA ?_;refine ag ?_;refine af (br (cH [(2,[U8 (dc f.aj x.to)],5)] eH (l:=[(1,I b),(3,B phis),(4,I ahead),(5,.pt (bG P0 Q0 f)),(7,.pt (bU x)),(11,.pt [U8 (dc f.aj x.to)])]) eH) (al ?_));have Hl:=Hl (l:=x.args) (g:=177) (fs:=[]) (cs:=[.pt (bG P0 Q0 f),.pt [U8 (dc f.aj x.to)]]) (p:=λr=> !(bm (dc f.aj r) (dc f.aj x.to))) (.fn oS (.cons (.pt (Ib pU pV f)) (.cons (.pt fp) .nil))) (λr _=>awH pU pV rfl rfl);refine ax ?_;refine cl Hl ?_;refine SS ?_;apply er;by_cases hb:phis=true/\0<b
  .obtain⟨rfl,hb⟩:=hb;have rP:decide (0<b)=true:=by simpa using hb
   have lm:=lm (l:=[x.to]);have J:∀ {m:Mem},m 3=some (.cells [I x.to] 3)->nP prog [3] m [xd f,.rs 3 0 1] [xd f,aU [x.to]]:=λhm=>⟨dR (oa pU pV f),I3 hm oS (by rw[c3];rfl) fp,aa⟩
   refine cJ ?_;refine ag ?_;refine MX lm rfl rfl rfl rfl (J rfl) ak (aX ?_);refine aX ?_;refine cJ ?_;refine ag ?_;refine af (bj (cA (aY (aC (d:=.s (.bool _)) rfl ?_))));simp[kG,C,hb,bm,lW,ib,Bool.and_assoc,jC]
  .have hf:kG f b x phis ahead=false:=by
    cases phis with
    |false=>simp[kG,C]
    |true=>simp[kG,C,show ¬ 0<b by simpa using hb]
   have hf:D.s (.bool false)=B (kG f b x phis ahead):=by rw[hf]
   cases phis with
   |false=>
    refine ag ?_;(iterate 2 refine z λ_ _=>?_);refine ag ?_;(iterate 5 refine z λ_ _=>?_);refine ag ?_;(iterate 3 refine z λ_ _=>?_);refine ag ?_;(iterate 3 refine z λ_ _=>?_);refine ag ?_;(iterate 3 refine z λ_ _=>?_);refine ag ?_;(iterate 5 refine z λ_ _=>?_);refine ag ?_;(iterate 2 refine z λ_ _=>?_);refine ag ?_;exact af (bj (cA (aY (aC (d:=.s (.bool _)) rfl hf))))
   |true=>
    have rP:decide (0<b)=false:=by simpa using hb
    refine cz ?_;(iterate 5 refine z λ_ _=>?_);refine ag ?_;(iterate 3 refine z λ_ _=>?_);refine ag ?_;(iterate 3 refine z λ_ _=>?_);refine ag ?_;(iterate 3 refine z λ_ _=>?_);refine ag ?_;(iterate 5 refine z λ_ _=>?_);refine ag ?_;(iterate 2 refine z λ_ _=>?_);refine ag ?_;exact af (bj (cA (aY (aC (d:=.s (.bool _)) rfl hf))))
 have C:¬ x.op=19:=by simpa using C
 refine qw (al ?_);have X:lg prog 111 true (fF (.int .u8 x.op) (qF nI))=.bu [.agg (mU ((gl nI x.op).getD CZ)),.s (.bool (gl nI x.op).isSome)]:=ab4 rfl _ _ (by rw[Tz];rw[rF,UK,UL];rfl);have M:=aaQ (P:=prog) (kt:=5) u5 nI;refine aQ ?_;refine aI (HR rfl rfl V.h X) ak ⟨V.h,by kernel_rfl,M⟩ (SS ?_);refine aI (wE (v:=.agg (mU _)) rfl rfl) ak (by first|decide|simp) (ag ?_);refine dH (jV (cs':=mU _) rfl rfl rfl rfl) ak (eO V.h V.h bk (by rfl)) (SS ?_);refine er (aQ ?_);refine cF rfl rfl (gA (vs:=mU _) rfl rfl V.h V.h rfl) (λhc=>⟨ak,(gB V.h V.h c0)⟩) (gc GR ?_);refine ag ?_;refine af (aC (d:=.s (.bool _)) rfl ?_);simp[kG,h0,h1,h2,C]
def adp(f:az)(x:Abs.End)(s:St):Prop:=∃ cells n,aP prog s ⟨aD [(2,.pt (bG P0 Q0 f)),(3,.pt (bq x)),(5,.rp 2 0),(6,B (fL f x).1)],up (λ_=>none) 2 (some (.cells cells 57)),n⟩/\cells.length=15/\∀ m,nP prog [2] m cells (bq (fL f x).2)
def vR{l:List Int}{r:Int}:jC l [r]=fU l r:=by simp[jC]
def qQ{f:az}{x r:Abs.End}{env:Env}{m:Mem}{nx:Nat}{cells:List D}{ok:Bool}(hr:fL f x=(ok,r))(he:pG [(2,.pt (bG P0 Q0 f)),(3,.pt (bq x)),(5,.rp 2 0),(6,B ok)] env)(hm:m 2=some (.cells cells 57))(hl:cells.length=15)
 (hs:∀ m,nP prog [2] m cells (bq r)):adp f x ⟨env,m,nx⟩:=by
 refine⟨cells,nx,?_,hl,?_⟩
 .rw[hr];exact ZF he (als hm)
 .rw[hr];exact hs
def N2{f:az}{x:Abs.End}:aH prog 129 [xd f,.agg (bq x)] (B (gD f x)):=by
 have bE:∀ a∈[xd f,.agg (bq x)],Tr a:=.cons (oa pU pV f) (.cons (.agg (oU x)) .nil);have nk:= @nk P0 Q0 f pU pV rfl rfl;have iA:= @iA P0 Q0 f pU pV rfl rfl;have lm:= @lm P0 Q0 f pU pV rfl rfl;have GR:= @GR P0 Q0 f pU pV rfl rfl;have zo:= @zo P0 Q0 f pU pV rfl rfl;refine bx (fo f129) bE (Tr.s _) ?_;refine aA (ax ?_);refine af (br (cH [(0,bG P0 Q0 f,113),(1,bq x,57)] eH (l:=[(2,.pt (bG P0 Q0 f)),(3,.pt (bq x))]) eH) (al ?_));refine ag ?_;refine dH (jV (cs':=bq _) rfl rfl rfl rfl) ak (eO V.h V.h bk (by rfl)) (SS ?_);refine er (ag ?_);refine af (fS (adp f x) (al ?_) λs hs=>?_)
 .refine ag ?_;refine af (tN (al (ag ?_)));refine af (aB rfl (λh=>?_) λh=>?_)
  .have h:x.kind=1:=by simpa using h
   refine sy (ax ?_);refine cl nk ?_;refine ax ?_;exact af (qQ (r:={ x with kind:=0,to:=0 }) (by simp[fL,h,bm,ib,Bool.and_assoc,cS]) ⟨rfl,rfl,rfl,rfl,aa⟩ rfl rfl (λm=>by repeat' (first|exact trivial|exact dR (Tr.s _)|exact dR (dP _)|exact dR (mr _)|exact qR|refine And.intro ?_ ?_)))
  have h1:¬ x.kind=1:=by simpa using h
  clear h;refine ws (ag ?_);refine af (aB rfl (λh=>?_) λh=>?_)
  .have h:x.kind=2:=by simpa using h
   refine sy (ax ?_);refine cl iA ?_;refine bh ?_;refine gc nk ?_;refine bh ?_;refine gc nk ?_;refine cJ ?_;exact af (qQ (r:={ x with kind:=0,a:=0,to:=0,ei:=0 }) (by simp[fL,h,bm,ib,Bool.and_assoc,cS]) ⟨rfl,rfl,rfl,rfl,aa⟩ rfl rfl (λm=>by repeat' (first|exact trivial|exact dR (Tr.s _)|exact dR (dP _)|exact dR (mr _)|exact qR|refine And.intro ?_ ?_)))
  have h2:¬ x.kind=2:=by simpa using h
  clear h;refine ws (ag ?_);refine af (aB rfl (λh=>?_) λh=>?_)
  .have h:x.kind=3:=by simpa using h
   refine ws (cz ?_);refine er (cJ ?_);refine ag ?_;refine af (aB rfl (λhr=>?_) λhr=>?_)
   .have hr:f.result≠0/\f.iter=false:=by simpa[bne,ib] using hr
    refine Zk (hD [(3,4),(3,5),(3,6)]) (ax ?_);refine cl iA ?_;refine bh ?_;exact bJ bM (qQ (r:={ x with kind:=0,a:=0 }) (by simp[fL,h,bm,ib,Bool.and_assoc,hr.1,hr.2]) ⟨rfl,rfl,rfl,rfl,aa⟩ rfl rfl (λm=>by repeat' (first|exact trivial|exact dR (Tr.s _)|exact dR (dP _)|exact dR (mr _)|exact qR|refine And.intro ?_ ?_)))
   .have hr:¬ (f.result≠0/\f.iter=false):=by simpa[bne,ib] using hr
    exact QP (qQ (r:={ x with kind:=0,a:=0 }) (by simp only[fL,h];simp only[ai hr];simp[bm,ib]) ⟨rfl,rfl,rfl,rfl,aa⟩ rfl rfl (λm=>by repeat' (first|exact trivial|exact dR (Tr.s _)|exact dR (dP _)|exact dR (mr _)|exact qR|refine And.intro ?_ ?_)))
  have h3:¬ x.kind=3:=by simpa using h
  clear h;refine ws (ag ?_);refine af (aB rfl (λh=>?_) λh=>?_)
  .have h:x.kind=4:=by simpa using h
   refine sy (ag ?_);refine cl JK ?_;refine ax ?_;exact af (qQ (r:={ x with kind:=0,name:=.empty }) (by simp[fL,h,bm,ib,Bool.and_assoc]) ⟨rfl,rfl,rfl,rfl,aa⟩ rfl rfl (λm=>by repeat' (first|exact trivial|exact dR (Tr.s _)|exact dR (dP _)|exact dR (mr _)|exact qR|refine And.intro ?_ ?_)))
  have h4:¬ x.kind=4:=by simpa using h
  clear h;refine ws (ag ?_);refine af (aB rfl (λh=>?_) λh=>?_)
  .have h:x.kind=5:=by simpa using h
   apply ws;have kg:lg prog 111 true (fF (.int .u8 x.ins.op) (qF ko))=.bu [.agg (mU ((gl ko x.ins.op).getD CZ)),.s (.bool (gl ko x.ins.op).isSome)]:=ab4 rfl _ _ (by rw[Tz];rw[rF,UK,UL];rfl);have Wj:=aaQ (P:=prog) (kt:=5) u5 ko;refine bh ?_;refine aI (HR rfl rfl V.h kg) ak ⟨V.h,by kernel_rfl,Wj⟩ (SS ?_);refine aI (wE (v:=.agg (mU _)) rfl rfl) ak (by first|decide|simp) (ag ?_);refine dH (jV (cs':=mU _) rfl rfl rfl rfl) ak (eO V.h V.h bk (by rfl)) (SS ?_);refine er (bh ?_);refine cF rfl rfl (gA (vs:=mU _) rfl rfl V.h V.h rfl) (λhc=>⟨ak,(gB V.h V.h c0)⟩) (gc GR ?_);refine bh ?_;refine gc nk ?_;refine aQ ?_;refine gc zo ?_;refine ag ?_;refine af (sy (aX ?_));exact af (qQ (r:={ x with kind:=0,ins:=eR,to:=0,aK:=[],others:= -1 }) (by simp[fL,h,bm,ib,Bool.and_assoc,cS]) ⟨rfl,rfl,rfl,rfl,aa⟩ rfl rfl (λm=>by repeat' (first|exact trivial|exact dR (Tr.s _)|exact dR (dP _)|exact dR (mr _)|exact qR|refine And.intro ?_ ?_)))
  have h5:¬ x.kind=5:=by simpa using h
  clear h;refine ws (ag ?_);refine af (aB rfl (λh=>?_) λh=>?_)
  .have h:x.kind=6:=by simpa using h
   apply ws;have xD:=xD (s:=x.name);have atc:=lm (l:=[x.a]);have lm:=lm (l:=x.args);have X:∀ {m:Mem},m 3=some (.cells [I x.a] 3)->nP prog [3] m [xd f,.rs 3 0 1] [xd f,aU [x.a]]:=λhm=>⟨dR (oa pU pV f),I3 hm oS (by rw[c3];rfl) fp,aa⟩
   cases C:kZ x.name with
   |false=>
    rw[C] at xD;refine ag ?_;refine cl xD ?_;refine cJ ?_;refine ag ?_;refine gc lm ?_;refine aX ?_;(iterate 3 refine z λ_ _=>?_);refine bh ?_;refine gc nk ?_;refine aQ ?_;refine gc zo ?_;refine ag ?_;refine af (sy (aX ?_));refine ax ?_;exact af (qQ (r:={ x with kind:=0,name:=.empty,args:=[],a:=0,to:=0,aK:=[],others:= -1 }) (by simp[fL,h,bm,ib,Bool.and_assoc,cS,C]) ⟨rfl,rfl,rfl,rfl,aa⟩ rfl rfl (λm=>by repeat' (first|exact trivial|exact dR (Tr.s _)|exact dR (dP _)|exact dR (mr _)|exact qR|refine And.intro ?_ ?_)))
   |true=>
    rw[C] at xD;by_cases J:(x.args.length:Int)<=6
    rotate_left
    .have adU:decide ((x.args.length:Int)<=6)=false:=by simpa using J
     refine ag ?_;refine cl xD ?_;refine cJ ?_;refine ag ?_;refine gc lm ?_;refine aX ?_;(iterate 3 refine z λ_ _=>?_);refine bh ?_;refine gc nk ?_;refine aQ ?_;refine gc zo ?_;refine ag ?_;refine af (sy (aX ?_));refine ax ?_;exact af (qQ (r:={ x with kind:=0,name:=.empty,args:=[],a:=0,to:=0,aK:=[],others:= -1 }) (by simp[fL,h,bm,ib,Bool.and_assoc,cS,C,J]) ⟨rfl,rfl,rfl,rfl,aa⟩ rfl rfl (λm=>by repeat' (first|exact trivial|exact dR (Tr.s _)|exact dR (dP _)|exact dR (mr _)|exact qR|refine And.intro ?_ ?_)))
    have adU:decide ((x.args.length:Int)<=6)=true:=by simpa using J
    cases M:jC f.aj x.args with
    |false=>
     rw[M] at lm;refine ag ?_;refine cl xD ?_;refine cJ ?_;refine ag ?_;refine gc lm ?_;refine aX ?_;(iterate 3 refine z λ_ _=>?_);refine bh ?_;refine gc nk ?_;refine aQ ?_;refine gc zo ?_;refine ag ?_;refine af (sy (aX ?_));refine ax ?_;exact af (qQ (r:={ x with kind:=0,name:=.empty,args:=[],a:=0,to:=0,aK:=[],others:= -1 }) (by simp[fL,h,bm,ib,Bool.and_assoc,cS,C,J,M]) ⟨rfl,rfl,rfl,rfl,aa⟩ rfl rfl (λm=>by repeat' (first|exact trivial|exact dR (Tr.s _)|exact dR (dP _)|exact dR (mr _)|exact qR|refine And.intro ?_ ?_)))
    |true=>
     rw[M] at lm;by_cases U:x.a= -1
     .have iy:(x.a== -1)=true:=s0 U
      refine ag ?_;refine cl xD ?_;refine cJ ?_;refine ag ?_;refine gc lm ?_;refine aX ?_;(iterate 2 refine z λ_ _=>?_);refine cz ?_;refine gc nk ?_;refine aQ ?_;refine gc zo ?_;refine ag ?_;refine af (sy (aX ?_));refine ax ?_;exact af (qQ (r:={ x with kind:=0,name:=.empty,args:=[],a:=0,to:=0,aK:=[],others:= -1 }) (by simp[fL,h,bm,ib,Bool.and_assoc,cS,C,J,M,U]) ⟨rfl,rfl,rfl,rfl,aa⟩ rfl rfl (λm=>by repeat' (first|exact trivial|exact dR (Tr.s _)|exact dR (dP _)|exact dR (mr _)|exact qR|refine And.intro ?_ ?_)))
     .have iy:(x.a== -1)=false:=s0 U
      refine ag ?_;refine cl xD ?_;refine cJ ?_;refine ag ?_;refine gc lm ?_;refine cJ ?_;refine ag ?_;refine MX atc rfl rfl rfl rfl (X rfl) ak (cz ?_);refine gc nk ?_;refine aQ ?_;refine gc zo ?_;refine ag ?_;refine af (sy (aX ?_));refine ax ?_;exact af (qQ (r:={ x with kind:=0,name:=.empty,args:=[],a:=0,to:=0,aK:=[],others:= -1 }) (by simp[fL,h,bm,ib,Bool.and_assoc,cS,C,J,M,U,vR]) ⟨rfl,rfl,rfl,rfl,aa⟩ rfl rfl (λm=>by repeat' (first|exact trivial|exact dR (Tr.s _)|exact dR (dP _)|exact dR (mr _)|exact qR|refine And.intro ?_ ?_)))
  have h6:¬ x.kind=6:=by simpa using h
  clear h;refine ws (ag ?_);refine af (aB rfl (λh=>?_) λh=>?_)
  .have h:x.kind=7:=by simpa using h
   refine ws (ag ?_);refine cl xD ?_;refine cJ ?_;refine ag ?_;refine gc lm ?_;refine bh ?_;refine gc iA ?_;refine cz ?_;refine gc nk ?_;refine ag ?_;refine af (sy (cJ ?_));exact af (qQ (r:={ x with kind:=0,name:=.empty,args:=[],a:=0,to:=0 }) (by simp[fL,h,bm,ib,Bool.and_assoc,cS]) ⟨rfl,rfl,rfl,rfl,aa⟩ rfl rfl (λm=>by repeat' (first|exact trivial|exact dR (Tr.s _)|exact dR (dP _)|exact dR (mr _)|exact qR|refine And.intro ?_ ?_)))
  have h7:¬ x.kind=7:=by simpa using h
  clear h;refine ws (ag ?_);refine af (aB rfl (λh=>?_) λh=>?_)
  .have h:x.kind=8:=by simpa using h
   apply ws;have lm:=lm (l:=[x.b]);have Ty:∀ {m:Mem},m 3=some (.cells [I x.b] 3)->nP prog [3] m [xd f,.rs 3 0 1] [xd f,aU [x.b]]:=λhm=>⟨dR (oa pU pV f),I3 hm oS (by rw[c3];rfl) fp,aa⟩
   by_cases C:dc f.aj x.a=3
   .have iy:(dc f.aj x.a==3)=true:=by simpa using C
    refine ax ?_;refine cl iA ?_;refine cz ?_;refine MX lm rfl rfl rfl rfl (Ty rfl) ak (bh ?_);refine gc nk ?_;refine bh ?_;refine gc nk ?_;refine aQ ?_;refine gc zo ?_;refine ag ?_;refine af (sy (aX ?_));refine ax ?_;exact af (qQ (r:={ x with kind:=0,a:=0,b:=0,to:=0,ei:=0,aK:=[],others:= -1 }) (by simp[fL,h,bm,ib,Bool.and_assoc,cS,C,vR]) ⟨rfl,rfl,rfl,rfl,aa⟩ rfl rfl (λm=>by repeat' (first|exact trivial|exact dR (Tr.s _)|exact dR (dP _)|exact dR (mr _)|exact qR|refine And.intro ?_ ?_)))
   .have iy:(dc f.aj x.a==3)=false:=by simpa using C
    refine ax ?_;refine cl iA ?_;refine bh ?_;(iterate 2 refine z λ_ _=>?_);refine bh ?_;refine gc nk ?_;refine bh ?_;refine gc nk ?_;refine aQ ?_;refine gc zo ?_;refine ag ?_;refine af (sy (aX ?_));refine ax ?_;exact af (qQ (r:={ x with kind:=0,a:=0,b:=0,to:=0,ei:=0,aK:=[],others:= -1 }) (by simp[fL,h,bm,ib,Bool.and_assoc,cS,C]) ⟨rfl,rfl,rfl,rfl,aa⟩ rfl rfl (λm=>by repeat' (first|exact trivial|exact dR (Tr.s _)|exact dR (dP _)|exact dR (mr _)|exact qR|refine And.intro ?_ ?_)))
  have h8:¬ x.kind=8:=by simpa using h
  clear h;refine ws (ag ?_);refine af (aB rfl (λh=>?_) λh=>?_)
  .have h:x.kind=9:=by simpa using h
   refine Zk (hD [(7,8),(7,9),(7,10)]) (ek ?_);refine gc iA ?_;refine aX ?_;refine gc nk ?_;refine cz ?_;exact bJ bM (qQ (r:={ x with kind:=0,a:=0,to:=0 }) (by simp[fL,h,bm,ib,Bool.and_assoc,cS]) ⟨rfl,rfl,rfl,rfl,aa⟩ rfl rfl (λm=>by repeat' (first|exact trivial|exact dR (Tr.s _)|exact dR (dP _)|exact dR (mr _)|exact qR|refine And.intro ?_ ?_)))
  .have h9:¬ x.kind=9:=by simpa using h
   exact QP (qQ (r:={ x with kind:=0 }) (by simp[fL,h1,h2,h3,h4,h5,h6,h7,h8,h9]) ⟨rfl,rfl,rfl,rfl,aa⟩ rfl rfl (λm=>by repeat' (first|exact trivial|exact dR (Tr.s _)|exact dR (dP _)|exact dR (mr _)|exact qR|refine And.intro ?_ ?_)))
 .let⟨cells,n,hg,hl,hs⟩:=hs;refine⟨_,hg,al ?_⟩;have eM:(cells.drop 0).take 15=cells:=by rw[drop_zero,cX oG]
  have UJ:=UJ (x:=(fL f x).2);have atd:∀ {m:Mem},m 2=m 2->nP prog [2] m [.agg ((cells.drop 0).take 15)] [.agg (bq (fL f x).2)]:=λ{m} _=>⟨apb (by rw[eM];exact hs m),aa⟩
  have he:gD f x=((fL f x).1&&xc (fL f x).2):=rfl;generalize (fL f x).1=ok at he;cases ok with
  |true=>
   refine ax ?_;refine MX UJ rfl rfl rfl rfl (atd rfl) ak (ag ?_);refine af (aC (d:=.s (.bool _)) rfl ?_);rw[he];simp
  |false=>
   refine ag ?_;(iterate 2 refine z λ_ _=>?_);refine ag ?_;refine af (aC (d:=.s (.bool _)) rfl ?_);rw[he];simp
def Az{n:Int}(hn: -1000000<=n/\n<=1000000):aH prog 182 [I n] (I (nW n)):=by
 refine bx (fo f182) (by simp[Tr.s]) (Tr.s _) ?_;refine ws (SS ?_);refine er (ax ?_);exact af (aC rfl rfl)
def GA{x:cq}:aH prog 235 [.agg (bU x)] (I (eP x)):=by
 have bE:∀ a∈[D.agg (bU x)],Tr a:=.cons (.agg (tP x)) .nil;refine bx (fo f235) bE (Tr.s _) ?_;refine aA (ag ?_);refine af (br (cH [(0,bU x,54)] eH (l:=[(1,.pt (bU x))]) eH) (aG (al ?_)));refine ag ?_;refine af (rj (fS (λs=>aP prog s ⟨aD [(1,.pt (bU x)),(4,U8 x.op),(5,B (bf qu x.op))],λ_=>none,1⟩) (al ?_) λs hg=>⟨_,hg,?_⟩))
 .refine ag ?_;refine af (aB rfl (λh=>bV ?_) λe1=>al ?_)
  .have h:x.op=1:=s0 h
   refine au ⟨rfl,rfl,?_,aa⟩;show D.s (.bool (x.op==1))=_;rw[h];rfl
  refine ag ?_;refine af (aB rfl (λh=>bV ?_) λe2=>al ?_)
  .have h:x.op=2:=s0 h
   refine au ⟨rfl,rfl,?_,aa⟩;show D.s (.bool (x.op==2))=_;rw[h];rfl
  refine ag ?_;refine af (aB rfl (λh=>bV ?_) λe3=>al ?_)
  .have h:x.op=3:=s0 h
   refine au ⟨rfl,rfl,?_,aa⟩;show D.s (.bool (x.op==3))=_;rw[h];rfl
  refine ag ?_;refine af (aB rfl (λh=>bV ?_) λe4=>al ?_)
  .have h:x.op=4:=s0 h
   refine au ⟨rfl,rfl,?_,aa⟩;show D.s (.bool (x.op==4))=_;rw[h];rfl
  refine ag ?_;refine af (aB rfl (λh=>bV ?_) λe5=>al ?_)
  .have h:x.op=5:=s0 h
   refine au ⟨rfl,rfl,?_,aa⟩;show D.s (.bool (x.op==5))=_;rw[h];rfl
  refine ag ?_;refine af (aB rfl (λh=>bV ?_) λe6=>al ?_)
  .have h:x.op=6:=s0 h
   refine au ⟨rfl,rfl,?_,aa⟩;show D.s (.bool (x.op==6))=_;rw[h];rfl
  refine ag ?_;refine af (aB rfl (λh=>bV ?_) λe7=>al ?_)
  .have h:x.op=7:=s0 h
   refine au ⟨rfl,rfl,?_,aa⟩;show D.s (.bool (x.op==7))=_;rw[h];rfl
  refine ag ?_;refine af (aB rfl (λh=>bV ?_) λe8=>al ?_)
  .have h:x.op=8:=s0 h
   refine au ⟨rfl,rfl,?_,aa⟩;show D.s (.bool (x.op==8))=_;rw[h];rfl
  refine ag ?_;refine af (aB rfl (λh=>bV ?_) λe9=>al ?_)
  .have h:x.op=9:=s0 h
   refine au ⟨rfl,rfl,?_,aa⟩;show D.s (.bool (x.op==9))=_;rw[h];rfl
  refine ag ?_;refine af (aB rfl (λh=>bV ?_) λPr=>al ?_)
  .have h:x.op=10:=s0 h
   refine au ⟨rfl,rfl,?_,aa⟩;show D.s (.bool (x.op==10))=_;rw[h];rfl
  refine ag ?_;refine af (aB rfl (λh=>bV ?_) λEL=>al ?_)
  .have h:x.op=11:=s0 h
   refine au ⟨rfl,rfl,?_,aa⟩;show D.s (.bool (x.op==11))=_;rw[h];rfl
  refine ag ?_;refine af (aB rfl (λh=>bV ?_) λC=>al ?_)
  .have h:x.op=13:=s0 h
   refine au ⟨rfl,rfl,?_,aa⟩;show D.s (.bool (x.op==13))=_;rw[h];rfl
  refine ag ?_;refine af (aB rfl (λh=>bV ?_) λEM=>al ?_)
  .have h:x.op=14:=s0 h
   refine au ⟨rfl,rfl,?_,aa⟩;show D.s (.bool (x.op==14))=_;rw[h];rfl
  refine ag ?_;refine af (aB rfl (λh=>bV ?_) λKD=>nH ?_)
  .have h:x.op=17:=s0 h
   refine au ⟨rfl,rfl,?_,aa⟩;show D.s (.bool (x.op==17))=_;rw[h];rfl
  refine ag ?_;refine af (au ⟨rfl,rfl,?_,aa⟩);show D.s (.bool (x.op==19))=_;simp[bf,qu,e1,e2,e3,e4,e5,e6,e7,e8,e9,Pr,EL,C,EM,KD]
 refine aB rfl (λh1=>?_) λh1=>?_
 .refine ws (ax ?_);refine af (bj (cA (aY (aC (d:=I x.to) rfl ?_))));simp[eP,h1]
 refine fS (λs=>aP prog s ⟨aD [(1,.pt (bU x)),(4,U8 x.op),(23,B (bf sw x.op))],λ_=>none,1⟩) (al ?_) λs hg=>⟨_,hg,?_⟩
 .refine ag ?_;refine af (aB rfl (λh=>bV ?_) λJ=>al ?_)
  .have h:x.op=30:=s0 h
   refine au ⟨rfl,rfl,?_,aa⟩;show D.s (.bool (x.op==30))=_;rw[h];rfl
  refine ag ?_;refine af (aB rfl (λh=>bV ?_) λM=>al ?_)
  .have h:x.op=31:=s0 h
   refine au ⟨rfl,rfl,?_,aa⟩;show D.s (.bool (x.op==31))=_;rw[h];rfl
  refine ag ?_;refine af (aB rfl (λh=>bV ?_) λU=>al ?_)
  .have h:x.op=32:=s0 h
   refine au ⟨rfl,rfl,?_,aa⟩;show D.s (.bool (x.op==32))=_;rw[h];rfl
  refine ag ?_;refine af (aB rfl (λh=>bV ?_) λX=>al ?_)
  .have h:x.op=33:=s0 h
   refine au ⟨rfl,rfl,?_,aa⟩;show D.s (.bool (x.op==33))=_;rw[h];rfl
  refine ag ?_;refine af (aB rfl (λh=>bV ?_) λuP=>al ?_)
  .have h:x.op=34:=s0 h
   refine au ⟨rfl,rfl,?_,aa⟩;show D.s (.bool (x.op==34))=_;rw[h];rfl
  refine ag ?_;refine af (aB rfl (λh=>bV ?_) λWn=>nH ?_)
  .have h:x.op=36:=s0 h
   refine au ⟨rfl,rfl,?_,aa⟩;show D.s (.bool (x.op==36))=_;rw[h];rfl
  refine ag ?_;refine af (au ⟨rfl,rfl,?_,aa⟩);show D.s (.bool (x.op==37))=_;simp[bf,sw,J,M,U,X,uP,Wn]
 refine aB rfl (λh2=>?_) λh2=>?_
 .refine ws (ax ?_);refine af (bj (cA (aY (aC (d:=I x.to) rfl ?_))));simp[eP,h2]
 refine qw (al (SS ?_));refine af (aC (d:=I (-1)) rfl ?_);simp[eP,h1,h2]
def UC{x:Abs.End}:aH prog 186 [.agg (bq x)] (I (fY x)):=by
 have J:∀ a∈[D.agg (bq x)],Tr a:=.cons (.agg (oU x)) .nil;have GA:=GA (x:=x.ins);refine bx (fo f186) J (Tr.s _) ?_;refine aA (ag ?_);refine af (br (cH [(0,bq x,57)] eH (l:=[(1,.pt (bq x))]) eH) (aG (al ?_)));refine ag ?_;refine af (rj (al (ag ?_)));refine af (aB rfl (λh1=>?_) λh1=>?_)
 .have h1:x.kind=5:=s0 h1
  refine ws (aQ ?_);refine af (bj (cA (aY (aC (d:=I (eP x.ins)) rfl ?_))));simp[fY,h1]
 have h1:¬ x.kind=5:=s0 h1
 refine fS (λs=>aP prog s ⟨aD [(1,.pt (bq x)),(4,U8 x.kind),(10,B (bf [6,7] x.kind))],λ_=>none,1⟩) (al ?_) λs hg=>⟨_,hg,?_⟩
 .refine ag ?_;refine af (aB rfl (λh=>bV ?_) λe6=>nH ?_)
  .have h:x.kind=6:=s0 h
   refine au ⟨rfl,rfl,?_,aa⟩;show D.s (.bool (x.kind==6))=_;rw[h];rfl
  refine ag ?_;refine af (au ⟨rfl,rfl,?_,aa⟩);show D.s (.bool (x.kind==7))=_;simp[bf,e6]
 refine aB rfl (λh2=>?_) λh2=>?_
 .refine ws (ax ?_);refine af (bj (cA (aY (aC (d:=I x.a) rfl ?_))));simp[fY,h1,h2]
 refine ws (ag ?_);refine af (aB rfl (λC=>?_) λC=>?_)
 .have C:x.kind=8:=s0 C
  refine ws (ax ?_);refine af (bj (cA (aY (aC (d:=I x.b) rfl ?_))));simp[fY,h2,C];simp[bf]
 have C:¬ x.kind=8:=s0 C
 refine qw (al (SS ?_));refine af (aC (d:=I (-1)) rfl ?_);simp[fY,h1,h2,C]
def xW{l:List Int}(hl:l.length<=100000):aH prog 93 [aU l] (aU l):=by
 have J:∀ a∈[aU l],Tr a:=.cons (dP _) .nil;refine bx (fo f93) J (dP _) ?_;have M:(l.map I).take (l.length*1)=l.map I:=cX oS
 have last:AW prog iV true (.seq (.region 3 (Z Dl 3) false) .ret) (pb prog [.tmp 2] λd x=>d=aU l) ⟨aD [(0,aU l)],λ_=>none,0⟩:=by
  refine aA (ag ?_);refine eT (eQ rfl rfl rfl V.h V.h (iH M) rfl) ak ⟨V.h,rfl,cg,oC,db,da,(by rw[b3];first|omega|(simp;omega)),ey⟩ (SS ?_);refine af (br (cH [(1,l.map I,3)] eH (l:=[(2,aU l)]) ⟨?_,aa⟩) (aC rfl rfl));show xN _ [(1,l.map I,3)] (.rs 1 0 (0+l.length))=.sl (l.map I) l.length;rw[Nat.zero_add];exact oi c3 (cX oS)
 refine ws (SS ?_);refine af (fS (λs=>aP prog s ⟨aD [(0,aU l)],λ_=>none,0⟩) (al ?_) λs hg=>⟨_,hg,last⟩)
 cases l with
 |nil=>
  refine SS ?_;refine aI (MY rfl) ak V.h (af (aaC rfl (aA ?_) (bV (au eH))));refine SS ?_;exact af (br (yk (n0:=2) rfl) (bj (aY (aC rfl rfl))))
 |cons a l=>
  have C:(a::l).length≠0:=by simp
  refine SS ?_;exact aI (MZ rfl C) ak V.h (af (aB rfl (λh=>oH) λh=>bV (au eH)))
def GN{x:cq}(hx:x.op=10\/x.op=38->x.args.length<=1000):aH prog 181 [.agg (bU x)] (aU (dE x)):=by
 have bE:∀ a∈[D.agg (bU x)],Tr a:=.cons (.agg (tP x)) .nil;refine bx (fo f181) bE (dP _) ?_;refine aA (ag ?_);refine af (br (cH [(0,bU x,54)] eH (l:=[(1,.pt (bU x))]) eH) (aG (al ?_)));refine ag ?_;refine af (rj (fS (λs=>aP prog s ⟨aD [(1,.pt (bU x)),(4,U8 x.op),(5,B (bf sD x.op))],λ_=>none,1⟩) (al ?_) λs hg=>⟨_,hg,?_⟩))
 .refine ag ?_;refine af (aB rfl (λh=>bV ?_) λe2=>al ?_)
  .have h:x.op=2:=s0 h
   refine au ⟨rfl,rfl,?_,aa⟩;show D.s (.bool (x.op==2))=_;rw[h];rfl
  refine ag ?_;refine af (aB rfl (λh=>bV ?_) λe8=>al ?_)
  .have h:x.op=8:=s0 h
   refine au ⟨rfl,rfl,?_,aa⟩;show D.s (.bool (x.op==8))=_;rw[h];rfl
  refine ag ?_;refine af (aB rfl (λh=>bV ?_) λEL=>al ?_)
  .have h:x.op=11:=s0 h
   refine au ⟨rfl,rfl,?_,aa⟩;show D.s (.bool (x.op==11))=_;rw[h];rfl
  refine ag ?_;refine af (aB rfl (λh=>bV ?_) λM=>al ?_)
  .have h:x.op=13:=s0 h
   refine au ⟨rfl,rfl,?_,aa⟩;show D.s (.bool (x.op==13))=_;rw[h];rfl
  refine ag ?_;refine af (aB rfl (λh=>bV ?_) λEM=>al ?_)
  .have h:x.op=14:=s0 h
   refine au ⟨rfl,rfl,?_,aa⟩;show D.s (.bool (x.op==14))=_;rw[h];rfl
  refine ag ?_;refine af (aB rfl (λh=>bV ?_) λKE=>al ?_)
  .have h:x.op=15:=s0 h
   refine au ⟨rfl,rfl,?_,aa⟩;show D.s (.bool (x.op==15))=_;rw[h];rfl
  refine ag ?_;refine af (aB rfl (λh=>bV ?_) λKF=>al ?_)
  .have h:x.op=16:=s0 h
   refine au ⟨rfl,rfl,?_,aa⟩;show D.s (.bool (x.op==16))=_;rw[h];rfl
  refine ag ?_;refine af (aB rfl (λh=>bV ?_) λWo=>nH ?_)
  .have h:x.op=18:=s0 h
   refine au ⟨rfl,rfl,?_,aa⟩;show D.s (.bool (x.op==18))=_;rw[h];rfl
  refine ag ?_;refine af (au ⟨rfl,rfl,?_,aa⟩);show D.s (.bool (x.op==36))=_;simp[bf,sD,e2,e8,EL,M,EM,KE,KF,Wo]
 refine aB rfl (λh1=>?_) λh1=>?_
 .refine aA (aQ ?_);refine af (br (cH [(1,([x.a]).map I,3)] eH (l:=[(2,aU ([x.a]))]) ⟨oi c3 rfl,aa⟩) (bj (cA (aY (aC (d:=aU ([x.a])) rfl ?_)))));exact congrArg aU (by rw[dE,bi h1])
 refine fS (λs=>aP prog s ⟨aD [(1,.pt (bU x)),(4,U8 x.op),(18,B (bf wO x.op))],λ_=>none,1⟩) (al ?_) λs hg=>⟨_,hg,?_⟩
 .refine ag ?_;refine af (aB rfl (λh=>bV ?_) λe3=>al ?_)
  .have h:x.op=3:=s0 h
   refine au ⟨rfl,rfl,?_,aa⟩;show D.s (.bool (x.op==3))=_;rw[h];rfl
  refine ag ?_;refine af (aB rfl (λh=>bV ?_) λe4=>al ?_)
  .have h:x.op=4:=s0 h
   refine au ⟨rfl,rfl,?_,aa⟩;show D.s (.bool (x.op==4))=_;rw[h];rfl
  refine ag ?_;refine af (aB rfl (λh=>bV ?_) λe5=>al ?_)
  .have h:x.op=5:=s0 h
   refine au ⟨rfl,rfl,?_,aa⟩;show D.s (.bool (x.op==5))=_;rw[h];rfl
  refine ag ?_;refine af (aB rfl (λh=>bV ?_) λe6=>al ?_)
  .have h:x.op=6:=s0 h
   refine au ⟨rfl,rfl,?_,aa⟩;show D.s (.bool (x.op==6))=_;rw[h];rfl
  refine ag ?_;refine af (aB rfl (λh=>bV ?_) λe7=>al ?_)
  .have h:x.op=7:=s0 h
   refine au ⟨rfl,rfl,?_,aa⟩;show D.s (.bool (x.op==7))=_;rw[h];rfl
  refine ag ?_;refine af (aB rfl (λh=>bV ?_) λWp=>al ?_)
  .have h:x.op=12:=s0 h
   refine au ⟨rfl,rfl,?_,aa⟩;show D.s (.bool (x.op==12))=_;rw[h];rfl
  refine ag ?_;refine af (aB rfl (λh=>bV ?_) λU=>al ?_)
  .have h:x.op=30:=s0 h
   refine au ⟨rfl,rfl,?_,aa⟩;show D.s (.bool (x.op==30))=_;rw[h];rfl
  refine ag ?_;refine af (aB rfl (λh=>bV ?_) λX=>al ?_)
  .have h:x.op=31:=s0 h
   refine au ⟨rfl,rfl,?_,aa⟩;show D.s (.bool (x.op==31))=_;rw[h];rfl
  refine ag ?_;refine af (aB rfl (λh=>bV ?_) λA5=>al ?_)
  .have h:x.op=32:=s0 h
   refine au ⟨rfl,rfl,?_,aa⟩;show D.s (.bool (x.op==32))=_;rw[h];rfl
  refine ag ?_;refine af (aB rfl (λh=>bV ?_) λA6=>al ?_)
  .have h:x.op=33:=s0 h
   refine au ⟨rfl,rfl,?_,aa⟩;show D.s (.bool (x.op==33))=_;rw[h];rfl
  refine ag ?_;refine af (aB rfl (λh=>bV ?_) λuP=>al ?_)
  .have h:x.op=34:=s0 h
   refine au ⟨rfl,rfl,?_,aa⟩;show D.s (.bool (x.op==34))=_;rw[h];rfl
  refine ag ?_;refine af (aB rfl (λh=>bV ?_) λWq=>nH ?_)
  .have h:x.op=35:=s0 h
   refine au ⟨rfl,rfl,?_,aa⟩;show D.s (.bool (x.op==35))=_;rw[h];rfl
  refine ag ?_;refine af (au ⟨rfl,rfl,?_,aa⟩);show D.s (.bool (x.op==37))=_;simp[bf,wO,e3,e4,e5,e6,e7,Wp,U,X,A5,A6,uP,Wq]
 refine aB rfl (λh2=>?_) λh2=>?_
 .refine aA (cz ?_);refine af (br (cH [(1,([x.a,x.b]).map I,3)] eH (l:=[(2,aU ([x.a,x.b]))]) ⟨oi c3 rfl,aa⟩) (bj (cA (aY (aC (d:=aU ([x.a,x.b])) rfl ?_)))));exact congrArg aU (by rw[dE,ai (by simp[h1]),bi h2])
 refine ws (ag ?_);refine af (aB rfl (λC=>?_) λC=>?_)
 .have C:x.op=10:=s0 C
  have xW:=xW (l:=x.args) (by have:=hx (.inl C);omega);refine ws (aQ ?_);refine af (bj (cA (aY (aC (d:=aU x.args) rfl ?_))));exact congrArg aU (by rw[dE,ai (by simp[h1]),ai (by simp[h2]),bi C])
 have C:¬ x.op=10:=s0 C
 refine ws (ag ?_);refine af (aB rfl (λJ=>?_) λJ=>?_)
 .have J:x.op=38:=s0 J
  have hl:=hx (.inr J);have dZ:(x.args.map I).take (x.args.length*1)=x.args.map I:=cX oS;refine aA (ek ?_);refine eT (eQ rfl rfl rfl V.h V.h (iH dZ) rfl) ak ⟨V.h,rfl,cg,oC,db,da,(by rw[b3];first|omega|(simp;omega)),ey⟩ (SS ?_);refine af (br (cH [(2,(x.a::x.b::x.args).map I,3)] eH (l:=[(2,aU (x.a::x.b::x.args))]) ⟨?_,aa⟩) (bj (cA (aY (aC (d:=aU (x.a::x.b::x.args)) rfl ?_)))))
  .show xN _ [(2,_,3)] (.rs 2 0 (2+x.args.length))=_;refine(oi c3 (es:=(x.a::x.b::x.args).map I) (cX oP)).trans ?_;rw[Nat.add_comm];rfl
  .exact congrArg aU (by rw[dE,ai (by simp[h1]),ai (by simp[h2]),ai C,bi J])
 have J:¬ x.op=38:=s0 J
 refine qw (aA (SS ?_));refine af (br (yk (n0:=2) rfl) (aC (d:=aU []) rfl ?_));exact congrArg aU (by rw[dE,ai (by simp[h1]),ai (by simp[h2]),ai C,ai J])
def UD{x:Abs.End}(hx:x.kind=5->x.ins.op=10\/x.ins.op=38->x.ins.args.length<=1000)(hy:x.kind=6\/x.kind=7->x.args.length<=1000):aH prog 184 [.agg (bq x)] (aU (dM x)):=by
 have M:∀ a∈[D.agg (bq x)],Tr a:=.cons (.agg (oU x)) .nil;refine bx (fo f184) M (dP _) ?_;refine aA (ag ?_);refine af (br (cH [(0,bq x,57)] eH (l:=[(1,.pt (bq x))]) eH) (aG (al ?_)));refine ag ?_;refine af (rj (fS (λs=>aP prog s ⟨aD [(1,.pt (bq x)),(4,U8 x.kind),(5,B (bf [2,8,9] x.kind))],λ_=>none,1⟩) (al ?_) λs hg=>⟨_,hg,?_⟩))
 .refine ag ?_;refine af (aB rfl (λh=>bV ?_) λe2=>al ?_)
  .have h:x.kind=2:=s0 h
   refine au ⟨rfl,rfl,?_,aa⟩;show D.s (.bool (x.kind==2))=_;rw[h];rfl
  refine ag ?_;refine af (aB rfl (λh=>bV ?_) λe8=>nH ?_)
  .have h:x.kind=8:=s0 h
   refine au ⟨rfl,rfl,?_,aa⟩;show D.s (.bool (x.kind==8))=_;rw[h];rfl
  refine ag ?_;refine af (au ⟨rfl,rfl,?_,aa⟩);show D.s (.bool (x.kind==9))=_;simp[bf,e2,e8]
 refine aB rfl (λh1=>?_) λh1=>?_
 .refine aA (aQ ?_);refine af (br (cH [(1,([x.a]).map I,3)] eH (l:=[(2,aU ([x.a]))]) ⟨oi c3 rfl,aa⟩) (bj (cA (aY (aC (d:=aU ([x.a])) rfl ?_)))));exact congrArg aU (by rw[dM,bi h1])
 refine ws (ag ?_);refine af (aB rfl (λh2=>?_) λh2=>?_)
 .have h2:x.kind=3:=s0 h2
  refine ws (ax ?_);refine af (aB rfl (λC=>?_) λC=>?_)
  .have C:¬ x.a= -1:=by simpa[bne,ib] using C
   refine aA (aQ ?_);refine af (br (cH [(1,([x.a]).map I,3)] eH (l:=[(2,aU ([x.a]))]) ⟨oi c3 rfl,aa⟩) (bj (cA (aY (aC (d:=aU ([x.a])) rfl ?_)))));exact congrArg aU (by rw[dM,ai (by simp[h1]),bi h2,bi C])
  .have C:x.a= -1:=by simpa[bne,ib] using C
   refine qw (aA (SS ?_));refine af (br (yk (n0:=2) rfl) (aC (d:=aU []) rfl ?_));exact congrArg aU (by rw[dM,ai (by simp[h1]),bi h2,ai (by simp[C])])
 have h2:¬ x.kind=3:=s0 h2
 refine ws (ag ?_);refine af (aB rfl (λC=>?_) λC=>?_)
 .have C:x.kind=5:=s0 C
  have GN:=GN (x:=x.ins) (hx C);refine ws (aQ ?_);refine af (bj (cA (aY (aC (d:=aU (dE x.ins)) rfl ?_))));exact congrArg aU (by rw[dM,ai (by simp[h1]),ai h2,bi C])
 have C:¬ x.kind=5:=s0 C
 refine fS (λs=>aP prog s ⟨aD [(1,.pt (bq x)),(4,U8 x.kind),(25,B (bf [6,7] x.kind))],λ_=>none,1⟩) (al ?_) λs hg=>⟨_,hg,?_⟩
 .refine ag ?_;refine af (aB rfl (λh=>bV ?_) λe6=>nH ?_)
  .have h:x.kind=6:=s0 h
   refine au ⟨rfl,rfl,?_,aa⟩;show D.s (.bool (x.kind==6))=_;rw[h];rfl
  refine ag ?_;refine af (au ⟨rfl,rfl,?_,aa⟩);show D.s (.bool (x.kind==7))=_;simp[bf,e6]
 refine aB rfl (λJ=>?_) λJ=>?_
 .have U:x.kind=6\/x.kind=7:=by simpa[bf] using J
  have xW:=xW (l:=x.args) (by have:=hy U;omega);refine ws (aQ ?_);refine af (bj (cA (aY (aC (d:=aU x.args) rfl ?_))));exact congrArg aU (by rw[dM,ai (by simp[h1]),ai h2,ai C,bi J])
 refine qw (aA (SS ?_));refine af (br (yk (n0:=2) rfl) (aC (d:=aU []) rfl ?_));exact congrArg aU (by rw[dM,ai (by simp[h1]),ai h2,ai C,ai (by simp[J])])
end Go.Abs
end
namespace Go.Abs
open List
section
inductive T(α:Type) where
 |leaf
 |node (v:Option α) (l r:T α)
def Aj:Nat->Nat->List Bool
 |0,_=>[]
 |f+1,i=>bif Nat.beq i 0 then [] else bif Nat.beq (i % 2) 1 then true::Aj f (i / 2) else false::Aj f (i / 2 - 1)
def bits(i:Nat):List Bool:=Aj 20 i
variable{α:Type}
def zj(p:List Bool):T α->Option α:=rec (motive:=λ_=>T α->Option α) (λt=>T.rec (motive:=λ_=>Option α) none (λv _ _ _ _=>v) t)
 (λb _ ih t=>T.rec (motive:=λ_=>Option α) none (λ_ l r _ _=>Bool.rec (ih r) (ih l) b) t) p
def Gx(v:Option α)(p:List Bool):T α->T α:=rec (motive:=λ_=>T α->T α) (λt=>T.rec (motive:=λ_=>T α) (.node v .leaf .leaf) (λ_ l r _ _=>.node v l r) t)
 (λb _ ih t=>T.rec (motive:=λ_=>T α) (Bool.rec (.node none .leaf (ih .leaf)) (.node none (ih .leaf) .leaf) b) (λu l r _ _=>Bool.rec (.node u l (ih r)) (.node u (ih l) r) b) t) p
def T.get(t:T α)(i:Nat):Option α:=zj (bits i) t
def T.put(t:T α)(i:Nat)(v:Option α):Option (T α):=bif Nat.blt i 1000000 then some (Gx v (bits i) t) else none
structure dC where
 env:T D
 mem:T Row
 nx:Nat
def Cr:D->D
 | .dw _ _=>.u
 |d=>d
def getD(t:T D)(i:Nat):D:=match t.get i with
 |some d=>d
 |none=>.u
def kq(t:T D):Operand->D
 | .tmp i=>Cr (getD t i)
 | .const v=>Ck v
 | .global _=>.u
 | .func f=>.fn (.func f) [] []
abbrev jk:=Program->(Operand->D)->T Row->Nat->Option cy
def jT(b:Bool)(d:D):Option cy:=bif b then some ⟨d,[],[],0⟩ else none
def uJ(b:Bool)(d:D)(i:Nat):Option cy:=bif b then some ⟨d,[],[i],0⟩ else none
def zk(b:Bool)(nx:Nat)(d:D)(r:Row)(rd:List Nat):Option cy:=bif b then some ⟨d,[(nx,some r)],rd,1⟩ else none
def J9(b:Bool)(i:Nat)(r:Row):Option cy:=bif b then some ⟨.bu [],[(i,some r)],[i],0⟩ else none
def pf(n:Nat):List D->Bool:=Nat.rec (λ_=>true) (λ_ ih l=>rec false (λ_ t _=>ih t) l) n
def zl(n:Nat):List D->Bool:=Nat.rec (λl=>rec true (λ_ _ _=>false) l) (λ_ ih l=>rec false (λ_ t _=>ih t) l) n
def Ta(n:Nat):List D->List D:=Nat.rec (λl=>l) (λ_ ih l=>rec [] (λ_ t _=>ih t) l) n
def F9(n:Nat):List D->List D:=Nat.rec (λ_=>[]) (λ_ ih l=>rec [] (λa t _=>a::ih t) l) n
def vI(l:List D)(n:Nat):List D:=Ta n l
def Dz(P:Program)(t:TypeId)(cs:List D):D:=bif bX P t then .agg (F9 (P.cellsOf t) cs) else rec .u (λd _ _=>d) cs
def acz(x:Operand):jk:=λ_ ρ _ _=>some ⟨ρ x,[],[],0⟩
def Tb(c a b:Operand):jk:=λ_ ρ _ _=>match ρ c with
 | .s (.bool true)=>match ρ a with
  | .s (.bool v)=>some ⟨.s (.bool v),[],[],0⟩
  |_=>none
 | .s (.bool false)=>match ρ b with
  | .s (.bool v)=>some ⟨.s (.bool v),[],[],0⟩
  |_=>none
 |_=>none
def Se(t:TypeId):jk:=λP _ _ nx=>bif BU t then match bN P t with
 |[.s (.pointer none),.z]=>zk (a8 P t) nx (.rp nx 0) (.bs false .z t) []
 |_=>none
 else zk (a8 P t) nx (.rp nx 0) (.cells (bN P t) t) []
def T6(t:TypeId)(x:Operand):jk:=λP ρ _ nx=>bif BU t then match (ρ x).cells with
 |[.s (.pointer none),d]=>zk (d.one&&Nat.beq (P.cellsOf t) 2) nx (.rp nx 0) (.bs false d t) []
 |_=>none
 else zk ((ρ x).cells.all D.one) nx (.rp nx 0) (.cells (ρ x).cells t) []
def Ga(place:Nat->Option (Nat×Nat))(cells:List D):List (Nat×D)->Option (List D)
 |[]=>some cells
 |(i,d)::rest=>match place i with
  |none=>none
  |some (off,size)=>bif (zl size d.cells&&pf (off+size) cells)&&d.cells.all D.one then Ga place (jF cells off d.cells) rest else none
def parts(ρ:Operand->D):List (Nat×Operand)->List (Nat×D)
 |[]=>[]
 |(i,x)::l=>(i,ρ x)::parts ρ l
def Sf(P:Program)(fs:Array Field)(i:Nat):Option (Nat×Nat):=match fs[i]? with
 |some f=>some (f.offset,P.cellsOf f.type)
 |none=>none
def Tc(b:Bool):Option (List D)->Option cy
 |some cs=>jT b (.agg cs)
 |none=>none
def ak'(P:Program)(fs:Array Field):Bool:=fs.toList.all λf=>(P.info? f.type).isSome
def Sg(t:TypeId)(ps:Array (Nat×Operand)):jk:=λP ρ _ _=>match P.underlying t with
 |some (.struct fs)=>Tc (a8 P t&&ak' P fs) (Ga (Sf P fs) (bN P t) (parts ρ ps.toList))
 |some (.array _ e)=>Tc (a8 P t&&a8 P e) (Ga (λi=>some (i*P.cellsOf e,P.cellsOf e)) (bN P t) (parts ρ ps.toList))
 |_=>none
def acA(b:Bool)(nx n:Nat)(e:TypeId):Option (List D)->Option cy
 |some cs=>zk (b&&cs.all D.one) nx (.rs nx 0 n) (.cells cs e) []
 |none=>none
def PK(t:TypeId)(n:Nat)(ps:Array (Nat×Operand)):jk:=λP ρ _ nx=>
 acA (bH P t&&(Nat.ble (n*P.cellsOf (aT P t)) 16777216&&Nat.ble n maxLen)) nx n (aT P t) (Ga (λi=>some (i*P.cellsOf (aT P t),P.cellsOf (aT P t))) (eI n (bN P (aT P t))) (parts ρ ps.toList))
def Td(t:TypeId)(a:Operand):jk:=λP ρ m _=>match ρ a with
 | .pt cs=>jT (a8 P t&&pf (P.cellsOf t) cs) (Dz P t cs)
 | .rp i off=>match m.get i with
  |some (.cells cs _)=>uJ (a8 P t&&pf (off+P.cellsOf t) cs) (Dz P t (vI cs off)) i
  |some (.bs _ x _)=>uJ (Nat.beq off 1&&(a8 P t&& !bX P t)) x i
  |_=>none
 |_=>none
def Si(t:TypeId)(a x:Operand):jk:=λP ρ m _=>match ρ a with
 | .rp i off=>match m.get i with
  |some (.cells cs e)=>J9 ((a8 P t&&zl (P.cellsOf t) (ρ x).cells)&&(pf (off+P.cellsOf t) cs&&(ρ x).cells.all D.one)) i (.cells (jF cs off (ρ x).cells) e)
  |some (.bs u _ T)=>J9 (Nat.beq off 1&&(a8 P t&&(!bX P t&&(ρ x).one))) i (.bs u (ρ x) T)
  |_=>none
 |_=>none
def Qo(x:Operand):jk:=λ_ ρ m _=>match ρ x with
 | .pt cs=>some ⟨.pt cs,[],[],0⟩
 | .rp i off=>match m.get i with
  |some _=>some ⟨.rp i off,[],[i],0⟩
  |none=>none
 |_=>none
def OF:IntKind->Int->Bool
 | .i64,.ofNat n=>Nat.ble n 9223372036854775807
 | .i64,.negSucc n=>Nat.ble n 9223372036854775807
 | .u8,.ofNat n=>Nat.ble n 255
 | .u64,.ofNat n=>Nat.ble n 18446744073709551615
 |_,_=>false
def DA(k:IntKind)(n:Int):Int:=bif OF k n then n else k.wrap n
def tz:Int->Int->Bool
 | .ofNat a,.ofNat b=>Nat.blt a b
 | .negSucc _,.ofNat _=>true
 | .ofNat _,.negSucc _=>false
 | .negSucc a,.negSucc b=>Nat.blt b a
def Er:Int->Int->Bool
 | .ofNat a,.ofNat b=>Nat.beq a b
 | .negSucc a,.negSucc b=>Nat.beq a b
 |_,_=>false
def k9:IntKind->IntKind->Bool
 | .i64,.i64 | .u8,.u8 | .u64,.u64 | .i32,.i32 | .u32,.u32 | .i8,.i8 | .i16,.i16 | .u16,.u16=>true
 |_,_=>false
def sI(b:Bool)(k:IntKind)(n:Int):Option cy:=jT b (.s (.int k n))
def sB(b:Bool)(v:Bool):Option cy:=jT b (.s (.bool v))
def T7:BinOp->IntKind->IntKind->Int->Int->Option cy
 | .add=>λk k' a b=>sI (k9 k k') k (DA k (a+b))
 | .sub=>λk k' a b=>sI (k9 k k') k (DA k (a - b))
 | .mul=>λk k' a b=>sI (k9 k k') k (DA k (a*b))
 | .quo=>λk k' a b=>sI (k9 k k'&& !Er b 0) k (DA k (a.tdiv b))
 | .rem=>λk k' a b=>sI (k9 k k'&& !Er b 0) k (a.tmod b)
 | .shl=>λk _ a b=>sI (!tz b 0) k (k.wrap (a*2 ^ (min b.toNat k.bits)))
 | .shr=>λk _ a b=>sI (!tz b 0) k (a.fdiv (2 ^ (min b.toNat k.bits)))
 | .and=>λk k' a b=>sI (k9 k k') k (oR .and k a b)
 | .or=>λk k' a b=>sI (k9 k k') k (oR .or k a b)
 | .xor=>λk k' a b=>sI (k9 k k') k (oR .xor k a b)
 | .andNot=>λk k' a b=>sI (k9 k k') k (oR .andNot k a b)
 | .eql=>λk k' a b=>sB (k9 k k') (Er a b)
 | .neq=>λk k' a b=>sB (k9 k k') (!Er a b)
 | .lss=>λk k' a b=>sB (k9 k k') (tz a b)
 | .leq=>λk k' a b=>sB (k9 k k') (!tz b a)
 | .gtr=>λk k' a b=>sB (k9 k k') (tz b a)
 | .geq=>λk k' a b=>sB (k9 k k') (!tz a b)
def Hg:List UInt8->List UInt8->Bool
 |[],[]=>true
 |a::aS,b::bs=>Nat.beq a.toNat b.toNat&&Hg aS bs
 |_,_=>false
def J':List UInt8->List UInt8->Bool
 |_,[]=>false
 |[],_::_=>true
 |a::aS,b::bs=>Nat.blt a.toNat b.toNat||(Nat.beq a.toNat b.toNat&&J' aS bs)
def T8:BinOp->List UInt8->List UInt8->Option cy
 | .eql=>λa b=>sB true (Hg a b)
 | .neq=>λa b=>sB true (!Hg a b)
 | .lss=>λa b=>sB true (J' a b)
 | .geq=>λa b=>sB true (!J' a b)
 | .add=>λa b=>jT (Nat.ble (a.length+b.length) maxLen) (.s (.string ⟨⟨a++b⟩⟩))
 |_=>λ_ _=>none
def abw(P:Program)(op:BinOp)(t:TypeId)(xs ys:List D):Option cy:=match op,Ds P t,s6 xs ys with
 | .eql,some ks,some q=>jT (decide (q.1.map nd=ks)&& !P.eqGuardType P.depth t) (.s (.bool (lf q.1 q.2)))
 | .neq,some ks,some q=>jT (decide (q.1.map nd=ks)&& !P.eqGuardType P.depth t) (.s (.bool !(lf q.1 q.2)))
 |_,_,_=>none
def acB(P:Program)(op:BinOp)(t:TypeId):D->D->Option cy
 | .s (.int k a),.s (.int k' b)=>T7 op k k' a b
 | .s (.string a),.s (.string b)=>T8 op a.data.toList b.data.toList
 | .s (.bool a),.s (.bool b)=>match op with
  | .eql=>sB (xJ P t) (a==b)
  | .neq=>sB (xJ P t) (!(a==b))
  |_=>none
 | .agg xs,.agg ys=>abw P op t xs ys
 |_,_=>none
def T9:BinOp->Option Bool
 | .eql=>some true
 | .neq=>some false
 |_=>none
def acC(P:Program)(m:T Row)(t:TypeId)(b:Bool):D->Option cy
 | .z=>sB (bH P t) b
 | .rs i _ n=>match m.get i with
  |some (.cells _ _)=>uJ (bH P t&&Nat.blt 0 n) (.s (.bool !b)) i
  |_=>none
 | .sl _ n=>bif b then jT (bH P t) (bif Nat.beq n 0 then .ub else .s (.bool false)) else none
 |_=>none
def T'(op:BinOp)(t:TypeId)(x y:Operand):jk:=λP ρ m _=>match y with
 | .const (.slice none 0 0)=>match T9 op with
  |some b=>acC P m t b (ρ x)
  |none=>none
 | .const (.pointer none)=>none
 |y=>acB P op t (ρ x) (ρ y)
def Vb(op:UnOp)(x:Operand):jk:=λ_ ρ _ _=>match ρ x with
 | .s v=>match G7 op v with
  |some r=>some ⟨.s r,[],[],0⟩
  |none=>none
 |_=>none
def Nj :List D->Option (List Int)
 |[]=>some []
 | .s (.int .u8 n)::ds=>match Nj ds with
  |some l=>some (n::l)
  |none=>none
 |_=>none
def OG(P:Program)(t:TypeId):Bool:=bH P t&&(match P.underlying (aT P t) with|some (.int .u8)=>true|_=>false)&&Nat.beq (P.cellsOf (aT P t)) 1
def abx(P:Program)(src:TypeId):D->Option cy
 | .s (.int _ n)=>match P.underlying src with
  |some (.int _)=>jT (!tz n 0&&tz n 128) (.s (.string (mkStr [n])))
  |_=>none
 |_=>none
def aby(P:Program)(src:TypeId):D->Option cy
 | .s (.string b)=>jT (ji P src&&Nat.ble b.data.toList.length maxLen) (.sl (b.data.toList.map λc=>.s (.int .u8 c.toNat)) b.data.toList.length)
 |_=>none
def abz(P:Program)(src:TypeId)(k:IntKind):D->Option cy
 | .s (.int _ n)=>jT (a8 P src) (.s (.int k (DA k n)))
 |_=>none
def Te(src dst:TypeId)(x:Operand):jk:=λP ρ _ _=>match P.underlying dst with
 |some (.int k)=>abz P src k (ρ x)
 |some .string=>abx P src (ρ x)
 |some (.slice e)=>match P.underlying e with
  |some (.int .u8)=>aby P src (ρ x)
  |_=>none
 |_=>none
def apQ(f:Fn)(fs cs:Array Operand):jk:=λ_ ρ _ _=>some ⟨.fn f (fs.toList.map ρ) (cs.toList.map ρ),[],[],0⟩
def Ua(r:Option Operand):jk:=λ_ _ _ nx=>match r with
 |none=>some ⟨.mp nx,[(nx,some (.map []))],[],1⟩
 |some _=>none
def Tf(t:TypeId)(l c:Operand):jk:=λP ρ _ nx=>match ρ l,ρ c with
 | .s (.int .i64 (.ofNat n)),.s (.int .i64 (.ofNat k))=>zk ((Nat.beq n k&&Nat.ble n 9223372036854775807)&&(Nat.ble (P.bytesOf (aT P t)*n) 281474976710656&&bH P t)) nx (.rs nx 0 n) (.cells (eI n (bN P (aT P t))) (aT P t)) []
 |_,_=>none
def FM(P:Program)(t:TypeId):List (Value×D)->Bool
 |[]=>true
 |e::es=>ew P t e.1&&FM P t es
def Tg(t:TypeId)(x k:Operand)(ok:Bool):jk:=λP ρ m _=>match xv (ρ k),ρ x with
 |some key,.mp i=>match m.get i with
  |some (.map es)=>uJ (kN P t&&(ew P (iZ P t) key&&FM P (iZ P t) es)) (lg P t ok (fF key es)) i
  |_=>none
 |some key,.im es=>jT (kN P t&&(ew P (iZ P t) key&&FM P (iZ P t) es)) (lg P t ok (fF key es))
 |some key,.s (.map none)=>jT (kN P t&&ew P (iZ P t) key) (lg P t ok none)
 |_,_=>none
def NM(t:TypeId)(x k v:Operand):jk:=λP ρ m _=>match xv (ρ k),ρ x with
 |some key,.mp i=>match m.get i with
  |some (.map es)=>J9 (kN P t&&(ew P (iZ P t) key&&FM P (iZ P t) es)) i (.map (mG key (ρ v) es))
  |_=>none
 |_,_=>none
def vQ(ρ:Operand->D)(o:Option Operand)(C:Nat):Option Nat:=match o with
 |none=>some C
 |some x=>match ρ x with
  | .s (.int _ (.ofNat n))=>some n
  |_=>none
def aaq(P:Program)(t:TypeId)(ρ:Operand->D)(x:D)(lo hi:Option Operand)(c:Operand):Option cy:=match x,vQ ρ lo 0,hi,ρ c with
 | .sl es n,some l,some hx,.s (.int _ (.ofNat k))=>match ρ hx with
  | .s (.int _ (.ofNat h))=>bif Nat.beq l 0&&(Nat.beq h n&&Nat.beq k n)&&(lo.isNone) then jT (bH P t&&zl (n*P.cellsOf (aT P t)) es) (.sc es n)
   else jT (bH P t&&(Nat.ble l h&&(Nat.ble h k&&Nat.ble k n))) (.sl ((vI es (l*P.cellsOf (aT P t))).take ((h - l)*P.cellsOf (aT P t))) (h - l))
  |_=>none
 | .z,_,some hx,.s (.int _ (.ofNat k))=>match ρ hx with
  | .s (.int _ (.ofNat h))=>bif Nat.beq h 0&&Nat.beq k 0&&lo.isNone then jT (bH P t) .z else none
  |_=>none
 |_,_,_,_=>none
def QV(P:Program)(t:TypeId)(ρ:Operand->D)(m:T Row)(x:D)(lo hi:Option Operand)(c:Operand):Option cy:=match x,lo,hi,ρ c with
 | .rs i off n,none,some hx,.s (.int _ (.ofNat k))=>match m.get i,ρ hx with
  |some (.cells cs e),.s (.int _ (.ofNat h))=>bif Nat.beq h n&&Nat.beq k n then uJ (bH P t&&zl (off+n*P.cellsOf e) cs) (.rs i off n) i else none
  |_,_=>none
 |_,_,_,_=>none
def aar(P:Program)(t:TypeId)(ρ:Operand->D)(m:T Row)(lo hi:Option Operand):D->Option cy
 | .sl es n=>match vQ ρ lo 0,vQ ρ hi n with
  |some l,some h=>jT (bH P t&&(Nat.ble l h&&Nat.ble h n)) (.sl ((vI es (l*P.cellsOf (aT P t))).take ((h - l)*P.cellsOf (aT P t))) (h - l))
  |_,_=>none
 | .rs i off n=>match m.get i,vQ ρ lo 0,vQ ρ hi n with
  |some (.cells _ e),some l,some h=>uJ (bH P t&&Nat.beq (P.cellsOf e) (P.cellsOf (aT P t))&&(Nat.ble l h&&Nat.ble h n)) (.rs i (off+l*P.cellsOf (aT P t)) (h - l)) i
  |_,_,_=>none
 | .s (.string b)=>match vQ ρ lo 0,vQ ρ hi b.data.toList.length with
  |some l,some h=>jT (ji P t&&(Nat.ble l h&&Nat.ble h b.data.toList.length)) (.s (.string ⟨⟨(b.data.toList.drop l).take (h - l)⟩⟩))
  |_,_=>none
 | .z=>match vQ ρ lo 0,vQ ρ hi 0 with
  |some 0,some 0=>jT (bH P t) .z
  |_,_=>none
 |_=>none
def Sj(t:TypeId)(x:Operand)(lo hi C:Option Operand):jk:=λP ρ m _=>match C with
 |none=>aar P t ρ m lo hi (ρ x)
 |some c=>match QV P t ρ m (ρ x) lo hi c with
  |some p=>some p
  |none=>aaq P t ρ (ρ x) lo hi c
def P4(t:TypeId)(x:Operand)(k:Nat):jk:=λP ρ m _=>match df P t k with
 |some (off,ft)=>match ρ x with
  | .pt cs=>jT (Nat.blt 0 (P.cellsOf ft)) (.pt (vI cs off))
  | .rp i o=>match m.get i with
   |some _=>uJ (Nat.blt 0 (P.cellsOf ft)) (.rp i (o+off)) i
   |none=>none
  |_=>none
 |none=>none
def P5(t:TypeId)(x i:Operand):jk:=λP ρ m _=>match ρ x,ρ i with
 | .sl es n,.s (.int _ (.ofNat k))=>jT (bH P t&&(Nat.blt k n&&pf ((k+1)*P.cellsOf (aT P t)) es)) (.pt (vI es (k*P.cellsOf (aT P t))))
 | .rs j off n,.s (.int _ (.ofNat k))=>match m.get j with
  |some _=>uJ (bH P t&&Nat.blt k n) (.rp j (off+k*P.cellsOf (aT P t))) j
  |none=>none
 | .rp j off,.s (.int _ (.ofNat k))=>match m.get j with
  |some _=>uJ (rX P t&&Nat.blt k (s4 P t)) (.rp j (off+k*P.cellsOf (aT P t))) j
  |none=>none
 |_,_=>none
def Sk(t:TypeId)(x i:Operand):jk:=λP ρ _ _=>match ρ x,ρ i with
 | .s (.string b),.s (.int _ (.ofNat k))=>jT (ji P t&&Nat.blt k b.data.toList.length) (.s (.int .u8 (b.data.toList.getD k 0).toNat))
 | .agg cs,.s (.int _ (.ofNat k))=>jT (rX P t&&(Nat.blt k (s4 P t)&&pf ((k+1)*P.cellsOf (aT P t)) cs)) (Dz P (aT P t) (vI cs (k*P.cellsOf (aT P t))))
 |_,_=>none
def Ub:List D->Nat->Option D
 |[],_=>none
 |d::_,0=>some d
 |_::ds,n+1=>Ub ds n
def QW(x:Operand)(k:Nat):jk:=λ_ ρ _ _=>match ρ x with
 | .bu cs=>match Ub cs k with
  |some d=>some ⟨d,[],[],0⟩
  |none=>none
 |_=>none
abbrev Cs:=Program->(Operand->D)->T Row->Nat->List Operand->List TypeId->Option cy
def adH:Cs:=λP ρ m _ xs ts=>match xs,ts with
 |[x],[t]=>match ρ x with
  | .sl _ n=>jT (bH P t) (.s (.int .i64 (.ofNat n)))
  | .rs i _ n=>match m.get i with
   |some _=>uJ (bH P t) (.s (.int .i64 (.ofNat n))) i
   |none=>none
  | .z=>jT (bH P t) (.s (.int .i64 (.ofNat 0)))
  | .s (.string b)=>jT (ji P t) (.s (.int .i64 (.ofNat b.data.toList.length)))
  | .agg _=>jT (rX P t) (.s (.int .i64 (.ofNat (s4 P t))))
  | .mp i=>match m.get i with
   |some (.map es)=>uJ (kN P t) (.s (.int .i64 (.ofNat es.length))) i
   |_=>none
  |_=>none
 |_,_=>none
def Sl(m:T Row)(sz:Nat):D->Option (List Nat×Nat×List D)
 | .sl es n=>bif pf (n*sz) es then some ([],n,F9 (n*sz) es) else none
 | .z=>some ([],0,[])
 | .rs i off n=>match m.get i with
  |some (.cells cs _)=>bif pf (off+n*sz) cs then some ([i],n,F9 (n*sz) (vI cs off)) else none
  |_=>none
 |_=>none
def Gb(i:Nat):List Nat->Bool
 |[]=>true
 |j::l=> !Nat.beq j i&&Gb i l
def adI(P:Program)(m:T Row)(nx:Nat)(t:TypeId)(s:D)(rd:List Nat)(k:Nat)(news:List D):Option cy:=match s with
 | .z=>zk (bH P t&&(Nat.blt 0 (P.cellsOf (aT P t))&&(Nat.ble k maxLen&&Nat.ble (k*P.bytesOf (aT P t)) 140737488355328))) nx (.rs nx 0 k) (.cells news (aT P t)) rd
 | .sc es n=>zk ((bH P t&&zl (n*P.cellsOf (aT P t)) es)&&((Nat.blt 0 k&&Nat.blt 0 (P.cellsOf (aT P t)))&&(Nat.ble (n+k) maxLen&&Nat.ble ((n+k)*P.bytesOf (aT P t)) 140737488355328))) nx (.rs nx 0 (n+k)) (.cells (es++news) (aT P t)) rd
 | .rs i off n=>match m.get i with
  |some (.cells cs e)=>bif ((bH P t&&Nat.beq e (aT P t))&&(Nat.blt 0 (P.cellsOf (aT P t))&&zl (off+n*P.cellsOf (aT P t)) cs))&&((Nat.ble (n+k) maxLen&&Nat.ble ((n+k)*P.bytesOf (aT P t)) 140737488355328)&&Gb i rd) then
   some ⟨.rs nx 0 (n+k),[(i,none),(nx,some (.cells (vI cs off++news) e))],i::rd,1⟩ else none
  |_=>none
 |_=>none
def acD(P:Program)(m:T Row)(nx:Nat)(t u:TypeId)(s:D)(b:ByteArray):Option cy:=match s with
 | .z=>zk ((OG P t&&ji P u)&&(Nat.ble b.size maxLen&&Nat.ble (b.size*P.bytesOf (aT P t)) 140737488355328)) nx (.rs nx 0 b.size) (.cells (gY b) (aT P t)) []
 | .rs i off n=>match m.get i with
  |some (.cells cs e)=>bif (Nat.beq e (aT P t)&&(OG P t&&ji P u))&&(zl (off+n) cs&&(Nat.ble (n+b.size) maxLen&&Nat.ble ((n+b.size)*P.bytesOf (aT P t)) 140737488355328)) then
   some ⟨.rs nx 0 (n+b.size),[(i,none),(nx,some (.cells (vI cs off++gY b) e))],[i],1⟩ else none
  |_=>none
 |_=>none
def aas:Cs:=λP ρ m nx xs ts=>match xs,ts with
 |[s,x],[t,u]=>match ρ x with
  | .s (.string b)=>acD P m nx t u (ρ s) b
  |d=>bif Nat.beq t u then match Sl m (P.cellsOf (aT P t)) d with
    |some (rd,k,news)=>adI P m nx t (ρ s) rd k news
    |none=>none
   else none
 |_,_=>none
def adJ:Cs:=λ_ ρ _ _ xs ts=>match xs,ts with
 |[x,y],[_,_]=>match ρ x,ρ y with
  | .s (.int k a),.s (.int k' b)=>sI (k9 k k') k (bif tz b a then b else a)
  |_,_=>none
 |_,_=>none
def abA:Cs:=λP ρ m _ xs ts=>match xs,ts with
 |[x],[t]=>match ρ x with
  | .rs i off n=>match m.get i with
   |some (.cells cs e)=>J9 (bH P t&&(Nat.beq e (aT P t)&&pf (off+n*P.cellsOf e) cs)) i (.cells (jF cs off (eI n (bN P e))) e)
   |_=>none
  |_=>none
 |_,_=>none
def abB:Cs:=λ_ ρ m _ xs ts=>match xs,ts with
 |[s],[_]=>match ρ s with
  | .rs i off n=>match m.get i with
   |some _=>uJ (Nat.blt 0 n) (.rp i off) i
   |none=>none
  |_=>none
 |_,_=>none
def acE:Cs:=λP ρ m _ xs ts=>match xs,ts with
 |[p,n],[t,_]=>match ρ p,ρ n with
  | .rp i off,.s (.int _ (.ofNat k))=>match m.get i with
   |some (.cells cs e)=>match Nj (F9 k (vI cs off)),P.underlying t with
    |some l,some (.pointer e')=>bif (Nat.beq k l.length&&Nat.beq e' e)&&((Nat.blt 0 l.length&&Nat.beq (P.cellsOf e) 1)&&(Nat.ble l.length maxLen&&l.all λx=> !tz x 0&&tz x 256)) then
     some ⟨.s (.string (mkStr l)),[(i,none)],[i],0⟩ else none
    |_,_=>none
   |_=>none
  |_,_=>none
 |_,_=>none
def noB:Cs:=λ_ _ _ _ _ _=>none
def buK:Builtin->Cs
 | .len=>adH
 | .append=>aas
 | .min=>adJ
 | .clear=>abA
 | .unsafeSliceData=>abB
 | .unsafeString=>acE
 |_=>noB
def H6(b:Builtin)(xs:Array Operand)(ts:Array TypeId):jk:=λP ρ m nx=>buK b P ρ m nx xs.toList ts.toList
def OH:jk:=λ_ _ _ _=>none
def acF(c:Call):jk:=match c.callee with
 | .builtin b=>H6 b c.args c.argTypes
 |_=>OH
def OI:Op->jk
 | .move x=>acz x
 | .assign x=>acz x
 | .pick c a b=>Tb c a b
 | .alloc t=>Se t
 | .box t x=>T6 t x
 | .build t ps=>Sg t ps
 | .buildSlice t n ps=>PK t n ps
 | .load t a=>Td t a
 | .store t a x=>Si t a x
 | .nilCheck x=>Qo x
 | .binOp op t x y _=>T' op t x y
 | .unOp op _ x=>Vb op x
 | .convert src dst x=>Te src dst x
 | .makeFunc f fs cs=>apQ f fs cs
 | .makeMap _ r=>Ua r
 | .makeSlice t l c=>Tf t l c
 | .lookup t x k ok=>Tg t x k ok
 | .mapUpdate t x k v=>NM t x k v
 | .insert t x k v=>NM t x k v
 | .slice t x lo hi C=>Sj t x lo hi C
 | .fieldAddr t x k=>P4 t x k
 | .indexAddr t x i=>P5 t x i
 | .index t x i=>Sk t x i
 | .extract x k=>QW x k
 | .call c=>acF c
 |_=>OH
end
abbrev Hf:=List D->T Row->Nat->Option (Bool×T Row×Nat)
abbrev Hd:=List (Nat×Hf)
def Js:Hd->Nat->Option Hf
 |[],_=>none
 |(j,h)::l,i=>bif Nat.beq j i then some h else Js l i
abbrev Ev:=Hd->Bool->Code->dC->Option (Exit×dC)
abbrev xR:=(D ⊕ List PanicEntry)×T Row×Nat
abbrev uc:=FuncId->List D->T Row->Nat->Option xR
abbrev wV:=FuncId->List D->T Row->Nat->Option cy
abbrev Es:=Option (Option (List PanicEntry)×dC)
structure Ctx where
 nR:FuncId->Option (Func×Code)
 known:FuncId->List D->Option D:=λ_ _=>none
 IJ:FuncId->List D->T Row->Nat->Option xR:=λ_ _ _ _=>none
 deep:List Nat:=[]
def Uc(t:T D):Option Nat->D->Option (T D)
 |none,_=>some t
 |some i,d=>t.put i (some d)
def Jt(m:T Row):List (Nat×Option Row)->Option (T Row)
 |[]=>some m
 |(i,r)::us=>match m.put i r with
  |some m'=>Jt m' us
  |none=>none
def Gy(c:dC)(dst:Option Nat)(d:D)(m:T Row)(nx:Nat):Option dC:=match Uc c.env dst d with
 |some env=>some ⟨env,m,nx⟩
 |none=>none
def NN(c:dC)(dst:Option Nat)(p:cy):Option dC:=match Jt c.mem p.bF with
 |some m=>Gy c dst p.val m (c.nx+p.new)
 |none=>none
def Ka:Option dC->Es
 |some c=>some (none,c)
 |none=>none
def adK(c:dC)(dst:Option Nat):Option cy->Es
 |some p=>Ka (NN c dst p)
 |none=>none
def Ud(c:dC)(dst:Option Nat):Option xR->Es
 |some (.inl d,m,nx)=>Ka (Gy c dst d m nx)
 |some (.inr ch,m,nx)=>some (some ch,⟨c.env,m,nx⟩)
 |none=>none
def atX(c:dC)(dst:Option Nat):Option (Bool×T Row×Nat)->Es
 |some (b,m,nx)=>Ka (Gy c dst (.s (.bool b)) m nx)
 |none=>none
abbrev Hh:=Program->Hd->uc->Option Nat->dC->Es
def fK(k:jk):Hh:=λP _ _ dst c=>adK c dst (k P (kq c.env) c.mem c.nx)
def Sm(i:Nat)(args:List D):Hh:=λ_ hd _ dst c=>match Js hd i,c.mem.get i with
 |some h,some (.lp .ready)=>atX c dst (h args c.mem c.nx)
 |_,_=>none
def abC(f:Operand)(xs:Array Operand):Hh:=λP hd call dst c=>match kq c.env f with
 | .fn (.func g) fs cs=>Ud c dst (call g (fs++xs.toList.map (kq c.env)++cs) c.mem c.nx)
 | .yl i=>Sm i (xs.toList.map (kq c.env)) P hd call dst c
 |_=>none
def abD(x:Operand):Hh:=λ_ _ _ _ c=>match kq c.env x with
 | .s (.iface t v)=>some (some [{ v:=.iface t v,recovered:=false }],c)
 |_=>none
def acG(c:Call):Hh:=match c.callee with
 | .value f=>abC f c.args
 | .builtin b=>fK (H6 b c.args c.argTypes)
 |_=>fK OH
def Kb:Op->Hh
 | .call c=>acG c
 | .panic x=>abD x
 |o=>fK (OI o)
def MS(ops:Array Oper)(j:Nat)(b:Bool)(c:dC):Option Bool:=match ops[j]? with
 |some o=>match o.dst with
  |some t=>nF (getD c.env t) b
  |none=>none
 |none=>none
def apR(dst:Option Nat)(c:dC):Es:=Ka (Gy c dst Ai c.mem c.nx)
def Vc(P:Program)(hd:Hd)(call:uc)(ops:Array Oper)(o:Oper)(c:dC):Es:=match o.guard with
 |none=>Kb o.op P hd call o.dst c
 |some (j,b)=>match MS ops j b c with
  |none=>none
  |some false=>apR o.dst c
  |some true=>Kb o.op P hd call o.dst c
def BZ(P:Program)(hd:Hd)(call:uc)(ops:Array Oper):List Oper->dC->Option (Exit×dC)
 |[],c=>some (.normal,c)
 |o::os,c=>match Vc P hd call ops o c with
  |some (none,c')=>BZ P hd call ops os c'
  |some (some ch,c')=>some (.panic ch,c')
  |none=>none
abbrev OJ:=Program->wV->dC->Option cy
def gK(k:jk):OJ:=λP _ c=>k P (kq c.env) c.mem c.nx
def abE(f:Operand)(xs:Array Operand):OJ:=λ_ call c=>match kq c.env f with
 | .fn (.func g) fs cs=>call g (fs++xs.toList.map (kq c.env)++cs) c.mem c.nx
 |_=>none
def acH(c:Call):OJ:=match c.callee with
 | .value f=>abE f c.args
 | .builtin b=>gK (H6 b c.args c.argTypes)
 |_=>gK OH
def OK:Op->OJ
 | .call c=>acH c
 |o=>gK (OI o)
def Th(P:Program)(call:wV)(ops:Array Oper)(o:Oper)(c:dC):Option cy:=match o.guard with
 |none=>OK o.op P call c
 |some (j,b)=>match MS ops j b c with
  |none=>none
  |some false=>some ⟨Ai,[],[],0⟩
  |some true=>OK o.op P call c
def FN(P:Program)(call:wV)(ops:Array Oper):List Oper->dC->Option (List cy×dC)
 |[],c=>some ([],c)
 |o::os,c=>match Th P call ops o c with
  |some p=>match NN c o.dst p with
   |some c'=>match FN P call ops os c' with
    |some (ps,c'')=>some (p::ps,c'')
    |none=>none
   |none=>none
  |none=>none
def meets(l:List Nat):List Nat->Bool
 |[]=>false
 |x::xs=> !Gb x l||meets l xs
def abF(ps:List cy)(q:Nat×Nat):Bool:=match ps[q.1]?,ps[q.2]? with
 |some a,some b=> !meets b.rd a.wr&&(!meets b.wr a.wr&& !meets a.rd b.wr)
 |_,_=>false
def Dg(ps:List cy):List (Nat×Nat)->Bool
 |[]=>true
 |q::l=>abF ps q&&Dg ps l
def Ti(P:Program)(hd:Hd)(I1:uc)(Gc:wV)(ops:Array Oper)(c:dC):Option (List (Nat×Nat))->Option (Exit×dC)
 |some cf=>match FN P Gc ops ops.toList c with
  |some (ps,c')=>bif Dg ps cf then some (.normal,c') else none
  |none=>bif Dw ops then match FN P Gc ops (ops.toList.take (ops.size - 1)) c with
   |some (ps,c')=>bif Dg ps cf then BZ P hd I1 ops (ops.toList.drop (ops.size - 1)) c' else none
   |none=>none
   else none
 |none=>none
def FP:Nat->List D->T D->Option (T D)
 |_,[],t=>some t
 |k,d::ds,t=>match t.put k (some d) with
  |some C=>FP (k+1) ds C
  |none=>none
def Fs:T D->List Tmp->List D->Option (T D)
 |t,p::ps,d::ds=>match t.put p (some d) with
  |some C=>Fs C ps ds
  |none=>none
 |t,_,_=>some t
def Ue(P:Program)(c:dC):ResultVar->Option D
 | .tmp t=>some (getD c.env t)
 | .cell a t=>match getD c.env a with
  | .rp i off=>match c.mem.get i with
   |some (.cells cs _)=>bif a8 P t&&pf (off+P.cellsOf t) cs then some (Dz P t (vI cs off)) else none
   |_=>none
  | .pt cs=>bif a8 P t&&pf (P.cellsOf t) cs then some (Dz P t cs) else none
  |_=>none
def Ju(P:Program)(c:dC):List ResultVar->Option (List D)
 |[]=>some []
 |r::rs=>match Ue P c r with
  |some d=>match Ju P c rs with
   |some ds=>some (d::ds)
   |none=>none
  |none=>none
def MT(P:Program)(fn:Func)(s:dC):Option xR:=match Ju P s fn.results.toList with
 |some ds=>some (.inl (Av ds),s.mem,s.nx)
 |none=>none
def abG(P:Program)(fn:Func):Option (Exit×dC)->Option xR
 |some (.normal,s)=>MT P fn s
 |some (.ret,s)=>MT P fn s
 |some (.panic ch,s)=>some (.inr ch,s.mem,s.nx)
 |_=>none
def B0(P:Program)(x:Ctx)(ev:Ev)(hd:Hd)(f:FuncId)(args:List D)(m:T Row)(nx:Nat):Option xR:=
 match x.nR f with
 |none=>none
 |some (fn,c)=>bif pf args.length (replicate fn.ntmps .u) then
  match FP 0 args .leaf with
  |none=>none
  |some t=>abG P fn (ev hd true c ⟨t,m,nx⟩)
  else none
def uK:Nat->D->Bool
 |0,_=>false
 |n+1,d=>match d with
  | .rs .. | .rp .. | .mp _ | .sc .. | .yl _=>false
  | .dw _ d=>uK n d
  | .agg cs | .bu cs | .pt cs | .sl cs _=>cs.all (uK n)
  | .fn _ fs cs=>fs.all (uK n)&&cs.all (uK n)
  | .im es=>es.all λx=>uK n x.2
  |_=>true
def lj{α β:Type}(f:α->Option (β×List Nat)):List α->Option (List β×List Nat)
 |[]=>some ([],[])
 |x::xs=>match f x with
  |none=>none
  |some y=>match lj f xs with
   |none=>none
   |some ys=>some (y.1::ys.1,y.2++ys.2)
def dQ(P:Program)(m:T Row):Nat->D->Option (D×List Nat)
 |0,_=>none
 |n+1,d=>match d with
  | .mp i=>match m.get i with
   |some (.map es)=>(lj (λx=>(dQ P m n x.2).map λy=>((x.1,y.1),y.2)) es).map λx=>(.im x.1,i::x.2)
   |_=>none
  | .im es=>(lj (λx=>(dQ P m n x.2).map λy=>((x.1,y.1),y.2)) es).map λx=>(.im x.1,x.2)
  | .rs i off k=>match m.get i with
   |some (.cells cs e)=>(lj (dQ P m n) ((cs.drop off).take (k*P.cellsOf e))).map λx=>(.sl x.1 k,i::x.2)
   |_=>none
  | .rp i off=>match m.get i with
   |some (.cells cs _)=>(lj (dQ P m n) (cs.drop off)).map λx=>(.pt x.1,i::x.2)
   |_=>none
  | .dw true d=>(dQ P m n d).map λx=>(.dw true x.1,x.2)
  | .dw false _=>some (.dw false .u,[])
  | .agg cs=>(lj (dQ P m n) cs).map λx=>(.agg x.1,x.2)
  | .bu cs=>(lj (dQ P m n) cs).map λx=>(.bu x.1,x.2)
  | .sl cs k=>(lj (dQ P m n) cs).map λx=>(.sl x.1 k,x.2)
  | .pt cs=>(lj (dQ P m n) cs).map λx=>(.pt x.1,x.2)
  | .fn f fs cs=>match lj (dQ P m n) fs with
   |none=>none
   |some x=>(lj (dQ P m n) cs).map λy=>(.fn f x.1 y.1,x.2++y.2)
  | .s v=>some (.s v,[])
  | .ub=>some (.ub,[])
  | .u=>some (.u,[])
  | .z=>some (.z,[])
  | .sc .. | .yl _=>none
def depth:Nat:=12
def Nk(P:Program)(m:T Row)(d:D):Option (D ⊕ (List D×Nat×TypeId)):=match dQ P m depth d with
 |some (r,_)=>some (.inl r)
 |none=>none
def Tj(P:Program):Option xR->Option (D ⊕ (List D×Nat×TypeId))
 |some (.inl (.rs i 0 k),m,_)=>match m.get i with
  |some (.cells es t)=>bif es.all (uK depth) then some (.inr (es,k,t)) else Nk P m (.rs i 0 k)
  |_=>none
 |some (.inl d,m,_)=>Nk P m d
 |_=>none
def Ak(P:Program)(x:Ctx)(ev:Ev)(f:FuncId)(args:List D):Option (D ⊕ (List D×Nat×TypeId)):=Tj P (B0 P x ev [] f args .leaf 0)
def apS(nx:Nat):Option (D ⊕ (List D×Nat×TypeId))->Option cy
 |some (.inl r)=>some ⟨r,[],[],0⟩
 |some (.inr (es,k,t))=>some ⟨.rs nx 0 k,[(nx,some (.cells es t))],[],1⟩
 |none=>none
def Nl(bR:List Nat):Option (D ⊕ (List D×Nat×TypeId))->Option cy
 |some (.inl r)=>bif r.ld then some ⟨r,[],bR,0⟩ else none
 |_=>none
def Tk(P:Program)(x:Ctx)(ev:Ev):wV:=λf args m nx=>match x.known f args with
 |some r=>some ⟨r,[],[],0⟩
 |none=>bif args.all (uK depth) then apS nx (Ak P x ev f args)
  else match lj (dQ P m depth) args with
   |none=>none
   |some (gf,bR)=>match x.known f gf with
    |some r=>Nl bR (some (.inl r))
    |none=>Nl bR (Ak P x ev f gf)
def Et(f:Nat):List Nat->Bool
 |[]=>false
 |g::l=>bif Nat.beq g f then true else Et f l
def Gd:Nat->D->Bool
 |0,_=>false
 |n+1,d=>match d with
  | .s _ | .ub | .z=>true
  | .agg cs | .bu cs=>cs.all (Gd n)
  |_=>false
def acI(x:Ctx)(f:FuncId):Option (List D×List Nat)->Option D
 |some (args,_)=>match x.known f args with
  |some r=>bif Gd depth r then some r else none
  |none=>none
 |none=>none
def Nn(P:Program)(x:Ctx)(ev:Ev)(hd:Hd):uc:=λf args m nx=>match x.known f args with
 |some r=>some (.inl r,m,nx)
 |none=>match x.IJ f args m nx with
  |some r=>some r
  |none=>match bif Et f x.deep then acI x f (lj (dQ P m depth) args) else none with
   |some r=>some (.inl r,m,nx)
   |none=>B0 P x ev hd f args m nx
def I2(il:Nat)(b:Bool)(k:RS)(s:dC):Option (Bool×T Row×Nat):=match s.mem.get il with
 |some (.lp .busy)=>match s.mem.put il (some (.lp k)) with
  |some m=>some (b,m,s.nx)
  |none=>none
 |_=>none
def abH(il:Nat):Option (Exit×dC)->Option (Bool×T Row×Nat)
 |some (.normal,s)=>I2 il true .ready s
 |some (.ret,s)=>I2 il false (.done .ret) s
 |some (.exit i,s)=>I2 il false (.done (.exit i)) s
 |_=>none
def abI(ev:Ev)(hd:Hd)(il:Nat)(body:Code):Option (Exit×dC)->Option (Bool×T Row×Nat)
 |some (.normal,s)=>match s.mem.get il with
  |some (.lp .ready)=>match s.mem.put il (some (.lp .busy)) with
   |some m=>abH il (ev hd false body ⟨s.env,m,s.nx⟩)
   |none=>none
  |_=>none
 |_=>none
def IK(ev:Ev)(hd:Hd)(il:Nat)(env:T D)(ps:List Tmp)(assign body:Code):Hf:=λargs m nx=>
 bif Nat.beq args.length ps.length then match Fs env ps args with
  |some t=>abI ev hd il body (ev hd false assign ⟨t,m,nx⟩)
  |none=>none
 else none
def Jv(il:Nat)(env:T D)(m:T Row)(nx:Nat)(e:Exit):Option (Exit×dC):=match m.put il none with
 |some m'=>some (e,⟨env,m',nx⟩)
 |none=>none
def abJ(il:Nat)(env:T D):Option xR->Option (Exit×dC)
 |some (.inl _,m,nx)=>match m.get il with
  |some (.lp .ready)=>Jv il env m nx .normal
  |some (.lp (.done .ret))=>Jv il env m nx .ret
  |some (.lp (.done (.exit i)))=>Jv il env m nx (.exit i)
  |_=>none
 |_=>none
abbrev wW:=Program->Ctx->Ev->Hd->Bool->dC->Option (Exit×dC)
def acJ:wW:=λ_ _ _ _ _ s=>some (.normal,s)
def anp(ops:Array Oper):Bool->wW
 |false=>λP x ev hd _ s=>BZ P hd (Nn P x ev hd) ops ops.toList s
 |true=>λP x ev hd _ s=>Ti P hd (Nn P x ev hd) (Tk P x ev) ops s (ct ops)
def No(ev:Ev)(hd:Hd)(rf:Bool)(b:Code):Option (Exit×dC)->Option (Exit×dC)
 |some (.normal,s)=>ev hd rf b s
 |r=>r
def atY(a b:Code):wW:=λ_ _ ev hd rf s=>No ev hd rf b (ev hd rf a s)
def apT(c:Operand)(a b:Code):wW:=λ_ _ ev hd rf s=>match kq s.env c with
 | .s (.bool true)=>ev hd rf a s
 | .s (.bool false)=>ev hd rf b s
 |_=>none
def Tl(id:Nat):Option (Exit×dC)->Option (Exit×dC)
 |some (.exit i,s)=>bif Nat.beq i id then some (.normal,s) else some (.exit i,s)
 |r=>r
def aoP(id:Nat)(b:Code):wW:=λ_ _ ev hd rf s=>Tl id (ev hd rf b s)
def adL:Option (Exit×dC)->Option (Exit×dC)
 |some (.goto _,_)=>none
 |r=>r
def aoQ(b:Code):wW:=λ_ _ ev hd rf s=>adL (ev hd rf b s)
def apU(b:Code):wW:=λ_ _ ev hd rf s=>No ev hd rf (.loop b) (ev hd rf b s)
def So(g:Operand)(ps:Array Tmp)(assign body:Code):wW:=λP x ev hd rf s=>bif rf then match kq s.env g with
 | .fn (.func f) fs cs=>match s.mem.put s.nx (some (.lp .ready)) with
  |none=>none
  |some C=>abJ s.nx s.env (B0 P x ev ((s.nx,IK ev hd s.nx s.env ps.toList assign body)::hd) f (fs++[.yl s.nx]++cs) C (s.nx+1))
 |_=>none
 else none
def acK(e:Exit):wW:=λ_ _ _ _ _ s=>some (e,s)
def apV:wW:=λ_ _ _ _ _ _=>none
def codeF:Code->wW
 | .skip=>acJ
 | .region _ ops dr=>anp ops dr
 | .seq a b=>atY a b
 | .cond c a b=>apT c a b
 | .block id b=>aoP id b
 | .scope b=>aoQ b
 | .loop b=>apU b
 | .rangeFunc g ps assign body=>So g ps assign body
 | .exit id=>acK (.exit id)
 | .label _=>acJ
 | .ret=>acK .ret
 |_=>apV
def nu(P:Program)(x:Ctx):Nat->Ev
 |0=>λ_ _ _ _=>none
 |n+1=>λhd rf c s=>codeF c P x (nu P x n) hd rf s
end Go.Abs
end
