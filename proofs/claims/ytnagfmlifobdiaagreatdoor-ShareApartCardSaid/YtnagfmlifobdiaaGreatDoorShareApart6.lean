/- Part 6. -/
import Derived.Test.YtnagfmlifobdiaaGreatDoorShareApart4
set_option linter.all false
set_option maxHeartbeats 0
set_option maxRecDepth 10000
namespace Go.Abs
open List
section
variable{row:Row}{s:Operand}{e:TypeId}{d:D}{q:Bool}
section
variable{P:Program}{Y:iu}{rf:Bool}{ops:Array Oper}{dr:Bool}{cf:List (Nat×Nat)}{Q:Exit->St->Prop}{rest:List Oper}{env:Env}{m:Mem}{nx:Nat}{tr:pk}{t:Nat}{op:Op}{ty:TypeId}{pos:String}{after:Array Edge}{v:D}{rd:List Nat}
def IH{d:Option Nat}{e:eC}(he:ez P (bO env op) m nx op e)(ha:je env op.operands.toList)(K:aE P Y ops dr cf Q rest (St.put ⟨env,dx m e.bF,nx+e.new⟩ d e.val) (tr++[(e.rd,e.bF.map (·.1))])):
 aE P Y ops dr cf Q (⟨d,op,ty,pos,after,none⟩::rest) ⟨env,m,nx⟩ tr:=.inr ⟨.inl rfl,tM ha,e,he,K⟩
def zh(he:ez P (bO env op) m nx op ⟨True,v,[],rd,0⟩)(ha:je env op.operands.toList)(K:aE P Y ops dr cf Q rest ⟨up env t v,m,nx⟩ (tr++[(rd,[])])):
 aE P Y ops dr cf Q (⟨some t,op,ty,pos,after,none⟩::rest) ⟨env,m,nx⟩ tr:=IH he ha K
def TY(he:ez P (bO env op) m nx op ⟨True,v,[(nx,some row)],rd,1⟩)(ha:je env op.operands.toList)(K:aE P Y ops dr cf Q rest ⟨up env t v,up m nx (some row),nx+1⟩ (tr++[(rd,[nx])])):
 aE P Y ops dr cf Q (⟨some t,op,ty,pos,after,none⟩::rest) ⟨env,m,nx⟩ tr:=IH he ha K
def atS{i:Nat}(he:ez P (bO env op) m nx op ⟨True,v,[(i,none),(nx,some row)],rd,1⟩)(ha:je env op.operands.toList)(K:aE P Y ops dr cf Q rest ⟨up env t v,up (up m i none) nx (some row),nx+1⟩ (tr++[(rd,[i,nx])])):
 aE P Y ops dr cf Q (⟨some t,op,ty,pos,after,none⟩::rest) ⟨env,m,nx⟩ tr:=IH he ha K
def atT{i:Nat}(he:ez P (bO env op) m nx op ⟨True,v,[(i,none)],rd,0⟩)(ha:je env op.operands.toList)(K:aE P Y ops dr cf Q rest ⟨up env t v,up m i none,nx⟩ (tr++[(rd,[i])])):
 aE P Y ops dr cf Q (⟨some t,op,ty,pos,after,none⟩::rest) ⟨env,m,nx⟩ tr:=IH he ha K
def adE{i:Nat}{row:Option Row}(he:ez P (bO env op) m nx op ⟨True,v,[(i,row)],rd,0⟩)(ha:je env op.operands.toList)(K:aE P Y ops dr cf Q rest ⟨env,up m i row,nx⟩ (tr++[(rd,[i])])):
 aE P Y ops dr cf Q (⟨none,op,ty,pos,after,none⟩::rest) ⟨env,m,nx⟩ tr:=IH he ha K
variable{x y z:Operand}{src dst tt u p:TypeId}{a b:ByteArray}{l:List Int}{i off n:Nat}{cs es:List D}{k k':IntKind}
def apF(hx:(opd env x).core=.s (.string a))(hy:(opd env y).core=.s (.string b))(h:a.size+b.size<=maxLen):ez P (bO env (.binOp .add tt x y p)) m nx (.binOp .add tt x y p) ⟨True,.s (.string (a++b)),[],[],0⟩:=.add tt p x y a b hx hy h
def anI{h c:Operand}(hx:(opd env x).core=.sl es n)(hh:(opd env h).core=.s (.int k n))(hc:(opd env c).core=.s (.int k' n))(ht:bH P tt=true)(hn:n*P.cellsOf (aT P tt)=es.length):ez P (bO env (.slice tt x none (some h) (some c))) m nx (.slice tt x none (some h) (some c)) ⟨True,.sc es n,[],[],0⟩:=.cut tt x h c es n k k' hx hh hc ht hn
def aiJ(hs:(opd env s).core=.z)(hx:(opd env x).core=.s (.string b))(he:aT P tt=e)(ht:Ee P tt)(hu:ji P u=true)(hb:b.size<=140737488355328)(h1:P.bytesOf e=1):
 ez P (bO env (.call { callee:=.builtin .append,args:= #[s,x],argTypes:= #[tt,u] })) m nx (.call { callee:=.builtin .append,args:= #[s,x],argTypes:= #[tt,u] }) ⟨True,.rs nx 0 b.size,[(nx,some (.cells (gY b) e))],[],1⟩:=by
 subst he;exact .Bn _ s x tt u b rfl hs hx ht hu (by unfold maxLen;omega) (by rw[h1];omega)
def akS(hs:(opd env s).core=.rs i off n)(hx:(opd env x).core=.s (.string b))(hi:m i=some (.cells cs e))(he:aT P tt=e)(ht:Ee P tt)(hu:ji P u=true)(hf:off+n=cs.length)(hb:n+b.size<=140737488355328)(h1:P.bytesOf e=1):
 ez P (bO env (.call { callee:=.builtin .append,args:= #[s,x],argTypes:= #[tt,u] })) m nx (.call { callee:=.builtin .append,args:= #[s,x],argTypes:= #[tt,u] }) ⟨True,.rs nx 0 (n+b.size),[(i,none),(nx,some (.cells (cs.drop off++gY b) e))],[i],1⟩:=by
 subst he;exact .Bt _ s x tt u b i off n cs rfl hs hx hi ht hu hf (by unfold maxLen;omega) (by rw[h1];omega)
def alO{news:List D}{C sz:Nat}{pp:Prop}(hs:(opd env s).core=.sc es n)(he:aT P tt=e)(hc:P.cellsOf e=sz)(hx:mS m sz (opd env x).core=some (pp,rd,C,news))(hp:pp)(ht:bH P tt=true)(hn:n*sz=es.length)(hk:0<C)(hz:0<sz)(hm:n+C<=maxLen)(hb:(n+C)*P.bytesOf e<=140737488355328):
 ez P (bO env (.call { callee:=.builtin .append,args:= #[s,x],argTypes:= #[tt,tt] })) m nx (.call { callee:=.builtin .append,args:= #[s,x],argTypes:= #[tt,tt] }) ⟨True,.rs nx 0 (n+C),[(nx,some (.cells (es++news) e))],rd,1⟩:=by
 subst he;subst hc;exact .Du _ s x tt es news n C pp rd rfl hs hx hp ht hn hk hz hm hb
def anc{r:Row}(hs:(opd env s).core=.rs i off n)(hi:m i=some r)(hn:0<n):ez P (bO env (.call { callee:=.builtin .unsafeSliceData,args:= #[s],argTypes:= #[tt] })) m nx (.call { callee:=.builtin .unsafeSliceData,args:= #[s],argTypes:= #[tt] }) ⟨True,.rp i off,[],[i],0⟩:=.BF _ s tt i off n r rfl hs hi hn
def aoI{s:Operand}(hp:(opd env x).core=.rp i off)(hn:(opd env y).core=.s (.int k n))(C:l.length=n)(hi:m i=some (.cells cs e))(hl:(cs.drop off).take n=tT l)(h0:0<n)(ht:P.underlying tt=some (.pointer e))(he:P.cellsOf e=1)(hm:n<=maxLen)(hr:∀ x∈l,0<=x/\x<256):
 ez P (bO env (.call { callee:=.builtin .unsafeString,args:= #[x,y],argTypes:= #[tt,u] })) m nx (.call { callee:=.builtin .unsafeString,args:= #[x,y],argTypes:= #[tt,u] }) ⟨True,.s (.string (mkStr l)),[(i,none)],[i],0⟩:=by
 subst C;exact .BW _ x y tt u e l i off cs k rfl hp hn hi hl (length_pos_iff.1 h0) ht he hm hr
def aoJ(hb:BU tt=true)(hx:((opd env x).core).cells=[.s (.pointer none),d])(hd:d.one=true)(hs:P.cellsOf tt=2):ez P (bO env (.box tt x)) m nx (.box tt x) ⟨True,.rp nx 0,[(nx,some (.bs false d tt))],[],1⟩:=.DN tt x d hb hx hd hs
def LO{T:TypeId}(ha:(opd env x).core=.rp i 1)(hi:m i=some (.bs q d T))(ht:a8 P tt=true)(hg:bX P tt=false):ez P (bO env (.load tt x)) m nx (.load tt x) ⟨True,d,[],[i],0⟩:=.Dv tt x i q d T ha hi ht hg
def Y1{d d':D}{T:TypeId}(ha:(opd env x).core=.rp i 1)(hi:m i=some (.bs q d T))(ht:a8 P tt=true)(hg:bX P tt=false)(hy:(opd env y).core=d')(h1:d'.one=true):ez P (bO env (.store tt x y)) m nx (.store tt x y) ⟨True,.bu [],[(i,some (.bs q d' T))],[i],0⟩:=by
 subst hy;exact .Bu tt x y i q d T ha hi ht hg h1
end
end
end Go.Abs
