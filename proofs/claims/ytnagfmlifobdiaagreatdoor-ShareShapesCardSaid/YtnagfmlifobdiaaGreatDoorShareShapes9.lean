/- Part 9. -/
import Derived.Test.YtnagfmlifobdiaaGreatDoorShareShapes4
set_option linter.all false
namespace Go.Abs
section
variable{P:Program}{Y:gn}{rf:Bool}{ops:Array Oper}{dr:Bool}{cf:List (Nat×Nat)}{Q:Exit->St->Prop}{rest:List Oper}{env:Env}{m:Mem}{nx:Nat}{tr:mP}{t:Nat}{op:Op}{ty:TypeId}{pos:String}{after:Array Edge}{v:D}{rd:List Nat}
theorem Eu{d:Option Nat}{e:dJ}(he:du P (bn env op) m nx op e)(ha:gR env op.operands.toList)(K:ax P Y ops dr cf Q rest (St.put ⟨env,cQ m e.a7,nx+e.new⟩ d e.val) (tr++[(e.rd,e.a7.map (·.1))])):
 ax P Y ops dr cf Q (⟨d,op,ty,pos,after,none⟩::rest) ⟨env,m,nx⟩ tr:=.inr ⟨.inl rfl,qo ha,e,he,K⟩
theorem gE(he:du P (bn env op) m nx op ⟨True,v,[],rd,0⟩)(ha:gR env op.operands.toList)(K:ax P Y ops dr cf Q rest ⟨up env t v,m,nx⟩ (tr++[(rd,[])])):
 ax P Y ops dr cf Q (⟨some t,op,ty,pos,after,none⟩::rest) ⟨env,m,nx⟩ tr:=Eu he ha K
theorem XL{row:Row}(he:du P (bn env op) m nx op ⟨True,v,[(nx,some row)],rd,1⟩)(ha:gR env op.operands.toList)(K:ax P Y ops dr cf Q rest ⟨up env t v,up m nx (some row),nx+1⟩ (tr++[(rd,[nx])])):
 ax P Y ops dr cf Q (⟨some t,op,ty,pos,after,none⟩::rest) ⟨env,m,nx⟩ tr:=Eu he ha K
theorem amc{i:Nat}{row:Row}(he:du P (bn env op) m nx op ⟨True,v,[(i,none),(nx,some row)],rd,1⟩)(ha:gR env op.operands.toList)(K:ax P Y ops dr cf Q rest ⟨up env t v,up (up m i none) nx (some row),nx+1⟩ (tr++[(rd,[i,nx])])):
 ax P Y ops dr cf Q (⟨some t,op,ty,pos,after,none⟩::rest) ⟨env,m,nx⟩ tr:=Eu he ha K
theorem amd{i:Nat}(he:du P (bn env op) m nx op ⟨True,v,[(i,none)],rd,0⟩)(ha:gR env op.operands.toList)(K:ax P Y ops dr cf Q rest ⟨up env t v,up m i none,nx⟩ (tr++[(rd,[i])])):
 ax P Y ops dr cf Q (⟨some t,op,ty,pos,after,none⟩::rest) ⟨env,m,nx⟩ tr:=Eu he ha K
theorem XM{i:Nat}{row:Option Row}(he:du P (bn env op) m nx op ⟨True,v,[(i,row)],rd,0⟩)(ha:gR env op.operands.toList)(K:ax P Y ops dr cf Q rest ⟨env,up m i row,nx⟩ (tr++[(rd,[i])])):
 ax P Y ops dr cf Q (⟨none,op,ty,pos,after,none⟩::rest) ⟨env,m,nx⟩ tr:=Eu he ha K
variable{x y z:Operand}{src dst tt u p:TypeId}{a b:ByteArray}{l:List Int}{i off n:Nat}{cs es:List D}{k k':IntKind}
theorem jG(hx:(opd env x).core=.s (.string a))(hy:(opd env y).core=.s (.string b))(h:a.size+b.size<=maxLen):du P (bn env (.binOp .add tt x y p)) m nx (.binOp .add tt x y p) ⟨True,.s (.string (a++b)),[],[],0⟩:=.add tt p x y a b hx hy h
theorem Ue{e:TypeId}(hx:(opd env x).core=.rs i off n)(hi:m i=some (.cells cs e))(hn:l.length=n)(hl:(cs.drop off).take n=la l)(hs:p0 P src)(hd:fA P dst=true):du P (bn env (.convert src dst x)) m nx (.convert src dst x) ⟨True,.s (.string (mkStr l)),[],[i],0⟩:=by
 subst hn;exact .zU src dst x l i off cs e hx hi hl hs hd
theorem ab9{s:Operand}{e:TypeId}(hs:(opd env s).core=.z)(hx:(opd env x).core=.s (.string b))(he:aE P tt=e)(ht:p0 P tt)(hu:fA P u=true)(hb:b.size<=140737488355328)(h1:P.bytesOf e=1):
 du P (bn env (.call { callee:=.builtin .append,args:= #[s,x],argTypes:= #[tt,u] })) m nx (.call { callee:=.builtin .append,args:= #[s,x],argTypes:= #[tt,u] }) ⟨True,.rs nx 0 b.size,[(nx,some (.cells (gf b) e))],[],1⟩:=by
 subst he;exact .xN _ s x tt u b rfl hs hx ht hu (by unfold maxLen;omega) (by rw[h1];omega)
theorem ad1{s:Operand}{e:TypeId}(hs:(opd env s).core=.rs i off n)(hx:(opd env x).core=.s (.string b))(hi:m i=some (.cells cs e))(he:aE P tt=e)(ht:p0 P tt)(hu:fA P u=true)(hf:off+n=cs.length)(hb:n+b.size<=140737488355328)(h1:P.bytesOf e=1):
 du P (bn env (.call { callee:=.builtin .append,args:= #[s,x],argTypes:= #[tt,u] })) m nx (.call { callee:=.builtin .append,args:= #[s,x],argTypes:= #[tt,u] }) ⟨True,.rs nx 0 (n+b.size),[(i,none),(nx,some (.cells (cs.drop off++gf b) e))],[i],1⟩:=by
 subst he;exact .xQ _ s x tt u b i off n cs rfl hs hx hi ht hu hf (by unfold maxLen;omega) (by rw[h1];omega)
theorem afV{s:Operand}{r:Row}(hs:(opd env s).core=.rs i off n)(hi:m i=some r)(hn:0<n):du P (bn env (.call { callee:=.builtin .unsafeSliceData,args:= #[s],argTypes:= #[tt] })) m nx (.call { callee:=.builtin .unsafeSliceData,args:= #[s],argTypes:= #[tt] }) ⟨True,.rp i off,[],[i],0⟩:=.yf _ s tt i off n r rfl hs hi hn
theorem ahh{s:Operand}{e:TypeId}(hp:(opd env x).core=.rp i off)(hn:(opd env y).core=.s (.int k n))(C:l.length=n)(hi:m i=some (.cells cs e))(hl:(cs.drop off).take n=la l)(h0:0<n)(ht:P.underlying tt=some (.pointer e))(he:P.cellsOf e=1)(hm:n<=maxLen)(hr:∀ x∈l,0<=x/\x<256):
 du P (bn env (.call { callee:=.builtin .unsafeString,args:= #[x,y],argTypes:= #[tt,u] })) m nx (.call { callee:=.builtin .unsafeString,args:= #[x,y],argTypes:= #[tt,u] }) ⟨True,.s (.string (mkStr l)),[(i,none)],[i],0⟩:=by
 subst C;exact .yC _ x y tt u e l i off cs k rfl hp hn hi hl (List.length_pos_iff.1 h0) ht he hm hr
theorem ahi{d:D}(hb:Ad tt=true)(hx:((opd env x).core).cells=[.s (.pointer none),d])(hd:d.one=true)(hs:P.cellsOf tt=2):du P (bn env (.box tt x)) m nx (.box tt x) ⟨True,.rp nx 0,[(nx,some (.bs false d tt))],[],1⟩:=.Af tt x d hb hx hd hs
theorem Hy{q:Bool}{d:D}{T:TypeId}(ha:(opd env x).core=.rp i 1)(hi:m i=some (.bs q d T))(ht:aO P tt=true)(hg:bI P tt=false):du P (bn env (.load tt x)) m nx (.load tt x) ⟨True,d,[],[i],0⟩:=.zW tt x i q d T ha hi ht hg
theorem Tk{q:Bool}{d d':D}{T:TypeId}(ha:(opd env x).core=.rp i 1)(hi:m i=some (.bs q d T))(ht:aO P tt=true)(hg:bI P tt=false)(hy:(opd env y).core=d')(h1:d'.one=true):du P (bn env (.store tt x y)) m nx (.store tt x y) ⟨True,.bd [],[(i,some (.bs q d' T))],[i],0⟩:=by
 subst hy;exact .xR tt x y i q d T ha hi ht hg h1
end
end Go.Abs
