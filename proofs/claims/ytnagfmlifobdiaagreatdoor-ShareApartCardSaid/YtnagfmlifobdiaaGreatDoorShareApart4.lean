/- Part 4. -/
import Derived.Test.YtnagfmlifobdiaaGreatDoorShareApart3
import Derived.IntWalk
import Derived.Test.YtnagfmlifobdiaaGreatDoorProg
set_option linter.all false
set_option maxHeartbeats 0
set_option maxRecDepth 10000
namespace Go.Abs
open List
section
variable{b:Code}{f:FuncId}{args:List D}{dr:Bool}{ops:Array Oper}
section
variable{P:Program}{Y:iu}{rf:Bool}{Q:Exit->St->Prop}{st:St}
def aab(c a b):AW P Y rf (.cond c a b) Q st=((opd st.env c).ask/\match (opd st.env c).core with
 | .s (.bool t)=>(t=true->AW P Y rf a Q st)/\(t=false->AW P Y rf b Q st)
 | .ub=>AW P Y rf a Q st/\AW P Y rf b Q st
 |_=>False):=rfl
def aac(I:St->Prop)(μ:St->Nat)(h0:I st)(h:∀ st',I st'->AW P Y rf b (jI (λJ=>∃ C,aP P J C/\I C/\μ C<μ st') Q) st'):AW P Y rf (.loop b) Q st:=⟨I,μ,h0,h⟩
def js.mono{m:Mem}{nx:Nat}{fq C:D->Mem->Nat->Prop}(h:js P f args m nx fq)(hp:∀ d m' nx',fq d m' nx'->C d m' nx'):js P f args m nx C:=
 ⟨h.1,λF β w vs hm hn hR=>(h.2 F β w vs hm hn hR).mono λe w' ⟨v,d,m',nx',β',h1,h2,J⟩=>⟨v,d,m',nx',β',h1,hp _ _ _ h2,J⟩⟩
def Bv.mono{K K':D->Mem->Nat->List Nat->List Nat->Prop}(hk:∀ d m nx rd wr,K d m nx rd wr->K' d m nx rd wr)(h:Bv P dr st f args K):Bv P dr st f args K':=by
 rcases h with⟨r,h1,h2⟩|⟨M,bR,r,h1,h2,C,J⟩|⟨es,n,t,h1,h2⟩|⟨h1,h2⟩|⟨r,bF,bR,h1,h2,C⟩|⟨es,n,t,bF,bR,h1,h2,C,J⟩
 .exact .inl ⟨r,h1,hk _ _ _ _ _ h2⟩
 .exact .inr (.inl ⟨M,bR,r,h1,h2,C,hk _ _ _ _ _ J⟩)
 .exact .inr (.inr (.inl ⟨es,n,t,h1,hk _ _ _ _ _ h2⟩))
 .exact .inr (.inr (.inr (.inl ⟨h1,h2.mono λd m nx h=>hk _ _ _ _ _ h⟩)))
 .exact .inr (.inr (.inr (.inr (.inl ⟨r,bF,bR,h1,h2,hk _ _ _ _ _ C⟩))))
 .exact .inr (.inr (.inr (.inr (.inr ⟨es,n,t,bF,bR,h1,h2,C,hk _ _ _ _ _ J⟩))))
class fG(Y:iu):Prop where
 mono:∀ l args m nx K K',(∀ d m nx,K d m nx->K' d m nx)->Y l args m nx K->Y l args m nx K'
instance:fG iV:=⟨λ_ _ _ _ _ _ _ h=>h⟩
instance{l:Nat}{xs:List (List D)}{I:Nat->Mem->Nat->Prop}{Stop:Mem->Nat->Prop}:fG (adF l xs I Stop):=⟨λ_ _ _ _ _ _ hk ⟨h1,k,h2,C,J⟩=>⟨h1,k,h2,C,λd m nx h=>hk _ _ _ (J d m nx h)⟩⟩
def nt.mono[fG Y]{o:Oper}{K K':St->List Nat->List Nat->Prop}(hk:∀ st rd wr,K st rd wr->K' st rd wr)(h:nt P Y ops dr o st K):nt P Y ops dr o st K':=by
 unfold nt at h ⊢;split at h
 .refine⟨h.1,?_⟩;have h:=h.2;split at h
  .exact h.mono λ_ _ _ _ _ h=>hk _ _ _ h
  .split at h
   .exact⟨h.1,fG.mono _ _ _ _ _ _ (λ_ _ _ h=>hk _ _ _ h) h.2⟩
   .split at h
    .exact⟨h.1,hk _ _ _ h.2⟩
    .exact h
 .split at h
  .exact h
  .split at h
   .rcases h with⟨r,h1,h2⟩|⟨h1,h2⟩
    .exact .inl ⟨r,h1,hk _ _ _ h2⟩
    .exact .inr ⟨λhc=>⟨(h1 hc).1,(h1 hc).2.mono λ_ _ _ _ _ h=>hk _ _ _ h⟩,λhc=>hk _ _ _ (h2 hc)⟩
   .split at h
    .exact⟨λhc=>⟨(h.1 hc).1,(h.1 hc).2.1,fG.mono _ _ _ _ _ _ (λ_ _ _ h=>hk _ _ _ h) (h.1 hc).2.2⟩,λhc=>hk _ _ _ (h.2 hc)⟩
    split at h
    .split at h
     .rename_i hc;rw[bi hc];exact⟨h.1,hk _ _ _ h.2⟩
     .rename_i hc;rw[ai hc];exact⟨λhc=>⟨(h.1 hc).1,(h.1 hc).2.1,hk _ _ _ (h.1 hc).2.2⟩,λhc=>hk _ _ _ (h.2 hc)⟩
    .exact⟨h.1,hk _ _ _ h.2⟩
def aE.mono[fG Y]{cf:List (Nat×Nat)}{Q C:Exit->St->Prop}(hq:∀ st,Q .normal st->C .normal st):∀ (l:List Oper) (st:St) (tr:pk),aE P Y ops dr cf Q l st tr->aE P Y ops dr cf C l st tr
 |[],st,tr,h=>⟨h.1,hq _ h.2⟩
 |o::l,st,tr,h=>h.elim (λh=>.inl (nt.mono (λst' rd wr h=>aE.mono hq l st' _ h) h)) λ⟨h1,h2,e,J,M⟩=>.inr ⟨h1,h2,e,J,aE.mono hq l _ _ M⟩
def zS:∀ (c:Code) {Y:iu} [fG Y] {rf:Bool} {Q C:Exit->St->Prop} {st:St},(∀ e st,Q e st->C e st)->AW P Y rf c Q st->AW P Y rf c C st:=by
 intro c
 induction c with
 |skip=>intro Y _ rf;exact λhq h=>hq _ _ h
 |ret=>intro Y _ rf;exact λhq h=>hq _ _ h
 |exit id=>intro Y _ rf;exact λhq h=>hq _ _ h
 |region id ops draw=>
  intro Y _ rf Q C st hq h;cases draw with
  |false=>exact aE.mono (hq .normal) _ _ _ h
  |true=>
   simp[AW] at h ⊢;split at h
   .exact h.elim (λh=>.inl (aE.mono (hq .normal) _ _ _ h)) λh=>.inr ⟨h.1,aE.mono (λst hs=>⟨hs.1,aE.mono (hq .normal) _ _ _ hs.2⟩) _ _ _ h.2⟩
   .exact h
 |seq a b J M=>
  intro Y _ rf Q C st hq h;refine J (λe st' h=>?_) h;cases e with
  |normal=>let⟨U,hg,hb⟩:=h;exact⟨U,hg,M hq hb⟩
  |_=>exact hq _ _ h
 |cond c a b J M=>
  intro Y _ rf Q C st hq h;refine⟨h.1,?_⟩;have h:=h.2;split at h
  .exact⟨λht=>J hq (h.1 ht),λht=>M hq (h.2 ht)⟩
  .exact⟨J hq h.1,M hq h.2⟩
  .exact h
 |block id b ih=>
  intro Y _ rf Q C st hq h;refine ih (λe st' h=>?_) h;cases e with
  |exit i=>
   simp[kf] at h ⊢;split at h
   .rename_i hi;rw[bi hi];exact hq _ _ h
   .rename_i hi;rw[ai hi];exact hq _ _ h
  |_=>exact hq _ _ h
 |scope b ih=>
  intro Y _ rf Q C st hq h;refine ih (λe st' h=>?_) h;cases e with
  |goto l=>exact h
  |_=>exact hq _ _ h
 |loop b ih=>
  intro Y _ rf Q C st hq h;let⟨I,μ,h0,h1⟩:=h;refine⟨I,μ,h0,λst' hi=>ih (λe U h=>?_) (h1 st' hi)⟩;cases e with
  |normal=>exact h
  |_=>exact hq _ _ h
 |label l=>intro Y _ rf;exact λhq h=>hq _ _ h
 |rangeFunc g ps assign body J M=>
  intro Y _ rf Q C st hq h;let⟨TO,NG,f,fs,cs,xs,I,Nd,NH,Nf,Oj,X,yZ⟩:=h;refine⟨TO,NG,f,fs,cs,xs,I,Nd,NH,Nf,Oj,λk m nx x hx hI=>J (λe s h=>?_) (X k m nx x hx hI),λm nx h=>hq _ _ (yZ m nx h)⟩;cases e with
  |normal=>
   refine M (λe s h=>?_) h;cases e with
   |normal=>exact h
   |ret=>exact hq _ _ h
   |exit id=>exact hq _ _ h
   |_=>exact h
  |_=>exact h
 |_=>intro Y _ rf;exact λ_ h=>h.elim
def least{p:Nat->Prop}:∀ j,p j->∃ i,p i/\∀ k,p k->i<=k:=by
 intro j
 induction j using Nat.strongRecOn with
 |_ j ih=>
  intro hj;by_cases h:∃ k,k<j/\p k
  .let⟨k,hk,hp⟩:=h;exact ih k hk hp
  .exact⟨j,hj,λk hk=>Nat.le_of_not_lt λao=>h ⟨k,ao,hk⟩⟩
open Classical in
def akY[fG Y](J:Nat->St->Prop){j₀:Nat}(h0:J j₀ st)(h:∀ j st',J j st'->AW P Y rf b (jI (λmF=>∃ U,aP P mF U/\∃ M,M<j/\J M U) Q) st'):AW P Y rf (.loop b) Q st:=by
 have C:∀ st,(∃ j,J j st)->∃ i,J i st/\∀ k,J k st->i<=k:=λst ⟨j,hj⟩=>least j hj
 let μ:St->Nat:=λst=>if h:∃ j,J j st then Classical.choose (C st h) else 0
 have hμ:∀ st,(hj:∃ j,J j st)->J (μ st) st/\∀ k,J k st->μ st<=k:=λst hj=>by
  have:μ st=Classical.choose (C st hj):=by simp[μ];rw[dif_pos hj]
  rw[this];exact Classical.choose_spec (C st hj)
 refine aac (λst=>∃ j,J j st) μ ⟨j₀,h0⟩ λst' hj=>zS b (λe mF hq=>?_) (h (μ st') st' (hμ st' hj).1);cases e with
 |normal=>
  let⟨U,hg,M,ao,X⟩:=hq;exact⟨U,hg,⟨M,X⟩,Nat.lt_of_le_of_lt ((hμ U ⟨M,X⟩).2 M X) ao⟩
 |_=>exact hq
end
section
variable{P:Program}{F:Nat->Prop}{β:aZ}{w:World}
def Tr.dw{c:Bool}{d:D}(h:Tr d):Tr (.dw c d):=λF β w v hv=>by
 cases hv with
 |dw _ _ _ h1 h2=>exact .dw c d v (λhc=>h F β w v (h1 hc)) h2
def Tr.agg{cs:List D}(h:∀ d∈cs,Tr d):Tr (.agg cs):=λF β w v hv=>by
 obtain⟨vs,rfl,hl,hh⟩:=hv.wK;exact .agg cs vs hl λk d u hd hu=>h d (bD hd) F β w u (hh k d u hd hu)
def Tr.bu{cs:List D}(h:∀ d∈cs,Tr d):Tr (.bu cs):=λF β w v hv=>by
 obtain⟨vs,rfl,hl,hh⟩:=hv.Fq;exact .bu cs vs hl λk d u hd hu=>h d (bD hd) F β w u (hh k d u hd hu)
def Tr.sl{cs:List D}{n:Nat}(h:∀ d∈cs,Tr d):Tr (.sl cs n):=λF β w v hv=>by
 cases hv with
 |ln a cap=>exact .ln a cap
 |sl _ _ b o cap us hf hb ao sZ eJ hc hh=>
  exact .sl cs n b o cap us (λe=>e.elim hf λe=>e hb) (λi p hp=>by cases hp) ao sZ eJ hc λk d hd=>h d (bD hd) F β w _ (hh k d hd)
def Tr.pt{cs:List D}(h:∀ d∈cs,Tr d):Tr (.pt cs):=λF β w v hv=>by
 cases hv with
 |pt _ b o us hf hb ao hc hh=>
  exact .pt cs b o us (λe=>e.elim hf λe=>e hb) (λi p hp=>by cases hp) ao hc λk d hd=>h d (bD hd) F β w _ (hh k d hd)
def Tr.fn{f:Fn}{fs cs:List D}(h:∀ d∈fs,Tr d)(h':∀ d∈cs,Tr d):Tr (.fn f fs cs):=λF β w v hv=>by
 cases hv with
 |fn _ _ _ us vs hl mK h1 h2=>
  exact .fn f fs cs us vs hl mK (λk d u hd hu=>h d (bD hd) F β w u (h1 k d u hd hu)) λk d u hd hu=>h' d (bD hd) F β w u (h2 k d u hd hu)
def Tr.im{es:List (Value×D)}(h:∀ x∈es,Tr x.2):Tr (.im es):=λF β w v hv=>by
 cases hv with
 |im _ r ms clock hf hb hc hl fN hk hh=>
  exact .im es r ms clock (λe=>e.elim hf λe=>e hb) (λi p hp=>by cases hp) hc hl fN hk λk x m hx hm=>h x (bD hx) F β w _ (hh k x m hx hm)
def Tr.s(x:Value):Tr (.s x):=λF β w v hv=>by
 obtain⟨rfl,h⟩:=hv.du;exact .s _ h
def Tr.ub:Tr .ub:=λF β w v hv=>by
 obtain⟨b,rfl⟩:=hv.IB;exact .ub b
def Tr.u:Tr .u:=λF β w v _=>.u v
def Tr.z:Tr .z:=λF β w v hv=>by
 rw[hv.BX];exact .z
def Tr.nil:∀ a∈([]:List D),Tr a:=λ_ h=>by cases h
def Tr.cons{d:D}{l:List D}(h:Tr d)(hl:∀ a∈l,Tr a):∀ a∈d::l,Tr a:=λa ha=>by
 cases ha with
 |head=>exact h
 |tail _ ha=>exact hl a ha
def Tr.map{α:Type}{f:α->D}{l:List α}(h:∀ x,Tr (f x)):∀ a∈l.map f,Tr a:=λa ha=>by
 obtain⟨x,_,rfl⟩:=mem_map.1 ha;exact h x
def Tr.flat{α:Type}{f:α->List D}{l:List α}(h:∀ x,∀ a∈f x,Tr a):∀ a∈l.flatMap f,Tr a:=λa ha=>by
 let⟨x,_,hx⟩:=mem_flatMap.1 ha;exact h x a hx
end
end
section
def aD:List (Nat×D)->Env
 |[],_=>.u
 |(t,d)::l,j=>if j=t then d else aD l j
def pG:List (Nat×D)->Env->Prop
 |[],_=>True
 |(t,d)::l,env=>env t=d/\pG l env
def vu:∀ {l:List (Nat×D)} {env:Env},pG l env->∀ t,aD l t=env t\/aD l t=.u
 |[],_,_,_=>.inr rfl
 |(k,d)::l,env,h,t=>by
  simp[aD];by_cases ht:t=k
  .subst ht;rw[bi rfl];exact .inl h.1.symm
  .rw[ai ht];exact vu h.2 t
def je(env:Env):List Operand->Prop
 |[]=>True
 |x::xs=>(opd env x).ask/\je env xs
def Zl{env:Env}:∀ {l:List Operand},je env l->∀ x∈l,(opd env x).ask
 |[],_,x,h=>by cases h
 |y::l,h,x,hx=>by
  cases hx with
  |head=>exact h.1
  |tail _ hx=>exact Zl h.2 x hx
def tM{env:Env}{o:Op}(h:je env o.operands.toList):asks env o:=by
 have:=Zl h;unfold asks;cases o<;>first|exact this|exact this _ cN
variable{d:Option Nat}{e:eC}{g:Bool}{row:Row}{j u:Nat}{f:FuncId}{args:List D}{r:D}{l:Nat}{K:St->Prop}{id:Nat}{x y:Code}
section
variable{P:Program}{Y:iu}{rf:Bool}
structure Ef(P:Program)(op:Op)(env:Env)(m:Mem)(nx:Nat)(e:eC):Prop where
 ok:bw P op (bO env op) m nx=some e
 nc:eX (bO env op) op=none
 ny:sN (bO env op) op=none
variable{ops:Array Oper}{dr:Bool}{cf:List (Nat×Nat)}{Q:Exit->St->Prop}{rest:List Oper}{env:Env}{m:Mem}{nx:Nat}{tr:pk}{t:Nat}{op:Op}{ty:TypeId}{pos:String}{after:Array Edge}
 {pre:Prop} {v:D} {rd:List Nat}
def Dh(he:Ef P op env m nx e)(ha:asks env op)(hp:e.pre)(K:aE P Y ops dr cf Q rest (St.put ⟨env,dx m e.bF,nx+e.new⟩ d e.val) (tr++[(e.rd,e.bF.map (·.1))])):
 aE P Y ops dr cf Q (⟨d,op,ty,pos,after,none⟩::rest) ⟨env,m,nx⟩ tr:=by
 simp[aE];refine .inl ?_;simp[nt];rw[he.nc,he.ny,he.ok];exact⟨ha,hp,K⟩
def aI(he:Ef P op env m nx ⟨pre,v,[],rd,0⟩)(ha:je env op.operands.toList)(hp:pre)(K:aE P Y ops dr cf Q rest ⟨up env t v,m,nx⟩ (tr++[(rd,[])])):
 aE P Y ops dr cf Q (⟨some t,op,ty,pos,after,none⟩::rest) ⟨env,m,nx⟩ tr:=Dh he (tM ha) hp K
def Fv{c a b:Operand}{g:Bool}(hc:(opd env c).core=.s (.bool g)):Ef P (.pick c a b) env m nx ⟨(g=true->(opd env a).ask/\(opd env a).core.iw.isSome=true)/\(g=false->(opd env b).ask/\(opd env b).core.iw.isSome=true),
 .s (.bool (if g then(opd env a).core.iw.getD false else(opd env b).core.iw.getD false)),[],[],0⟩:=⟨by simp[bw,bO,hc,D.iw],rfl,rfl⟩
def anB{c a b:Operand}{x y:Bool}(hc:opd env c=.s (.bool g))(ha:(opd env a).core=.s (.bool x))(hb:(opd env b).core=.s (.bool y))(h1:g=true->(opd env a).ask)(h2:g=false->(opd env b).ask)
 (K:aE P Y ops dr cf Q rest ⟨up env t (.s (.bool (if g then x else y))),m,nx⟩ (tr++[([],[])])):
 aE P Y ops dr cf Q (⟨some t,.pick c a b,ty,pos,after,none⟩::rest) ⟨env,m,nx⟩ tr:=by
 apply Dh (Fv (g:=g) (by rw[hc];rfl)) (by simp[asks,hc,D.ask]) ⟨λh=>⟨h1 h,by rw[ha];rfl⟩,λh=>⟨h2 h,by rw[hb];rfl⟩⟩;simp[ha,hb,D.iw,Option.getD_some];exact K
def alv{c a b:Operand}{x:Bool}(hc:opd env c=.s (.bool true))(ha:(opd env a).core=.s (.bool x))(h1:(opd env a).ask)
 (K:aE P Y ops dr cf Q rest ⟨up env t (.s (.bool x)),m,nx⟩ (tr++[([],[])])):
 aE P Y ops dr cf Q (⟨some t,.pick c a b,ty,pos,after,none⟩::rest) ⟨env,m,nx⟩ tr:=by
 apply Dh (Fv (g:=true) (by rw[hc];rfl)) (by simp[asks,hc,D.ask]) ⟨λ_=>⟨h1,by rw[ha];rfl⟩,λh=>by cases h⟩;simp[ha,D.iw,Option.getD_some,if_true];exact K
def alw{c a b:Operand}{y:Bool}(hc:opd env c=.s (.bool false))(hb:(opd env b).core=.s (.bool y))(h2:(opd env b).ask)
 (K:aE P Y ops dr cf Q rest ⟨up env t (.s (.bool y)),m,nx⟩ (tr++[([],[])])):
 aE P Y ops dr cf Q (⟨some t,.pick c a b,ty,pos,after,none⟩::rest) ⟨env,m,nx⟩ tr:=by
 apply Dh (Fv (g:=false) (by rw[hc];rfl)) (by simp[asks,hc,D.ask]) ⟨λh=>oH,λ_=>⟨h2,by rw[hb];rfl⟩⟩;simp[hb,D.iw,Option.getD_some,Bool.false_eq_true,if_false];exact K
def dH{i:Nat}{row:Option Row}(he:Ef P op env m nx ⟨pre,v,[(i,row)],rd,0⟩)(ha:je env op.operands.toList)(hp:pre)(K:aE P Y ops dr cf Q rest ⟨env,up m i row,nx⟩ (tr++[(rd,[i])])):
 aE P Y ops dr cf Q (⟨none,op,ty,pos,after,none⟩::rest) ⟨env,m,nx⟩ tr:=Dh he (tM ha) hp K
def di(he:Ef P op env m nx ⟨pre,v,[(nx,some row)],rd,1⟩)(ha:je env op.operands.toList)(hp:pre)(K:aE P Y ops dr cf Q rest ⟨up env t v,up m nx (some row),nx+1⟩ (tr++[(rd,[nx])])):
 aE P Y ops dr cf Q (⟨some t,op,ty,pos,after,none⟩::rest) ⟨env,m,nx⟩ tr:=Dh he (tM ha) hp K
def eT{i:Nat}(he:Ef P op env m nx ⟨pre,v,[(i,none),(nx,some row)],rd,1⟩)(ha:je env op.operands.toList)(hp:pre)(K:aE P Y ops dr cf Q rest ⟨up env t v,up (up m i none) nx (some row),nx+1⟩ (tr++[(rd,[i,nx])])):
 aE P Y ops dr cf Q (⟨some t,op,ty,pos,after,none⟩::rest) ⟨env,m,nx⟩ tr:=Dh he (tM ha) hp K
def cF{b c:Bool}(hj:(ops[j]?).bind (·.dst)=some u)(hg:nF (env u) b=some c)(he:Ef P op env m nx ⟨pre,v,[],rd,0⟩)(ha:c=true->je env op.operands.toList/\pre)
 (K:aE P Y ops dr cf Q rest ⟨up env t (.dw c v),m,nx⟩ (tr++[(rd,[])])):aE P Y ops dr cf Q (⟨some t,op,ty,pos,after,some (j,b)⟩::rest) ⟨env,m,nx⟩ tr:=by
 simp[aE];refine .inl ?_;simp[nt];rw[hj];simp[Option.bind_some];rw[hg,he.nc,he.ny,he.ok];exact⟨λhc=>⟨tM (ha hc).1,(ha hc).2⟩,K⟩
def alx{b0 C:Bool}(hj:(ops[j]?).bind (·.dst)=some u)(hg:nF (env u) b0=some C){c a b:Operand}{x y:Bool}(hc:(opd env c).core=.s (.bool g))(ha:(opd env a).core=.s (.bool x))(hb:(opd env b).core=.s (.bool y))
 (h0:C=true->(opd env c).ask) (h1:C=true->g=true->(opd env a).ask) (h2:C=true->g=false->(opd env b).ask)
 (K:aE P Y ops dr cf Q rest ⟨up env t (.dw C (.s (.bool (if g then x else y)))),m,nx⟩ (tr++[([],[])])):
 aE P Y ops dr cf Q (⟨some t,.pick c a b,ty,pos,after,some (j,b0)⟩::rest) ⟨env,m,nx⟩ tr:=by
 have he:=Fv (P:=P) (env:=env) (m:=m) (nx:=nx) (a:=a) (b:=b) hc;simp[ha,hb,D.iw,Option.getD_some,Option.isSome_some,and_true] at he;simp[aE];refine .inl ?_;simp[nt];rw[hj];simp[Option.bind_some];rw[hg,he.nc,he.ny,he.ok];exact⟨λhc=>⟨by simp[asks];exact h0 hc,h1 hc,h2 hc⟩,K⟩
def apY{b:Bool}(hj:(ops[j]?).bind (·.dst)=some u)(hg:nF (env u) b=some true)(he:Ef P op env m nx e)(ha:je env op.operands.toList)(hp:e.pre)
 (K:e.bF=[]->e.new=0->aE P Y ops dr cf Q rest (St.put ⟨env,m,nx⟩ d (.dw true e.val)) (tr++[(e.rd,[])]))
 (K':aE P Y ops dr cf Q rest (St.put ⟨env,dx m e.bF,nx+e.new⟩ d e.val) (tr++[(e.rd,e.bF.map (·.1))])):aE P Y ops dr cf Q (⟨d,op,ty,pos,after,some (j,b)⟩::rest) ⟨env,m,nx⟩ tr:=by
 simp only[aE];refine .inl ?_;simp only[nt];rw[hj];simp only[Option.bind_some];rw[hg,he.nc,he.ny,he.ok];simp only;split
 .rename_i h;simp only[aJ,isEmpty_iff,beq_iff_eq] at h;exact⟨λ_=>⟨tM ha,hp⟩,K h.1 h.2⟩
 .exact⟨λ_=>⟨tM ha,hp,K'⟩,oS⟩
def acP{b:Bool}(hj:(ops[j]?).bind (·.dst)=some u)(hg:nF (env u) b=some false)
 (K:∀ (x:D) rd,aE P Y ops dr cf Q rest (St.put ⟨env,m,nx⟩ d (.dw false x)) (tr++[(rd,[])])):aE P Y ops dr cf Q (⟨d,op,ty,pos,after,some (j,b)⟩::rest) ⟨env,m,nx⟩ tr:=by
 simp[aE];refine .inl ?_;simp[nt];rw[hj];simp[Option.bind_some];rw[hg];simp only;split
 .exact .inr ⟨oS,λ_=>K .u []⟩
 .split
  .exact⟨oS,λ_=>K .u []⟩
  .split
   .split
    .exact⟨oS,K _ _⟩
    .exact⟨oS,λ_=>K .u []⟩
   .exact⟨aa,K .u []⟩
def pH{b:Bool}(hj:(ops[j]?).bind (·.dst)=some u)(hg:nF (env u) b=some false)
 (K:∀ (x:D) rd,aE P Y ops dr cf Q rest ⟨up env t (.dw false x),m,nx⟩ (tr++[(rd,[])])):aE P Y ops dr cf Q (⟨some t,op,ty,pos,after,some (j,b)⟩::rest) ⟨env,m,nx⟩ tr:=acP hj hg K
def LZ(hc:eX (bO env op) op=some (f,args))(ha:je env op.operands.toList)(h:Bv P dr ⟨env,m,nx⟩ f args λr m nx rd wr=>aE P Y ops dr cf Q rest (St.put ⟨env,m,nx⟩ d r) (tr++[(rd,wr)])):
 aE P Y ops dr cf Q (⟨d,op,ty,pos,after,none⟩::rest) ⟨env,m,nx⟩ tr:=by
 simp[aE];refine .inl ?_;simp[nt];rw[hc];exact⟨tM ha,h⟩
def wX(h:aH P f args r)(hc:eX (bO env op) op=some (f,args))(ha:je env op.operands.toList)(K:aE P Y ops dr cf Q rest ⟨up env t r,m,nx⟩ (tr++[([],[])])):
 aE P Y ops dr cf Q (⟨some t,op,ty,pos,after,none⟩::rest) ⟨env,m,nx⟩ tr:=LZ hc ha (.inl ⟨r,h,K⟩)
def Tm{es:List D}{n:Nat}{C:TypeId}(h:pL P f args es n C)(hc:eX (bO env op) op=some (f,args))(ha:je env op.operands.toList)(K:aE P Y ops dr cf Q rest ⟨up env t (.rs nx 0 n),up m nx (some (.cells es C)),nx+1⟩ (tr++[([],[nx])])):
 aE P Y ops dr cf Q (⟨some t,op,ty,pos,after,none⟩::rest) ⟨env,m,nx⟩ tr:=LZ hc ha (.inr (.inr (.inl ⟨es,n,C,h,K⟩)))
def mD{d:Option Nat}{fq:D->Mem->Nat->Prop}(h:js P f args m nx fq)(hc:eX (bO env op) op=some (f,args))(ha:je env op.operands.toList)
 (K:∀ r m' nx',fq r m' nx'->aE P Y ops false cf Q rest (St.put ⟨env,m',nx'⟩ d r) (tr++[([],[])])):
 aE P Y ops false cf Q (⟨d,op,ty,pos,after,none⟩::rest) ⟨env,m,nx⟩ tr:=LZ hc ha (.inr (.inr (.inr (.inl ⟨rfl,h.mono K⟩))))
def apZ{C:List D}{bR:List Nat}(h:aH P f C r)(hs:r.ld=true)(J:nP P bR m args C)(hc:eX (bO env op) op=some (f,args))(ha:je env op.operands.toList)
 (K:aE P Y ops dr cf Q rest ⟨up env t r,m,nx⟩ (tr++[(bR,[])])):aE P Y ops dr cf Q (⟨some t,op,ty,pos,after,none⟩::rest) ⟨env,m,nx⟩ tr:=LZ hc ha (.inr (.inl ⟨C,bR,r,J,h,hs,K⟩))
def Di{b c:Bool}(hj:(ops[j]?).bind (·.dst)=some u)(hg:nF (env u) b=some c)(hc:eX (bO env op) op=some (f,args))(h:c=true->je env op.operands.toList/\aH P f args r)
 (K:aE P Y ops dr cf Q rest ⟨up env t (.dw c r),m,nx⟩ (tr++[([],[])])):aE P Y ops dr cf Q (⟨some t,op,ty,pos,after,some (j,b)⟩::rest) ⟨env,m,nx⟩ tr:=by
 simp[aE];refine .inl ?_;simp[nt];rw[hj];simp[Option.bind_some];rw[hg,hc];exact .inl ⟨r,λC=>⟨tM (h C).1,(h C).2⟩,K⟩
def alr{b:Bool}(hj:(ops[j]?).bind (·.dst)=some u)(hg:nF (env u) b=some true)(hc:eX (bO env op) op=some (f,args))(ha:je env op.operands.toList)
 (h:Bv P dr ⟨env,m,nx⟩ f args λr m nx rd wr=>aE P Y ops dr cf Q rest (St.put ⟨env,m,nx⟩ d r) (tr++[(rd,wr)])):aE P Y ops dr cf Q (⟨d,op,ty,pos,after,some (j,b)⟩::rest) ⟨env,m,nx⟩ tr:=by
 simp[aE];refine .inl ?_;simp[nt];rw[hj];simp[Option.bind_some];rw[hg,hc];exact .inr ⟨λ_=>⟨tM ha,h⟩,oS⟩
def adT(hc:eX (bO env op) op=none)(hy:sN (bO env op) op=some (l,args))(ha:je env op.operands.toList)(h:Y l args m nx λr m' nx'=>aE P Y ops false cf Q rest (St.put ⟨env,m',nx'⟩ d r) (tr++[([],[])])):
 aE P Y ops false cf Q (⟨d,op,ty,pos,after,none⟩::rest) ⟨env,m,nx⟩ tr:=by
 simp only[aE];refine .inl ?_;simp only[nt];rw[hc,hy];exact⟨tM ha,aa,h⟩
def Tn{b:Bool}(hj:(ops[j]?).bind (·.dst)=some u)(hg:nF (env u) b=some true)(hc:eX (bO env op) op=none)(hy:sN (bO env op) op=some (l,args))(ha:je env op.operands.toList)
 (h:Y l args m nx λr m' nx'=>aE P Y ops false cf Q rest (St.put ⟨env,m',nx'⟩ d r) (tr++[([],[])])):aE P Y ops false cf Q (⟨d,op,ty,pos,after,some (j,b)⟩::rest) ⟨env,m,nx⟩ tr:=by
 simp only[aE];refine .inl ?_;simp only[nt];rw[hj];simp only[Option.bind_some];rw[hg,hc,hy];exact⟨λ_=>⟨tM ha,aa,h⟩,oS⟩
def iJ(K:St->Prop):Exit->St->Prop
 | .normal,st=>K st
 |_,_=>True
def af{st:St}(h:K st):aE P Y ops dr [] (iJ K) [] st tr:=⟨oS,h⟩
def bJ{st:St}(hc:∀ q∈cf,sM tr q.1 q.2)(h:K st):aE P Y ops dr cf (iJ K) [] st tr:=⟨hc,h⟩
variable{st:St}{a b c:Code}
def aE.ni[fG Y]{l:List Oper}(h:aE P Y ops dr cf (iJ K) l st tr)(hk:∀ st,K st->Q .normal st):aE P Y ops dr cf Q l st tr:=
 aE.mono (Q:=iJ K) (λst h=>hk st h) l st tr h
def kU[fG Y]{id:Nat}(h:aE P Y ops false [] (iJ λst=>Q .normal st) ops.toList st []):AW P Y rf (.region id ops false) Q st:=aE.ni h λ_ h=>h
def IM[fG Y]{id:Nat}(hi:ct ops=some cf)(h:aE P Y ops true cf (iJ λst=>Q .normal st) ops.toList st []):AW P Y rf (.region id ops true) Q st:=by
 show match ct ops with
  |some cf=>MI P Y ops cf Q st
  |none=>False
 rw[hi];exact .inl (aE.ni h λ_ h=>h)
def RE[fG Y]{id:Nat}(hi:ct ops=some cf)(hl:Dw ops=true)(h:aE P iV ops true cf (iJ λst=>aE P iV ops false [] (iJ λst=>Q .normal st) (ops.toList.drop (ops.size - 1)) st []) (ops.toList.take (ops.size - 1)) st []):AW P Y rf (.region id ops true) Q st:=by
 show match ct ops with
  |some cf=>MI P Y ops cf Q st
  |none=>False
 rw[hi];exact .inr ⟨hl,aE.ni h λ_ h=>⟨rfl,aE.ni h λ_ h=>h⟩⟩
def agH[fG Y](hi:ct ops=some cf)(hl:Dw ops=true)(h:aE P iV ops true cf (iJ λst=>aE P iV ops false [] (iJ λst=>∃ st',aP P st st'/\AW P Y rf b Q st') (ops.toList.drop (ops.size - 1)) st []) (ops.toList.take (ops.size - 1)) st []):AW P Y rf (.seq (.region id ops true) b) Q st:=
 RE (rf:=rf) (id:=id) hi hl (aE.ni h λ_ h=>aE.ni h λst h=>h)
def al[fG Y](h:aE P Y ops false [] (iJ λst=>AW P Y rf b Q st) ops.toList st []):AW P Y rf (.seq (.region id ops false) b) Q st:=
 kU (rf:=rf) (id:=id) (aE.ni h λst h=>⟨st,.refl st,h⟩)
def c6[fG Y](hi:ct ops=some cf)(h:aE P Y ops true cf (iJ λst=>AW P Y rf b Q st) ops.toList st []):AW P Y rf (.seq (.region id ops true) b) Q st:=
 IM (rf:=rf) (id:=id) hi (aE.ni h λst h=>⟨st,.refl st,h⟩)
def br{st':St}(hg:aP P st st')(h:AW P Y rf b Q st'):∃ C,aP P st C/\AW P Y rf b Q C:=⟨st',hg,h⟩
def aA[fG Y](h:aE P Y ops false [] (iJ λst=>∃ st',aP P st st'/\AW P Y rf b Q st') ops.toList st []):AW P Y rf (.seq (.region id ops false) b) Q st:=
 kU (rf:=rf) (id:=id) (aE.ni h λ_ h=>h)
def zK[fG Y](hi:ct ops=some cf)(h:aE P Y ops true cf (iJ λst=>∃ st',aP P st st'/\AW P Y rf b Q st') ops.toList st []):AW P Y rf (.seq (.region id ops true) b) Q st:=
 IM (rf:=rf) (id:=id) hi (aE.ni h λ_ h=>h)
def acr[fG Y](J:St->Prop)(h:AW P Y rf a (jI J Q) st)(k:∀ st,J st->AW P Y rf b Q st):AW P Y rf (.seq a b) Q st:=
 zS a (λe st h=>by
  cases e with
  |normal=>exact⟨st,.refl st,k st h⟩
  |_=>exact h) h
def fS[fG Y](J:St->Prop)(h:AW P Y rf a (jI J Q) st)(k:∀ st,J st->∃ st',aP P st st'/\AW P Y rf b Q st'):AW P Y rf (.seq a b) Q st:=
 zS a (λe st h=>by
  cases e with
  |normal=>exact k st h
  |_=>exact h) h
def cI[fG Y](h:AW P Y rf b Q st):AW P Y rf (.seq .skip b) Q st:=⟨st,.refl st,h⟩
def de(h:Q .ret st):AW P Y rf (.seq .ret b) Q st:=h
def rh(h:Q (.exit id) st):AW P Y rf (.seq (.exit id) b) Q st:=h
def ahc(h:AW P Y rf b Q st):AW P Y rf (.seq (.label l) b) Q st:=⟨st,.refl st,h⟩
def aG[fG Y](h:AW P Y rf (.seq a (.seq b c)) Q st):AW P Y rf (.seq (.seq a b) c) Q st:=by
 refine zS a (λe st h=>?_) h;cases e with
 |normal=>
  let⟨st',hg,h⟩:=h;refine⟨st',hg,zS b (λe st h=>?_) h⟩;cases e<;>exact h
 |_=>exact h
def aB{c:Operand}(hc:opd st.env c=.s (.bool g))(ht:g=true->AW P Y rf x Q st)(hf:g=false->AW P Y rf y Q st):AW P Y rf (.cond c x y) Q st:=by
 rw[aab];rw[hc];exact⟨aa,ht,hf⟩
def cM{c:Operand}(hc:opd st.env c=.s (.bool g))(ht:g=true->AW P Y rf (.seq x b) Q st)(hf:g=false->AW P Y rf (.seq y b) Q st):AW P Y rf (.seq (.cond c x y) b) Q st:=aB hc ht hf
def aaC{c:Operand}(hc:opd st.env c=.ub)(ht:AW P Y rf x Q st)(hf:AW P Y rf y Q st):AW P Y rf (.cond c x y) Q st:=by
 rw[aab];rw[hc];exact⟨aa,ht,hf⟩
def tN(h:AW P Y rf b (kf id Q) st):AW P Y rf (.block id b) Q st:=h
def anh[fG Y]{α:Type}(S:α->St)(J:α->Prop)(μ:α->Nat)(U:α)(h0:st=S U)(hJ:J U)(h:∀ x,J x->AW P Y rf b (jI (λst'=>∃ M C,aP P st' M/\M=S C/\J C/\μ C<μ x) Q) (S x)):AW P Y rf (.loop b) Q st:=by
 apply akY (λj st=>∃ x,st=S x/\J x/\μ x=j) (j₀:=μ U) ⟨U,h0,hJ,rfl⟩;rintro j st ⟨x,rfl,hx,rfl⟩;refine zS b (λe st' hq=>?_) (h x hx);cases e with
 |normal=>
  let⟨M,C,h1,h2,X,h4⟩:=hq;exact⟨M,h1,μ C,h4,C,h2,X,rfl⟩
 |_=>exact hq
end
def Gf{P:Program}{Y:iu}{rf:Bool}{Q:Exit->St->Prop}{st:St}{c:Operand}(K:AW P Y rf y Q st)(h:opd st.env c=.s (.bool false):=by exact rfl):AW P Y rf (.cond c x y) Q st:=aB h (λh=>by cases h) λ_=>K
def DC{P:Program}{Y:iu}{rf:Bool}{Q:Exit->St->Prop}{st:St}{c:Operand}(K:AW P Y rf x Q st)(h:opd st.env c=.s (.bool true):=by exact rfl):AW P Y rf (.cond c x y) Q st:=aB h (λ_=>K) λh=>by cases h
def sT{P:Program}{Y:iu}{rf:Bool}{Q:Exit->St->Prop}{st:St}{c:Operand}{b:Code}(K:AW P Y rf (.seq y b) Q st)(h:opd st.env c=.s (.bool false):=by exact rfl):AW P Y rf (.seq (.cond c x y) b) Q st:=aB h (λh=>by cases h) λ_=>K
def wY{P:Program}{Y:iu}{rf:Bool}{Q:Exit->St->Prop}{st:St}{c:Operand}{b:Code}(K:AW P Y rf (.seq x b) Q st)(h:opd st.env c=.s (.bool true):=by exact rfl):AW P Y rf (.seq (.cond c x y) b) Q st:=aB h (λ_=>K) λh=>by cases h
end
section
variable{op:BinOp}{k':IntKind}{cs:List D}{i off j:Nat}{r:Row}{sz:Nat}{b:ByteArray}{news:List D}{rd:List Nat}{ps:Array (Nat×Operand)}{fs:Array Field}{C:List (Nat×D)}{src:TypeId}{es:List (Value×D)}{key:Value}{kt:TypeId}
section
variable{P:Program}{env:Env}{m:Mem}{nx:Nat}{t:TypeId}{x y a:Operand}{d v:D}{k:IntKind}{n n':Int}{p q:TypeId}
def ki(hx:(opd env x).core=v):Ef P (.move x) env m nx ⟨True,v,[],[],0⟩:=⟨by simp[bw,bO,hx],rfl,rfl⟩
def fR(hx:(opd env x).core=v):Ef P (.assign x) env m nx ⟨True,v,[],[],0⟩:=⟨by simp[bw,bO,hx],rfl,rfl⟩
def R6(op:BinOp)(v:Value)(y:Operand):p6 P m op t (.s v) y=none:=by
 unfold p6;split<;>first|rfl|(rename_i h;cases h)
def aoB{v w:Value}(h:∀ a b,v=.bool a->w=.bool b->False):s7 P op t (.s v) (.s w)=(rM op v w).map λr=>(r.1,.s r.2):=by
 cases v<;>cases w<;>first|rfl|exact(h _ _ rfl rfl).elim
def pO{v w u:Value}{pre:Prop}(hx:(opd env x).core=.s v)(hy:(opd env y).core=.s w)(hn:∀ a b,v=.bool a->w=.bool b->False)(hb:rM op v w=some (pre,u)):Ef P (.binOp op t x y p) env m nx ⟨pre,.s u,[],[],0⟩:=
 ⟨by simp[bw,bO,hx,hy,R6,aoB hn,hb,Option.map_some],rfl,rfl⟩
section ints
variable(hx:(opd env x).core=.s (.int k n))(hy:(opd env y).core=.s (.int k n'))
include hx hy
def SX:Ef P (.binOp .lss t x y p) env m nx ⟨k=k,.s (.bool (decide (n<n'))),[],[],0⟩:=pO hx hy oS rfl
def SY:Ef P (.binOp .leq t x y p) env m nx ⟨k=k,.s (.bool (decide (n<=n'))),[],[],0⟩:=pO hx hy oS rfl
def SZ:Ef P (.binOp .gtr t x y p) env m nx ⟨k=k,.s (.bool (decide (n'<n))),[],[],0⟩:=pO hx hy oS rfl
def S0:Ef P (.binOp .geq t x y p) env m nx ⟨k=k,.s (.bool (decide (n'<=n))),[],[],0⟩:=pO hx hy oS rfl
def NY:Ef P (.binOp .eql t x y p) env m nx ⟨k=k,.s (.bool (n==n')),[],[],0⟩:=pO hx hy oS rfl
def S3:Ef P (.binOp .neq t x y p) env m nx ⟨k=k,.s (.bool (n !=n')),[],[],0⟩:=pO hx hy oS rfl
def aoC:Ef P (.binOp .add t x y p) env m nx ⟨k=k,.s (.int k (k.wrap (n+n'))),[],[],0⟩:=pO hx hy oS rfl
def aoD:Ef P (.binOp .sub t x y p) env m nx ⟨k=k,.s (.int k (k.wrap (n - n'))),[],[],0⟩:=pO hx hy oS rfl
def aoE:Ef P (.binOp .quo t x y p) env m nx ⟨k=k/\n'≠0,.s (.int k (k.wrap (n.tdiv n'))),[],[],0⟩:=pO hx hy oS rfl
def apB:Ef P (.binOp .rem t x y p) env m nx ⟨k=k/\n'≠0,.s (.int k (n.tmod n')),[],[],0⟩:=pO hx hy oS rfl
def ach:Ef P (.binOp .and t x y p) env m nx ⟨k=k,.s (.int k (oR .and k n n')),[],[],0⟩:=pO hx hy oS rfl
def atQ:Ef P (.binOp .or t x y p) env m nx ⟨k=k,.s (.int k (oR .or k n n')),[],[],0⟩:=pO hx hy oS rfl
end ints
def apC(hx:(opd env x).core=.s (.int k n))(hy:(opd env y).core=.s (.int k' n')):Ef P (.binOp .shl t x y p) env m nx ⟨0<=n',.s (.int k (k.wrap (n*2 ^ (min n'.toNat k.bits)))),[],[],0⟩:=pO hx hy oS rfl
def ani(hx:(opd env x).core=.s (.int k n))(hy:(opd env y).core=.s (.int k' n')):Ef P (.binOp .shr t x y p) env m nx ⟨0<=n',.s (.int k (n.fdiv (2 ^ (min n'.toNat k.bits)))),[],[],0⟩:=pO hx hy oS rfl
def i64_in(n:Int)(h: -9223372036854775808<=n/\n<=9223372036854775807):IntKind.i64.wrap n=n:=Go.IntWalk.i64_in n h
def aci(hx:(opd env x).core=.s (.int .i64 n))(hy:(opd env y).core=.s (.int .i64 n'))(hb: -9223372036854775808<=n+n'/\n+n'<=9223372036854775807):Ef P (.binOp .add t x y p) env m nx ⟨IntKind.i64=IntKind.i64,.s (.int .i64 (n+n')),[],[],0⟩:=by
 have:=aoC (P:=P) (m:=m) (nx:=nx) (t:=t) (p:=p) hx hy
 rwa[i64_in _ hb] at this
def S4(hx:(opd env x).core=.s (.int .i64 n))(hy:(opd env y).core=.s (.int .i64 n'))(hb: -9223372036854775808<=n - n'/\n - n'<=9223372036854775807):Ef P (.binOp .sub t x y p) env m nx ⟨IntKind.i64=IntKind.i64,.s (.int .i64 (n - n')),[],[],0⟩:=by
 have:=aoD (P:=P) (m:=m) (nx:=nx) (t:=t) (p:=p) hx hy
 rwa[i64_in _ hb] at this
section strings
variable{s s':ByteArray}(hx:(opd env x).core=.s (.string s))(hy:(opd env y).core=.s (.string s'))
include hx hy
def abh:Ef P (.binOp .eql t x y p) env m nx ⟨True,.s (.bool (s.toList==s'.toList)),[],[],0⟩:=pO hx hy oS rfl
def abi:Ef P (.binOp .neq t x y p) env m nx ⟨True,.s (.bool !(s.toList==s'.toList)),[],[],0⟩:=pO hx hy oS rfl
def abj:Ef P (.binOp .geq t x y p) env m nx ⟨True,.s (.bool !(Op.bytesLess s.toList s'.toList)),[],[],0⟩:=pO hx hy oS rfl
end strings
def abk{b C:Bool}(hx:(opd env x).core=.s (.bool b))(hy:(opd env y).core=.s (.bool C)):Ef P (.binOp .eql t x y p) env m nx ⟨xJ P t=true,.s (.bool (b==C)),[],[],0⟩:=
 ⟨by simp[bw,bO,hx,hy,R6,s7,Option.map_some],rfl,rfl⟩
def abl{b C:Bool}(hx:(opd env x).core=.s (.bool b))(hy:(opd env y).core=.s (.bool C)):Ef P (.binOp .neq t x y p) env m nx ⟨xJ P t=true,.s (.bool !(b==C)),[],[],0⟩:=
 ⟨by simp[bw,bO,hx,hy,R6,s7,Option.map_some],rfl,rfl⟩
def acj{b:Bool}(hx:(opd env x).core=.s (.bool b)):Ef P (.unOp .not t x) env m nx ⟨True,.s (.bool !b),[],[],0⟩:=⟨by simp[bw,bO,hx,G7,Option.map_some],rfl,rfl⟩
def B5{z:List D}(hz:bN P t=z):Ef P (.alloc t) env m nx ⟨a8 P t=true,.rp nx 0,[(nx,some (.cells z t))],[],1⟩:=⟨by simp[bw,hz],rfl,rfl⟩
def ack(hx:(opd env x).core=d)(hc:d.cells=cs):Ef P (.box t x) env m nx ⟨cs.all D.one=true,.rp nx 0,[(nx,some (.cells cs t))],[],1⟩:=⟨by simp[bw,bO,hx,hc],rfl,rfl⟩
def MK(hx:(opd env x).core=d)(hc:d.cells=[d]):Ef P (.box t x) env m nx ⟨[d].all D.one=true,.rp nx 0,[(nx,some (.cells [d] t))],[],1⟩:=ack hx hc
def yM{cs:List D}(hx:(opd env x).core=.agg cs):Ef P (.box t x) env m nx ⟨cs.all D.one=true,.rp nx 0,[(nx,some (.cells cs t))],[],1⟩:=ack hx rfl
def z7(hx:(opd env x).core=.pt (v::cs))(ha:bX P t=false):Ef P (.load t x) env m nx ⟨a8 P t=true/\P.cellsOf t<=(v::cs).length,v,[],[],0⟩:=⟨by simp[bw,bO,hx,mB,ha],rfl,rfl⟩
def nZ{vs:List D}{n:Nat}(hx:(opd env x).core=.pt cs)(ha:bX P t=true)(hc:P.cellsOf t=n)(hv:cs.take n=vs):Ef P (.load t x) env m nx ⟨a8 P t=true/\P.cellsOf t<=cs.length,.agg vs,[],[],0⟩:=⟨by simp[bw,bO,hx,mB,ha,hc,hv],rfl,rfl⟩
def fh{cs':List D}{e:TypeId}(hx:(opd env x).core=.rp i off)(hm:m i=some (.cells cs e))(hd:cs.drop off=v::cs')(ha:bX P t=false):Ef P (.load t x) env m nx ⟨a8 P t=true/\off+P.cellsOf t<=cs.length,v,[],[i],0⟩:=⟨by simp[bw,bO,hx,hm,mB,ha,hd],rfl,rfl⟩
def gA{i:Nat}{vs:List D}{e:TypeId}{n:Nat}(hx:(opd env x).core=.rp i off)(hm:m i=some (.cells cs e))(ha:bX P t=true)(hc:P.cellsOf t=n)(hv:(cs.drop off).take n=vs):Ef P (.load t x) env m nx ⟨a8 P t=true/\off+P.cellsOf t<=cs.length,.agg vs,[],[i],0⟩:=⟨by simp[bw,bO,hx,hm,mB,ha,hc,hv],rfl,rfl⟩
def aaa{cs' vs:List D}{e:TypeId}(hx:(opd env x).core=.rp i off)(hy:(opd env y).core=d)(hm:m i=some (.cells cs e))(hv:d.cells=vs)(hs:jF cs off vs=cs'):
 Ef P (.store t x y) env m nx ⟨a8 P t=true/\vs.length=P.cellsOf t/\off+P.cellsOf t<=cs.length/\vs.all D.one=true,.bu [],[(i,some (.cells cs' e))],[i],0⟩:=⟨by simp[bw,bO,hx,hy,hm,hv,hs],rfl,rfl⟩
def lT{cs':List D}{e:TypeId}(hx:(opd env x).core=.rp i off)(hy:(opd env y).core=d)(hm:m i=some (.cells cs e))(hv:d.cells=[d])(hs:cs.set off d=cs'):
 Ef P (.store t x y) env m nx ⟨a8 P t=true/\[d].length=P.cellsOf t/\off+P.cellsOf t<=cs.length/\[d].all D.one=true,.bu [],[(i,some (.cells cs' e))],[i],0⟩:=aaa hx hy hm hv hs
def jV{i:Nat}{cs' vs:List D}{e:TypeId}(hx:(opd env x).core=.rp i off)(hy:(opd env y).core=.agg vs)(hm:m i=some (.cells cs e))(hs:jF cs off vs=cs'):
 Ef P (.store t x y) env m nx ⟨a8 P t=true/\vs.length=P.cellsOf t/\off+P.cellsOf t<=cs.length/\vs.all D.one=true,.bu [],[(i,some (.cells cs' e))],[i],0⟩:=aaa hx hy hm rfl hs
def zR{C:TypeId}(hx:(opd env x).core=.pt cs)(hf:df P t j=some (off,C)):Ef P (.fieldAddr t x j) env m nx ⟨0<P.cellsOf C,.pt (cs.drop off),[],[],0⟩:=⟨by simp[bw,bO,hx,hf],rfl,rfl⟩
def pA{o:Nat}{C:TypeId}(hx:(opd env x).core=.rp i o)(hm:m i=some r)(hf:df P t j=some (off,C)):Ef P (.fieldAddr t x j) env m nx ⟨0<P.cellsOf C,.rp i (o+off),[],[i],0⟩:=⟨by simp[bw,bO,hx,hf,hm],rfl,rfl⟩
def ML{o:Nat}(hx:(opd env x).core=.rp i o)(hm:m i=some r):Ef P (.nilCheck x) env m nx ⟨True,.rp i o,[],[i],0⟩:=⟨by simp[bw,bO,hx,hm],rfl,rfl⟩
def S5{es:List D}{l:Nat}{e:TypeId}(hx:(opd env x).core=.sl es l)(hy:(opd env y).core=.s (.int k n))(he:aT P t=e)(hs:P.cellsOf e=sz)(hd:es.drop (n.toNat*sz)=cs):
 Ef P (.indexAddr t x y) env m nx ⟨bH P t=true/\0<=n/\n<l/\(n.toNat+1)*sz<=es.length,.pt cs,[],[],0⟩:=⟨by simp[bw,bO,hx,hy,he,hs,hd],rfl,rfl⟩
def MM{l:Nat}{e:TypeId}(hx:(opd env x).core=.rs j off l)(hy:(opd env y).core=.s (.int k n))(hm:m j=some r)(he:aT P t=e)(hs:P.cellsOf e=sz):
 Ef P (.indexAddr t x y) env m nx ⟨bH P t=true/\0<=n/\n<l,.rp j (off+n.toNat*sz),[],[j],0⟩:=⟨by simp[bw,bO,hx,hy,hm,he,hs],rfl,rfl⟩
def aoF{l:Nat}{e:TypeId}(hx:(opd env x).core=.rp j off)(hy:(opd env y).core=.s (.int k n))(hm:m j=some r)(he:aT P t=e)(hs:P.cellsOf e=sz)(hl:s4 P t=l):
 Ef P (.indexAddr t x y) env m nx ⟨rX P t=true/\0<=n/\n<l,.rp j (off+n.toNat*sz),[],[j],0⟩:=⟨by simp[bw,bO,hx,hy,hm,he,hs,hl],rfl,rfl⟩
section builtins
def BG{b:Builtin}{ts:Array TypeId}{args:Array Operand}{aS:List D}{e:eC}(hs:ts.size=args.size)(ha:args.toList.map (λx=>(opd env x).core)=aS)(hb:gz P m nx b ts aS=some e):Ef P (.call { callee:=.builtin b,args:=args,argTypes:=ts }) env m nx e:=
 ⟨by simp only[bw];rw[bi hs];simp only[bO];rw[ha,hb],rfl,rfl⟩
def acm{es:List D}{l:Nat}(hx:(opd env x).core=.sl es l):Ef P (.call { callee:=.builtin .len,args:= #[x],argTypes:= #[t] }) env m nx ⟨bH P t=true,.s (.int .i64 l),[],[],0⟩:=BG (aS:=[.sl es l]) rfl (by simp[hx]) rfl
def MN{l:Nat}(hx:(opd env x).core=.rs i off l)(hm:m i=some r):Ef P (.call { callee:=.builtin .len,args:= #[x],argTypes:= #[t] }) env m nx ⟨bH P t=true,.s (.int .i64 l),[],[i],0⟩:=BG (aS:=[.rs i off l]) rfl (by simp[hx]) (by simp[gz,o9,hm])
def abm(hx:(opd env x).core=.z):Ef P (.call { callee:=.builtin .len,args:= #[x],argTypes:= #[t] }) env m nx ⟨bH P t=true,.s (.int .i64 0),[],[],0⟩:=BG (aS:=[.z]) rfl (by simp[hx]) rfl
def R7(hx:(opd env x).core=.s (.string b)):Ef P (.call { callee:=.builtin .len,args:= #[x],argTypes:= #[t] }) env m nx ⟨ji P t=true,.s (.int .i64 b.size),[],[],0⟩:=BG (aS:=[.s (.string b)]) rfl (by simp[hx]) rfl
def acn(hx:(opd env x).core=.s (.int k n))(hy:(opd env y).core=.s (.int k n')):Ef P (.call { callee:=.builtin .min,args:= #[x,y],argTypes:= #[t,t] }) env m nx ⟨k=k,.s (.int k (if n'<n then n' else n)),[],[],0⟩:=BG (aS:=[.s (.int k n),.s (.int k n')]) rfl (by simp[hx,hy]) rfl
structure Cells(m:Mem)(sz:Nat)(d:D)(p:Prop)(rd:List Nat)(k:Nat)(news:List D):Prop where
 ok:mS m sz d=some (p,rd,k,news)
def iH{es:List D}{k:Nat}(h:es.take (k*sz)=news):Cells m sz (.sl es k) (k*sz<=es.length) [] k news:=⟨by simp[mS,h]⟩
def fZ{k:Nat}{e:TypeId}(hm:m i=some (.cells cs e))(h:(cs.drop off).take (k*sz)=news):Cells m sz (.rs i off k) (off+k*sz<=cs.length) [i] k news:=⟨by simp[mS,hm,h]⟩
def kX{p:Prop}{c:Nat}{e:TypeId}(hx:(opd env x).core=.z)(hy:(opd env y).core=d)(he:aT P t=e)(hs:P.cellsOf e=sz)(hc:Cells m sz d p rd c news):
 Ef P (.call { callee:=.builtin .append,args:= #[x,y],argTypes:= #[t,t] }) env m nx ⟨bH P t=true/\p/\0<sz/\c<=maxLen/\c*P.bytesOf e<=140737488355328,.rs nx 0 c,[(nx,some (.cells news e))],rd,1⟩:=by
 apply BG (aS:=[.z,d]) rfl (by simp[hx,hy]);simp only[gz];rw[bi oS];simp only[vt,Array.getD_eq_getD_getElem?,getElem?_toArray,getElem?_cons_zero,Option.getD_some,he,hs,hc.ok]
def eQ{p:Prop}{c i l:Nat}{cs cs':List D}{e:TypeId}(hx:(opd env x).core=.rs i off l)(hm:m i=some (.cells cs e))(hy:(opd env y).core=d)(he:aT P t=e)(hs:P.cellsOf e=sz)(hc:Cells m sz d p rd c news)(hn:cs.drop off++news=cs'):
 Ef P (.call { callee:=.builtin .append,args:= #[x,y],argTypes:= #[t,t] }) env m nx ⟨bH P t=true/\e=e/\p/\0<sz/\off+l*sz=cs.length/\l+c<=maxLen/\(l+c)*P.bytesOf e<=140737488355328/\i∉rd,.rs nx 0 (l+c),[(i,none),(nx,some (.cells cs' e))],i::rd,1⟩:=by
 apply BG (aS:=[.rs i off l,d]) rfl (by simp[hx,hy]);simp only[gz];rw[bi oS];simp only[vt,Array.getD_eq_getD_getElem?,getElem?_toArray,getElem?_cons_zero,Option.getD_some,he,hs,hc.ok,hm,hn]
end builtins
def abn(hx:(opd env x).core=.s (.string b))(hy:(opd env y).core=.s (.int k n)):Ef P (.index t x y) env m nx ⟨ji P t=true/\0<=n/\n<b.size,.s (.int .u8 (b.data.toList.getD n.toNat 0).toNat),[],[],0⟩:=⟨by simp[bw,bO,hx,hy],rfl,rfl⟩
def wE{cs':List D}(hx:(opd env x).core=.bu cs)(hd:cs.drop j=v::cs'):Ef P (.extract x j) env m nx ⟨j<cs.length,v,[],[],0⟩:=by
 have h:cs[j]? =some v:=by
  have:(cs.drop j)[0]? =some v:=by rw[hd];rfl
  simpa using this
 exact⟨by simp[bw,bO,hx,h],rfl,rfl⟩
def ana{z:List D}(hu:P.underlying t=some (.struct fs))(hz:bN P t=z)(hq:(ps.toList.map λq=>(q.1,(opd env q.2).core))=C)
 (hf:mC (λi=>(fs[i]?).map λf=>(f.offset,P.cellsOf f.type)) z C=some cs):Ef P (.build t ps) env m nx ⟨a8 P t=true/\fs.toList.all (λf=>(P.info? f.type).isSome)=true,.agg cs,[],[],0⟩:=
 ⟨by simp[bw,bO,hu,hz,hq,hf,Option.map_some],rfl,rfl⟩
def Ln{C:List (Nat×Nat)}{cs z:List D}{J:List (Nat×D)}(hu:P.underlying t=some (.struct fs))(hp:(fs.toList.map λ(f:Field)=>(f.offset,P.cellsOf f.type))=C)(hz:bN P t=z)(hq:(ps.toList.map λq=>(q.1,(opd env q.2).core))=J)
 (hf:mC (λi=>C[i]?) z J=some cs):Ef P (.build t ps) env m nx ⟨a8 P t=true/\fs.toList.all (λf=>(P.info? f.type).isSome)=true,.agg cs,[],[],0⟩:=by
 apply ana hu hz hq
 have:(λ(i:Nat)=>(fs[i]?).map λ(f:Field)=>(f.offset,P.cellsOf f.type))=λ(i:Nat)=>C[i]? :=by
  funext i;rw[<- hp];simp
 rw[this];exact hf
def pz{l:Nat}{e:TypeId}{cs z:List D}(he:aT P t=e)(hs:P.cellsOf e=sz)(hz:bN P e=z)(hq:(ps.toList.map λq=>(q.1,(opd env q.2).core))=C)
 (hf:mC (λi=>some (i*sz,sz)) (eI l z) C=some cs):Ef P (.buildSlice t l ps) env m nx ⟨cs.all D.one=true/\l*sz<=2 ^ 24/\bH P t=true/\l<=maxLen,.rs nx 0 l,[(nx,some (.cells cs e))],[],1⟩:=
 ⟨by simp[bw,bO,he,hs,hz,hq,hf,Option.map_some],rfl,rfl⟩
def R8{f:Fn}{fs cs:Array Operand}{J C:List D}(hf:fs.toList.map (λx=>(opd env x).core)=J)(hc:cs.toList.map (λx=>(opd env x).core)=C):Ef P (.makeFunc f fs cs) env m nx ⟨True,.fn f J C,[],[],0⟩:=⟨by simp[bw,bO,hf,hc],rfl,rfl⟩
def apE:Ef P (.makeMap t none) env m nx ⟨True,.mp nx,[(nx,some (.map []))],[],1⟩:=⟨by simp[bw],rfl,rfl⟩
def H5{e:TypeId}{z:List D}(hx:(opd env x).core=.s (.int .i64 n))(hy:(opd env y).core=.s (.int .i64 n'))(he:aT P t=e)(hz:bN P e=z):
 Ef P (.makeSlice t x y) env m nx ⟨0<=n/\n=n'/\n<=9223372036854775807/\P.bytesOf e*n<=281474976710656/\bH P t=true,.rs nx 0 n.toNat,[(nx,some (.cells (eI n.toNat z) e))],[],1⟩:=⟨by simp[bw,bO,hx,hy,he,hz],rfl,rfl⟩
def aoG(hx:(opd env x).core=.s (.int k n))(hu:P.underlying t=some (.int k')):Ef P (.convert src t x) env m nx ⟨a8 P src=true,.s (.int k' (k'.wrap n)),[],[],0⟩:=⟨by simp[bw,bO,hx,hu],rfl,rfl⟩
def anb{src e:TypeId}(hx:(opd env x).core=.s (.string b))(hu:P.underlying t=some (.slice e))(he:P.underlying e=some (.int .u8)):
 Ef P (.convert src t x) env m nx ⟨ji P src=true/\b.size<=maxLen,.sl (b.data.toList.map λc=>.s (.int .u8 c.toNat)) b.size,[],[],0⟩:=⟨by simp[bw,bO,hx,hu,he],rfl,rfl⟩
def dO(b:ByteArray):List Int:=b.data.toList.map λc=>(c.toNat:Int)
def agk(b:ByteArray):(dO b).length=b.size:=by rw[dO,length_map];rfl
def YZ{e:TypeId}(hx:(opd env x).core=.s (.string b))(hu:P.underlying t=some (.slice e))(he:P.underlying e=some (.int .u8)):
 Ef P (.convert src t x) env m nx ⟨ji P src=true/\b.size<=maxLen,.sl ((dO b).map λn=>.s (.int .u8 n)) (dO b).length,[],[],0⟩:=by
 have:=anb (P:=P) (env:=env) (m:=m) (nx:=nx) (t:=t) (src:=src) hx hu he;have h:(dO b).map (λn=>D.s (.int .u8 n))=b.data.toList.map (λc=>D.s (.int .u8 c.toNat)):=by rw[dO,map_map];rfl
 rw[agk,h];exact this
def CU{es es':List D}{l:Nat}{lo hi:Option Operand}{a b:Int}{e:TypeId}(hx:(opd env x).core=.sl es l)(he:aT P t=e)(hs:P.cellsOf e=sz)
 (ha:gg (lo.map λx=>(opd env x).core) 0=some a) (hb:gg (hi.map λx=>(opd env x).core) l=some b) (hd:(es.drop (a.toNat*sz)).take ((b - a).toNat*sz)=es'):
 Ef P (.slice t x lo hi none) env m nx ⟨bH P t=true/\0<=a/\a<=b/\b<=l,.sl es' (b - a).toNat,[],[],0⟩:=by
 refine⟨?_,rfl,rfl⟩;show oZ P m t (opd env x).core (lo.map λx=>(opd env x).core) (hi.map λx=>(opd env x).core) (Option.map (λx=>(opd env x).core) none)=_;rw[hx];simp[oZ,Option.map_none,ha,hb,he,hs,hd]
def Y0{l:Nat}{lo hi:Option Operand}{a b:Int}{e:TypeId}(hx:(opd env x).core=.rs i off l)(hm:m i=some (.cells cs e))(he:aT P t=e)(hs:P.cellsOf e=sz)
 (ha:gg (lo.map λx=>(opd env x).core) 0=some a) (hb:gg (hi.map λx=>(opd env x).core) l=some b):
 Ef P (.slice t x lo hi none) env m nx ⟨(bH P t=true/\sz=sz)/\0<=a/\a<=b/\b<=l,.rs i (off+a.toNat*sz) (b - a).toNat,[],[i],0⟩:=by
 refine⟨?_,rfl,rfl⟩;show oZ P m t (opd env x).core (lo.map λx=>(opd env x).core) (hi.map λx=>(opd env x).core) (Option.map (λx=>(opd env x).core) none)=_;rw[hx];simp[oZ,hm,Option.map_none,ha,hb,he,hs]
def QO{ok:Bool}(hx:(opd env x).core=.mp i)(hm:m i=some (.map es))(hk:xv (opd env y).core=some key)(ht:iZ P t=kt)(hg:lg P t ok (fF key es)=v):
 Ef P (.lookup t x y ok) env m nx ⟨kN P t=true/\ew P kt key=true/\es.all (λe=>ew P kt e.1)=true,v,[],[i],0⟩:=by
 refine⟨?_,rfl,rfl⟩;show ry P m t (opd env x).core (opd env y).core ok=_;simp[ry,hk,hx,hm,ht,hg]
def HR{ok:Bool}(hx:(opd env x).core=.im es)(hk:xv (opd env y).core=some key)(ht:iZ P t=kt)(hg:lg P t ok (fF key es)=v):
 Ef P (.lookup t x y ok) env m nx ⟨kN P t=true/\ew P kt key=true/\es.all (λe=>ew P kt e.1)=true,v,[],[],0⟩:=by
 refine⟨?_,rfl,rfl⟩;show ry P m t (opd env x).core (opd env y).core ok=_;simp[ry,hk,hx,ht,hg]
def IE{key:Value}{z:Operand}(hx:(opd env x).core=.mp i)(hm:m i=some (.map es))(hk:xv (opd env y).core=some key)(hz:(opd env z).core=v)(ht:iZ P t=kt):
 Ef P (.mapUpdate t x y z) env m nx ⟨kN P t=true/\ew P kt key=true/\es.all (λe=>ew P kt e.1)=true,.bu [],[(i,some (.map (mG key v es)))],[i],0⟩:=by
 refine⟨?_,rfl,rfl⟩;show rz P m t (opd env x).core (opd env y).core (opd env z).core=_;simp[rz,hk,hx,hm,ht,hz]
end
variable{α:Type}
def qo{f:α->D}:∀ {l:List α} {k:Nat} {x:α},l[k]? =some x->(l.map f).drop k=f x::(l.drop (k+1)).map f
 |[],k,x,h=>by simp at h
 |a::l,0,x,h=>by simp at h;subst h;rfl
 |a::l,k+1,x,h=>s0 (qo (f:=f) (l:=l) (k:=k) (s0 h))
def Qi{f:α->List D}(hs:∀ x,(f x).length=sz):∀ {l:List α} {k:Nat} {x:α},l[k]? =some x->(l.flatMap f).drop (k*sz)=f x++(l.drop (k+1)).flatMap f
 |[],k,x,h=>by simp at h
 |a::l,0,x,h=>by simp at h;subst h;simp
 |a::l,k+1,x,h=>by
  have h1:(k+1)*sz=(f a).length+k*sz:=by rw[hs];rw[Nat.add_mul];omega
  simp only[flatMap_cons,h1,drop_append,drop_succ_cons];rw[drop_of_length_le oG];have:(f a).length+k*sz - (f a).length=k*sz:=by omega
  rw[this];simpa using Qi hs (l:=l) (k:=k) (s0 h)
variable{f:α->List D}
def CG{sz:Nat}(hs:∀ x,(f x).length=sz):∀ (l:List α),(l.flatMap f).length=l.length*sz
 |[]=>by simp
 |a::l=>by simp[flatMap_cons,length_append,hs,CG hs l,length_cons,Nat.add_mul];omega
variable{l:List α}
section
variable{P:Program}{env:Env}{m:Mem}{nx:Nat}{t e:TypeId}{x y:Operand}{k:IntKind}
def IF{f:α->D}{n:Nat}{z:α}(hx:(opd env x).core=.sl (l.map f) n)(hy:(opd env y).core=.s (.int k i))(he:aT P t=e)(hs:P.cellsOf e=1)(hz:l[i]? =some z):
 Ef P (.indexAddr t x y) env m nx ⟨bH P t=true/\0<=(i:Int)/\(i:Int)<n/\((i:Int).toNat+1)*1<=(l.map f).length,.pt (f z::(l.drop (i+1)).map f),[],[],0⟩:=
 S5 hx hy he hs (by rw[eU,Nat.mul_one];exact qo hz)
def IG{f:α->D}{z:α}(ht:bH P t=true)(hz:l[i]? =some z):bH P t=true/\0<=(i:Int)/\(i:Int)<l.length/\((i:Int).toNat+1)*1<=(l.map f).length:=by
 have:=(bQ.1 hz).1;exact⟨ht,oG,oG,by simp;omega⟩
def yN{n:Nat}{z:α}(hx:(opd env x).core=.sl (l.flatMap f) n)(hy:(opd env y).core=.s (.int k i))(he:aT P t=e)(hs:P.cellsOf e=sz)(hl:∀ x,(f x).length=sz)(hz:l[i]? =some z):
 Ef P (.indexAddr t x y) env m nx ⟨bH P t=true/\0<=(i:Int)/\(i:Int)<n/\((i:Int).toNat+1)*sz<=(l.flatMap f).length,.pt (f z++(l.drop (i+1)).flatMap f),[],[],0⟩:=
 S5 hx hy he hs (by rw[eU];exact Qi hl hz)
def yO{z:α}(ht:bH P t=true)(hl:∀ x,(f x).length=sz)(hz:l[i]? =some z):bH P t=true/\0<=(i:Int)/\(i:Int)<l.length/\((i:Int).toNat+1)*sz<=(l.flatMap f).length:=by
 have:=(bQ.1 hz).1;refine⟨ht,oG,oG,?_⟩;rw[CG hl,eU];exact Nat.mul_le_mul_right _ this
def z8{v:D}(ht:a8 P t=true)(hc:P.cellsOf t=1):a8 P t=true/\P.cellsOf t<=(v::cs).length:=⟨ht,by rw[hc];simp⟩
def fj{v:D}{cs':List D}(ht:a8 P t=true)(hc:P.cellsOf t=1)(hd:cs.drop off=v::cs'):a8 P t=true/\off+P.cellsOf t<=cs.length:=by
 refine⟨ht,?_⟩;have:(cs.drop off).length=cs'.length+1:=by rw[hd];rfl
 rw[length_drop] at this;omega
def n9{n:Nat}(ht:a8 P t=true)(hc:P.cellsOf t=n)(hl:n<=cs.length):a8 P t=true/\P.cellsOf t<=cs.length:=⟨ht,by rw[hc];exact hl⟩
def gB{n:Nat}(ht:a8 P t=true)(hc:P.cellsOf t=n)(hl:off+n<=cs.length):a8 P t=true/\off+P.cellsOf t<=cs.length:=⟨ht,by rw[hc];exact hl⟩
def kK{n:Nat}(hc:P.cellsOf t=n+1):0<P.cellsOf t:=by omega
def eO{n:Nat}{cs vs:List D}(ht:a8 P t=true)(hc:P.cellsOf t=n)(hv:vs.length=n/\off+n<=cs.length)(C:vs.all D.one=true):a8 P t=true/\vs.length=P.cellsOf t/\off+P.cellsOf t<=cs.length/\vs.all D.one=true:=
 ⟨ht,by rw[hc];exact hv.1,by rw[hc];exact hv.2,C⟩
end
variable{ty:TypeId}
section
variable{P:Program}{K:D->St->Prop}{st:St}
def De(h:K (.bu []) st):pb P [] K .ret st:=h
def Df(h:K (.bu []) st):pb P [] K .normal st:=h
def aC{t:Nat}{d:D}(hd:st.env t=d)(h:K d st):pb P [.tmp t] K .ret st:=⟨aa,by subst hd;exact h⟩
def fB{t u:Nat}{d e:D}(hd:st.env t=d)(he:st.env u=e)(h:K (.bu [d,e]) st):pb P [.tmp t,.tmp u] K .ret st:=⟨aa,aa,by subst hd;subst he;exact h⟩
def VL{t u w:Nat}{d e f:D}(hd:st.env t=d)(he:st.env u=e)(hf:st.env w=f)(h:K (.bu [d,e,f]) st):pb P [.tmp t,.tmp u,.tmp w] K .ret st:=⟨aa,aa,aa,by subst hd;subst he;subst hf;exact h⟩
def kz{a n:Nat}{e:TypeId}{cs vs:List D}(ha:st.env a=.rp i off)(hm:st.mem i=some (.cells cs e))(hg:bX P ty=true)(hc:P.cellsOf ty=n)(hv:(cs.drop off).take n=vs)(ht:a8 P ty=true)(hl:off+n<=cs.length):
 ∃ p,vP P st (.cell a ty)=some (p,.agg vs)/\p:=⟨a8 P ty=true/\off+n<=cs.length,by simp[vP,ha,hm,mB,hg,if_true,hc,hv],ht,hl⟩
def vy{a:Nat}{e:TypeId}{cs':List D}{v:D}(ha:st.env a=.rp i off)(hm:st.mem i=some (.cells cs e))(hg:bX P ty=false)(hc:P.cellsOf ty=1)(hv:cs.drop off=v::cs')(ht:a8 P ty=true):
 ∃ p,vP P st (.cell a ty)=some (p,v)/\p:=by
 have hl:off+1<=cs.length:=by
  have:(cs.drop off).length=cs'.length+1:=by rw[hv];rfl
  rw[length_drop] at this;omega
 exact⟨a8 P ty=true/\off+1<=cs.length,by simp[vP,ha,hm,mB,hg,Bool.false_eq_true,if_false,hc,hv,headD_cons],ht,hl⟩
def nG{a:Nat}{d:D}(hr:∃ p,vP P st (.cell a ty)=some (p,d)/\p)(h:K d st):pb P [.cell a ty] K .ret st:=by
 let⟨p,h1,h2⟩:=hr;simp[pb,uo,h1];exact⟨h2,h⟩
def Bb{a t:Nat}{d e:D}(hr:∃ p,vP P st (.cell a ty)=some (p,d)/\p)(he:st.env t=e)(h:K (.bu [d,e]) st):pb P [.cell a ty,.tmp t] K .ret st:=by
 let⟨p,h1,h2⟩:=hr;simp[pb,uo,h1];exact⟨h2,aa,by subst he;exact h⟩
end
end
section
variable{s:St}{next:St->Prop}{i:Nat}{a:Code}{J:St->Prop}
section
variable{P:Program}{Y:iu}{rf:Bool}{Q:Exit->St->Prop}{st:St}
def au{l:List (Nat×D)}{env:Env}{m:Mem}{nx:Nat}(h:pG l env):aP P ⟨env,m,nx⟩ ⟨aD l,m,nx⟩:=.forget env _ m nx (vu h)
def TZ(P:Program):List (Nat×List D×TypeId)->Mem->Prop
 |[],_=>True
 |(i,cs,e)::fs,m=>m i=some (.cells cs e)/\TZ P fs (λj=>if j=i then none else(m j).map (Row.sub (dq i cs (P.cellsOf e))))
def xN(P:Program):List (Nat×List D×TypeId)->D->D
 |[],d=>d
 |(i,cs,e)::fs,d=>xN P fs (sub (dq i cs (P.cellsOf e)) d)
def X4:∀ {fs:List (Nat×List D×TypeId)} {env:Env} {m:Mem} {nx:Nat},TZ P fs m->∃ m',aP P ⟨env,m,nx⟩ ⟨λt=>xN P fs (env t),m',nx⟩
 |[],env,m,nx,_=>⟨m,.refl _⟩
 |(i,cs,e)::fs,env,m,nx,⟨h1,h2⟩=>by
  let⟨m',h⟩:=X4 (env:=λt=>sub (dq i cs (P.cellsOf e)) (env t)) (nx:=nx) h2;exact⟨m',(aP.freeze env m nx i cs e h1).trans h⟩
def cH{env:Env}{m:Mem}{nx:Nat}(fs:List (Nat×List D×TypeId))(hf:TZ P fs m){l:List (Nat×D)}(hl:pG l λt=>xN P fs (env t)):aP P ⟨env,m,nx⟩ ⟨aD l,λ_=>none,nx⟩:=by
 let⟨m',h⟩:=X4 (env:=env) (nx:=nx) hf;exact h.trans ((aP.forget _ _ _ _ (vu hl)).trans (aP.drop _ _ _ _ λ_=>.inr rfl))
def o6(jz id:Nat)(next:St->Prop)(Q:Exit->St->Prop):Exit->St->Prop
 | .normal,s=>next s
 | .exit i,s=>if i=jz then next s else if i=id then Q .normal s else Q (.exit i) s
 |e,s=>Q e s
def Dx(P:Program){α:Type}(S:α->St)(J:α->Prop)(μ:α->Nat)(x:α)(s:St):Prop:=∃ C,aP P s (S C)/\J C/\μ C<μ x
def aW{α:Type}{S:α->St}{J:α->Prop}{μ:α->Nat}{x:α}(C:α)(hg:aP P s (S C))(M:J C)(U:μ C<μ x):Dx P S J μ x s:=⟨C,hg,M,U⟩
def Ij[fG Y]{b:Code}{α:Type}(S:α->St)(J:α->Prop)(μ:α->Nat)(C:α)(hg:aP P st (S C))(X:J C)(h:∀ x,J x->AW P Y rf b (jI (Dx P S J μ x) Q) (S x)){a:Code}(ha:∀ st,Q .normal st->Q .normal st):
 ∃ st',aP P st st'/\AW P Y rf (.loop b) Q st':=
 ⟨S C,hg,anh S J μ C rfl X λx hx=>zS b (λe st' hq=>by
  cases e with
  |normal=>
   let⟨M,h1,h2,U⟩:=hq;exact⟨S M,M,h1,rfl,h2,U⟩
  |_=>exact hq) (h x hx)⟩
variable{id jz t i1 i2 i3 i4:Nat}{rc ri:Array Oper}{body rest:Code}{α:Type}
def Rv[fG Y](h:AW P Y rf body (o6 jz id (λs=>aE P Y ri false [] (iJ next) ri.toList s []) Q) s):
 AW P Y rf (.seq (.block jz body) (.region i3 ri false)) (jI next (kf id Q)) s:=by
 refine zS body (λe s h=>?_) h;have hr:∀ s,aE P Y ri false [] (iJ next) ri.toList s []->∃ s',aP P s s'/\AW P Y rf (.region i3 ri false) (jI next (kf id Q)) s':=λs h=>⟨s,.refl s,kU (rf:=rf) (id:=i3) (aE.ni h λ_ h=>h)⟩
 cases e with
 |normal=>exact hr s h
 |exit i=>
  simp[o6] at h;simp[kf];split at h
  .rename_i hi;rw[bi hi];exact hr s h
  .rename_i hi;rw[ai hi];simp[jI,kf];exact h
 |_=>exact h
def eB[fG Y](S:α->St)(J:α->Prop)(μ:α->Nat)(C:α)(hg:aP P st (S C))(hJ:J C)
 (h:∀ x,J x->aE P Y rc false [] (iJ λs=>∃ g,opd s.env (.tmp t)=.s (.bool g)/\(g=true->AW P Y rf body (o6 jz id (λs=>aE P Y ri false [] (iJ (Dx P S J μ x)) ri.toList s []) Q) s)/\(g=false->Q .normal s)) rc.toList (S x) []):
 ∃ st',aP P st st'/\AW P Y rf (.block id (.loop (.seq (.region i1 rc false) (.seq (.cond (.tmp t) .skip (.exit id)) (.seq (.block jz body) (.region i3 ri false)))))) Q st':=by
 refine Ij (Q:=kf id Q) S J μ C hg hJ (λx hx=>?_) (a:=.skip) λ_ h=>h;refine kU (rf:=rf) (id:=i1) (aE.ni (h x hx) λs hs=>?_);let⟨g,h1,h2,X⟩:=hs;refine⟨s,.refl s,cM h1 (λM=>?_) λU=>?_⟩
 .exact cI (Rv (h2 M))
 .apply rh;simp[jI,kf,if_true];exact X U
def cT[fG Y](S:α->St)(J:α->Prop)(μ:α->Nat)(C:α)(hg:aP P st (S C))(hJ:J C)
 (h:∀ x,J x->aE P Y rc false [] (iJ λs=>∃ g,opd s.env (.tmp t)=.s (.bool g)/\(g=true->AW P Y rf body (o6 jz id (λs=>aE P Y ri false [] (iJ (Dx P S J μ x)) ri.toList s []) Q) s)/\(g=false->Q .normal s)) rc.toList (S x) []):
 ∃ st',aP P st st'/\AW P Y rf (.block id (.loop (.seq (.seq (.region i1 rc false) (.cond (.tmp t) .skip (.exit id))) (.seq (.block jz body) (.region i3 ri false))))) Q st':=by
 refine Ij (Q:=kf id Q) S J μ C hg hJ (λx hx=>?_) (a:=.skip) λ_ h=>h;refine aG (kU (rf:=rf) (id:=i1) (aE.ni (h x hx) λs hs=>?_));let⟨g,h1,h2,X⟩:=hs;refine⟨s,.refl s,cM h1 (λM=>?_) λU=>?_⟩
 .exact cI (Rv (h2 M))
 .apply rh;simp[jI,kf,if_true];exact X U
def Y6[fG Y](h:AW P Y rf body (o6 jz id next Q) s):AW P Y rf (.block jz body) (jI next (kf id Q)) s:=by
 refine zS body (λe s h=>?_) h;cases e with
 |exit i=>
  simp[o6] at h;simp[kf];split at h
  .rename_i hi;rw[bi hi];exact h
  .rename_i hi;rw[ai hi];simp[jI,kf];exact h
 |_=>exact h
def LQ[fG Y](S:α->St)(J:α->Prop)(μ:α->Nat)(C:α)(hg:aP P st (S C))(hJ:J C)
 (h:∀ x,J x->aE P Y rc false [] (iJ λs=>∃ g,opd s.env (.tmp t)=.s (.bool g)/\(g=true->AW P Y rf body (o6 jz id (Dx P S J μ x) Q) s)/\(g=false->Q .normal s)) rc.toList (S x) []):
 ∃ st',aP P st st'/\AW P Y rf (.block id (.loop (.seq (.seq (.region i1 rc false) (.cond (.tmp t) .skip (.exit id))) (.block jz body)))) Q st':=by
 refine Ij (Q:=kf id Q) S J μ C hg hJ (λx hx=>?_) (a:=.skip) λ_ h=>h;refine aG (kU (rf:=rf) (id:=i1) (aE.ni (h x hx) λs hs=>?_));let⟨g,h1,h2,X⟩:=hs;refine⟨s,.refl s,cM h1 (λM=>?_) λU=>?_⟩
 .exact cI (Y6 (h2 M))
 .apply rh;simp[jI,kf,if_true];exact X U
def cB(h:Q .normal s):AW P Y rf .skip Q s:=h
def bj(h:Q .ret s):AW P Y rf .ret Q s:=h
def bP(h:Q .ret s):o6 jz id next Q .ret s:=h
def aY{K:St->Prop}(h:Q .ret s):jI K Q .ret s:=h
def cA(h:Q .ret s):kf id Q .ret s:=h
def LR(h:Q .ret s):MH Q .ret s:=h
def yP(h:next s):o6 jz id next Q (.exit jz) s:=by simp[o6,if_true];exact h
def apK(h2:i≠jz)(h1:i≠id)(h:Q (.exit i) s):o6 jz id next Q (.exit i) s:=by simp[o6,ai h2,ai h1];exact h
def rj[fG Y](h:AW P Y rf a (kf id (jI (λst=>AW P Y rf rest Q st) Q)) st):AW P Y rf (.seq (.block id a) rest) Q st:=acr (λst=>AW P Y rf rest Q st) (tN h) λ_ h=>h
def qw(h:AW P Y rf rest Q s):AW P Y rf .skip (kf id (jI (λst=>AW P Y rf rest Q st) Q)) s:=h
def abo[fG Y](h:AW P Y rf a (jI (λst=>AW P Y rf rest Q st) Q) st):AW P Y rf (.seq a rest) Q st:=acr _ h λ_ h=>h
def nH[fG Y]{r:Array Oper}(h:aE P Y r false [] (iJ J) r.toList st []):AW P Y rf (.region i r false) (jI J Q) st:=kU (rf:=rf) (id:=i) (aE.ni h λ_ h=>h)
def sy[fG Y]{r:Array Oper}(h:aE P Y r false [] (iJ J) r.toList st []):AW P Y rf (.region i r false) (kf id (jI J Q)) st:=kU (rf:=rf) (id:=i) (aE.ni h λ_ h=>h)
def bV(h:J st):AW P Y rf .skip (jI J Q) st:=h
def QP(h:J st):AW P Y rf .skip (kf id (jI J Q)) st:=h
def cw[fG Y](R:St->Prop)(h:∃ st',aP P st st'/\AW P Y rf a (jI R Q) st')(k:∀ s,R s->∃ s',aP P s s'/\AW P Y rf rest Q s'):∃ st',aP P st st'/\AW P Y rf (.seq a rest) Q st':=by
 let⟨st',hg,h⟩:=h;exact⟨st',hg,fS R h k⟩
end
def Real(d:D):Prop:=∃ F β w v,R F β w d v
variable{es:List D}
def Real.sl{n:Nat}(h:Real (.sl es n)):n<=maxLen/\∀ d∈es,Real d:=by
 let⟨F,β,w,v,h⟩:=h;cases h with
 |ln=>simp[maxLen]
 |sl _ _ b o cap us hf hb ao sZ eJ hc hh=>
  refine⟨Nat.le_trans sZ eJ,λd hd=>?_⟩;let⟨k,hk⟩:=cV hd;exact⟨F,β,w,_,hh k d hk⟩
def Real.agg{cs:List D}(h:Real (.agg cs)):∀ d∈cs,Real d:=by
 let⟨F,β,w,v,h⟩:=h;obtain⟨vs,rfl,hl,hh⟩:=h.wK;intro d hd;let⟨k,hk⟩:=cV hd;have:k<vs.length:=by rw[hl];exact(bQ.1 hk).1
 exact⟨F,β,w,_,hh k d vs[k] hk (by simp[this])⟩
variable{args:List D}
def aae{F:Nat->Prop}{β:aZ}{w:World}{vs:Array Value}(h:Rs F β w args vs):∀ a∈args,Real a:=λa ha=>by
 let⟨k,hk⟩:=cV ha;have:k<vs.size:=by rw[h.1];exact(bQ.1 hk).1
 exact⟨F,β,w,vs[k],h.2 k a _ hk (by simp[this])⟩
variable{f:FuncId}
def nB{P:Program}{r:D}(he:pD P f=true)(ht:∀ a∈args,Tr a)(h:(∀ a∈args,Real a)->aH P f args r):aH P f args r:=
 ⟨he,ht,λF w vs C hR=>(h (aae hR)).2.2 F w vs C hR⟩
def ahv{P:Program}{n:Nat}{t:TypeId}(he:pD P f=true)(ht:∀ a∈args,Tr a)(h:(∀ a∈args,Real a)->pL P f args es n t):pL P f args es n t:=
 ⟨he,ht,λF w vs C hR=>(h (aae hR)).2.2 F w vs C hR⟩
end
section
variable{j:Nat}{b:Bool}{u:Nat}
section
variable{P:Program}{m:Mem}{bR:List Nat}
def dR{a:D}(h:Tr a):Sn P bR m a a:=λ_ _ _ _ _ hv=>h.S7 hv
def I3{i off n:Nat}{cs es:List D}{e:TypeId}(hm:m i=some (.cells cs e))(hi:i∈bR)(J:(cs.drop off).take (n*P.cellsOf e)=es)(ht:∀ a∈es,Tr a):Sn P bR m (.rs i off n) (.sl es n):=λF β w v hl hv=>by
 subst J;let⟨p,hp,hr,M⟩:=hl i hi _ hm;cases hv with
 |oE _ _ _ _ h1 _=>rw[h1] at hp;cases hp;cases hr
 |lN _ a h1=>
  rw[h1] at hp;cases hp;cases hr;simp[drop_nil,take_nil];exact .ln a 0
 |mJ _ _ a b o len room sz h1=>
  simp[Nat.zero_mul,take_zero];exact .ln a 0
 |rs _ _ _ cap b o len room sz h1 hn eJ h2 h3=>
  rw[h1] at hp;cases hp
  have ao:b<w.heap.size:=by
   cases hr with
   |cells _ _ _ _ _ _ c hb _ _ _ _=>exact(Array.getElem?_eq_some_iff.1 hb).1
  let⟨C,hl,cC,_⟩:=hr.rd;let⟨us,U,X⟩:=(C.drop off).take (n*P.cellsOf e);exact .sl _ n b (o+off) cap us (M b rfl) (λk q hq=>by cases hq) ao hn eJ U λk d hk=>(ht d (bD hk)).S7 (X k d hk)
variable{Y:iu}{rf:Bool}{ops:Array Oper}{dr:Bool}{cf:List (Nat×Nat)}{Q:Exit->St->Prop}{rest:List Oper}{env:Env}{nx:Nat}{tr:pk}{t:Nat}{op:Op}{ty:TypeId}{pos:String}{after:Array Edge}
 {pre:Prop} {v:D} {rd:List Nat}
def aoU{row:Row}(hj:(ops[j]?).bind (·.dst)=some u)(hg:nF (env u) b=some true)(he:Ef P op env m nx ⟨pre,v,[(nx,some row)],rd,1⟩)(ha:je env op.operands.toList)(hp:pre)
 (K:aE P Y ops dr cf Q rest ⟨up env t v,up m nx (some row),nx+1⟩ (tr++[(rd,[nx])])):aE P Y ops dr cf Q (⟨some t,op,ty,pos,after,some (j,b)⟩::rest) ⟨env,m,nx⟩ tr:=
 apY hj hg he ha hp (λh=>by cases h) K
def MX{f:FuncId}{args C:List D}{r:D}(h:aH P f C r)(hs:r.ld=true)(hj:(ops[j]?).bind (·.dst)=some u)(hg:nF (env u) b=some true)(hc:eX (bO env op) op=some (f,args))(J:nP P bR m args C)(ha:je env op.operands.toList)
 (K:aE P Y ops dr cf Q rest ⟨up env t r,m,nx⟩ (tr++[(bR,[])])):aE P Y ops dr cf Q (⟨some t,op,ty,pos,after,some (j,b)⟩::rest) ⟨env,m,nx⟩ tr:=
 alr hj hg hc ha (.inr (.inl ⟨C,bR,r,J,h,hs,K⟩))
end
end
section
variable{j u i:Nat}{next:St->Prop}
section
variable{P:Program}{Y:iu}{rf:Bool}{ops:Array Oper}{dr:Bool}{cf:List (Nat×Nat)}{Q:Exit->St->Prop}{rest:List Oper}{env:Env}{m:Mem}{nx:Nat}{tr:pk}{t:Nat}{ty:TypeId}{pos:String}{after:Array Edge}
def ajc{b0 C:Bool}(hj:(ops[j]?).bind (·.dst)=some u)(hg:nF (env u) b0=some C){c a b:Operand}{x:Bool}(hc:(opd env c).core=.s (.bool true))(ha:(opd env a).core=.s (.bool x))
 (h0:C=true->(opd env c).ask) (h1:C=true->(opd env a).ask) (K:aE P Y ops dr cf Q rest ⟨up env t (.dw C (.s (.bool x))),m,nx⟩ (tr++[([],[])])):
 aE P Y ops dr cf Q (⟨some t,.pick c a b,ty,pos,after,some (j,b0)⟩::rest) ⟨env,m,nx⟩ tr:=by
 have he:=Fv (P:=P) (env:=env) (m:=m) (nx:=nx) (a:=a) (b:=b) hc;simp only[ha,D.iw,Option.getD_some,if_true] at he;simp only[aE];refine .inl ?_;simp only[nt];rw[hj];simp only[Option.bind_some];rw[hg,he.nc,he.ny,he.ok];exact⟨λhc=>⟨by simp only[asks];exact h0 hc,λ_=>⟨h1 hc,rfl⟩,λh=>by cases h⟩,K⟩
def ajd{b0 C:Bool}(hj:(ops[j]?).bind (·.dst)=some u)(hg:nF (env u) b0=some C){c a b:Operand}{y:Bool}(hc:(opd env c).core=.s (.bool false))(hb:(opd env b).core=.s (.bool y))
 (h0:C=true->(opd env c).ask) (h1:C=true->(opd env b).ask) (K:aE P Y ops dr cf Q rest ⟨up env t (.dw C (.s (.bool y))),m,nx⟩ (tr++[([],[])])):
 aE P Y ops dr cf Q (⟨some t,.pick c a b,ty,pos,after,some (j,b0)⟩::rest) ⟨env,m,nx⟩ tr:=by
 have he:=Fv (P:=P) (env:=env) (m:=m) (nx:=nx) (a:=a) (b:=b) hc;simp only[hb,D.iw,Option.getD_some,Bool.false_eq_true,if_false] at he;simp only[aE];refine .inl ?_;simp only[nt];rw[hj];simp only[Option.bind_some];rw[hg,he.nc,he.ny,he.ok];exact⟨λhc=>⟨by simp only[asks];exact h0 hc,λh=>oH,λ_=>⟨h1 hc,rfl⟩⟩,K⟩
variable{id:Nat}{st:St}
def Zk[fG Y]{J:St->Prop}(hi:ct ops=some cf)(h:aE P Y ops true cf (iJ J) ops.toList st []):AW P Y rf (.region i ops true) (kf id (jI J Q)) st:=IM (rf:=rf) (id:=i) hi (aE.ni h λ_ h=>h)
def als{r:Option Row}(h:m i=r):∀ j,up (λ_=>none) i r j=m j\/up (λ_=>none) i r j=none:=λj=>by
 by_cases hj:j=i
 .subst hj;left;rw[aw,h]
 .right;rw[aV _ _ hj]
def Bp[fG Y]{jz:Nat}(hi:ct ops=some cf)(h:aE P Y ops true cf (iJ next) ops.toList st []):AW P Y rf (.region i ops true) (o6 jz id next Q) st:=IM (rf:=rf) (id:=i) hi (aE.ni h λ_ h=>h)
def gj[fG Y]{jz:Nat}(h:aE P Y ops false [] (iJ next) ops.toList st []):AW P Y rf (.region i ops false) (o6 jz id next Q) st:=kU (rf:=rf) (id:=i) (aE.ni h λ_ h=>h)
def bA:List (Nat×Row)->Mem
 |[],_=>none
 |(i,r)::l,j=>if j=i then some r else bA l j
def IN:List (Nat×Row)->Mem->Prop
 |[],_=>True
 |(i,r)::l,m=>m i=some r/\IN l m
def RD:∀ {l:List (Nat×Row)} {m:Mem},IN l m->∀ i,bA l i=m i\/bA l i=none
 |[],_,_,_=>.inr rfl
 |(k,r)::l,m,h,i=>by
  simp[bA];by_cases hi:i=k
  .subst hi;rw[bi rfl];exact .inl h.1.symm
  .rw[ai hi];exact RD h.2 i
def bp{l:List (Nat×D)}{ml:List (Nat×Row)}(h:pG l env)(hm:IN ml m):aP P ⟨env,m,nx⟩ ⟨aD l,bA ml,nx⟩:=(aP.forget env _ m nx (vu h)).trans (.drop _ _ _ _ (RD hm))
end
end
section
variable{α:Type}
def ay{f:Nat->α}{k j:Nat}{v r:α}(h:j≠k)(hf:f j=r):up f k v j=r:=(aV f v h).trans hf
variable{β:Sort _}{i:Nat}
def azV{M m:Mem}{r:Option Row}(h:M=m)(x:β)(k:β->m i=r:=by intro x;repeat (first|exact x|exact rfl|exact aw _ _ _|apply ay (by omega))):M i=r:=h ▸ k x
def azW{p:Prop}(x:β)(k:β->p:=by intro x;dsimp only;repeat (first|exact x|exact aw _ _ _|apply ay (by omega))):p:=k x
variable{off:Nat}{cs:List D}
def nh{i sz:Nat}:sub (dq i cs sz) (.rp i off)=.pt (cs.drop off):=by simp[sub,xm,dq]
def w8{n sz:Nat}:sub (dq i cs sz) (.rs i off n)=.sl ((cs.drop off).take (n*sz)) n:=by simp[sub,xm,dq]
def lz{j sz:Nat}(h:j≠i):sub (dq i cs sz) (.rp j off)=.rp j off:=by simp[sub,xm,dq,h]
def yp{j n sz:Nat}(h:j≠i):sub (dq i cs sz) (.rs j off n)=.rs j off n:=by simp[sub,xm,dq,h]
def HV{f:α->List D}{sz:Nat}(hs:∀ x,(f x).length=sz):∀ (l:List α) (k:Nat),(l.flatMap f).take (k*sz)=(l.take k).flatMap f
 |[],k=>by simp
 |x::l,0=>by simp
 |x::l,k+1=>by
  rw[flatMap_cons,take_succ_cons,flatMap_cons, <- HV hs l k,show(k+1)*sz=(f x).length+k*sz by rw[hs x,Nat.add_mul];omega,take_length_add_append]
def anZ{f:α->List D}{sz k:Nat}{l:List α}(hs:∀ x,(f x).length=sz)(hk:k<=l.length):
 D.sl (((l.flatMap f).drop ((0:Int).toNat*sz)).take (((k:Int) - 0).toNat*sz)) ((k:Int) - 0).toNat=D.sl ((l.take k).flatMap f) (l.take k).length:=by
 have h1:((k:Int) - 0).toNat=k:=by omega
 have h2:(0:Int).toNat*sz=0:=by simp
 rw[h1,h2,drop_zero,HV hs,length_take,Nat.min_eq_left hk]
variable{e:TypeId}{l es:List D}{bR:List Nat}
section
variable{P:Program}{env:Env}{m:Mem}{nx:Nat}{x y z:Operand}{t:TypeId}{v:D}
def alB{es:List (Value×D)}{key:Value}{kt:TypeId}(hx:(opd env x).core=.mp i)(hm:m i=some (.map es))(hk:xv (opd env y).core=some key)(hz:(opd env z).core=v)(ht:iZ P t=kt):
 Ef P (.insert t x y z) env m nx ⟨kN P t=true/\ew P kt key=true/\es.all (λe=>ew P kt e.1)=true,.bu [],[(i,some (.map (mG key v es)))],[i],0⟩:=by
 refine⟨?_,rfl,rfl⟩;show rz P m t (opd env x).core (opd env y).core (opd env z).core=_;simp[rz,hk,hx,hm,ht,hz]
variable{n n':Int}{k:IntKind}{c:Bool}{p:TypeId}{n0:Nat}
def abN(hx:(opd env x).core=.s (.int k n))(hy:(opd env y).core=.s (.int k n'))(hd:decide (n'<n)=c):Ef P (.binOp .gtr t x y p) env m nx ⟨k=k,.s (.bool c),[],[],0⟩:=by subst hd;exact SZ hx hy
def Su(hx:(opd env x).core=.s (.int k n))(hy:(opd env y).core=.s (.int k n'))(hd:decide (n<n')=c):Ef P (.binOp .lss t x y p) env m nx ⟨k=k,.s (.bool c),[],[],0⟩:=by subst hd;exact SX hx hy
def aoV(hx:(opd env x).core=.s (.int k n))(hy:(opd env y).core=.s (.int k n'))(hd:decide (n<=n')=c):Ef P (.binOp .leq t x y p) env m nx ⟨k=k,.s (.bool c),[],[],0⟩:=by subst hd;exact SY hx hy
def Ss(hx:(opd env x).core=.s (.int k n))(hy:(opd env y).core=.s (.int k n'))(hd:(n==n')=c):Ef P (.binOp .eql t x y p) env m nx ⟨k=k,.s (.bool c),[],[],0⟩:=by subst hd;exact NY hx hy
def abO(hx:(opd env x).core=.s (.int k n))(hy:(opd env y).core=.s (.int k n'))(hd:(n !=n')=c):Ef P (.binOp .neq t x y p) env m nx ⟨k=k,.s (.bool c),[],[],0⟩:=by subst hd;exact S3 hx hy
def abR(hx:(opd env x).core=.s (.int k n))(hy:(opd env y).core=.s (.int k n')){r:Int}(hd:k.wrap (n.tdiv n')=r):Ef P (.binOp .quo t x y p) env m nx ⟨k=k/\n'≠0,.s (.int k r),[],[],0⟩:=by subst hd;exact aoE hx hy
def abS(hx:(opd env x).core=.s (.int k n))(hy:(opd env y).core=.s (.int k n')){r:Int}(hd:n.tmod n'=r):Ef P (.binOp .rem t x y p) env m nx ⟨k=k/\n'≠0,.s (.int k r),[],[],0⟩:=by subst hd;exact apB hx hy
def Sv(hx:(opd env x).core=.s (.int k n))(hy:(opd env y).core=.s (.int k n'))(hd:decide (n'<=n)=c):Ef P (.binOp .geq t x y p) env m nx ⟨k=k,.s (.bool c),[],[],0⟩:=by subst hd;exact S0 hx hy
def anC{j l:Nat}{r:Row}(hx:(opd env x).core=.rp j 0)(hy:(opd env y).core=.s (.int k (i:Int)))(hm:m j=some r)(he:aT P t=e)(hs:P.cellsOf e=1)(hl:s4 P t=l):
 Ef P (.indexAddr t x y) env m nx ⟨rX P t=true/\i<l,.rp j i,[],[j],0⟩:=by
 have h:=aoF (P:=P) (env:=env) (m:=m) (nx:=nx) (t:=t) hx hy hm he hs hl;have h1:0+((i:Int)).toNat*1=i:=by simp
 have h2:(rX P t=true/\(0:Int)<=(i:Int)/\(i:Int)<l)=(rX P t=true/\i<l):=by
  apply propext;constructor
  .rintro⟨a,_,b⟩;exact⟨a,oG⟩
  .rintro⟨a,b⟩;exact⟨a,oG,oG⟩
 rw[h1,h2] at h;exact h
def rG{n:Nat}(h:l.length=n):(l.drop 0).take n=l:=by rw[drop_zero,cX oG]
def ab2{n:Nat}(h:l.length=n):l.take n=l:=cX oG
def RF{z:List D}(hz:z.length=20)(hl:l.length=20):jF z 0 l=l:=by
 unfold jF;split
 .simp at hl
 .rw[take_zero,nil_append,drop_eq_nil_of_le oG,append_nil]
def MY(hx:(opd env x).core=.sl es 0):Ef P (.binOp .eql t x (.const (.slice none 0 0)) p) env m nx ⟨bH P t=true,.ub,[],[],0⟩:=⟨by simp[bw,bO,hx,p6,if_true],rfl,rfl⟩
def MZ{l:Nat}(hx:(opd env x).core=.sl es l)(hl:l≠0):Ef P (.binOp .eql t x (.const (.slice none 0 0)) p) env m nx ⟨bH P t=true,.s (.bool false),[],[],0⟩:=⟨by simp[bw,bO,hx,p6,ai hl],rfl,rfl⟩
def oi{n sz:Nat}{es:List D}(hs:P.cellsOf e=sz)(h:(cs.drop off).take (n*sz)=es):xN P [(i,cs,e)] (.rs i off n)=.sl es n:=by subst hs h;exact w8
def yk(h:env n0=.z):aP P ⟨env,m,nx⟩ ⟨aD [(n0,.sl [] 0)],λ_=>none,nx+1⟩:=by
 have h1:=aP.oY (P:=P) env m nx n0 0 h;have h2:=cH (P:=P) (env:=up env n0 (.rs nx 0 0)) (m:=up m nx (some (.cells [] 0))) (nx:=nx+1) [(nx,[],0)] ⟨aw _ _ _,aa⟩ (l:=[(n0,.sl [] 0)]) ⟨(congrArg _ r9).trans (oi (sz:=P.cellsOf 0) rfl oS),aa⟩;exact h1.trans h2
def qR:Sn P bR m .z (.sl [] 0):=λF β w v _ hv=>by
 obtain⟨x,rfl⟩:=hv.F1;exact .ln x 0
def apb{aS bs:List D}(h:nP P bR m aS bs):Sn P bR m (.agg aS) (.agg bs):=λF β w v hl hv=>by
 obtain⟨vs,rfl,hn,hh⟩:=hv.wK;let⟨h1,h2⟩:=Nc hl h;refine .agg _ vs oG λk d u hd hu=>?_;have hk:k<aS.length:=by rw[h1];exact(bQ.1 hd).1
 exact h2 k aS[k] d (by simp[hk]) hd u (hh k aS[k] u (by simp[hk]) hu)
def ZF{l:List (Nat×D)}{m':Mem}(h:pG l env)(hm:∀ i,m' i=m i\/m' i=none):aP P ⟨env,m,nx⟩ ⟨aD l,m',nx⟩:=(aP.forget env _ m nx (vu h)).trans (.drop _ _ _ _ hm)
def UQ:List (Nat×List (Value×D))->Mem->Prop
 |[],_=>True
 |(i,es)::fs,m=>m i=some (.map es)/\UQ fs (λj=>if j=i then none else(m j).map (Row.sub (Ea i es)))
def Wx:List (Nat×List (Value×D))->D->D
 |[],d=>d
 |(i,es)::fs,d=>Wx fs (sub (Ea i es) d)
def YC:∀ {fs:List (Nat×List (Value×D))} {env:Env} {m:Mem} {nx:Nat},UQ fs m->∃ m',aP P ⟨env,m,nx⟩ ⟨λt=>Wx fs (env t),m',nx⟩
 |[],env,m,nx,_=>⟨m,.refl _⟩
 |(i,es)::fs,env,m,nx,⟨h1,h2⟩=>by
  let⟨m',h⟩:=YC (env:=λt=>sub (Ea i es) (env t)) (nx:=nx) h2;exact⟨m',(aP.LJ env m nx i es h1).trans h⟩
def amk(fs:List (Nat×List (Value×D)))(hf:UQ fs m){l:List (Nat×D)}(hl:pG l λt=>Wx fs (env t)):aP P ⟨env,m,nx⟩ ⟨aD l,λ_=>none,nx⟩:=by
 let⟨m',h⟩:=YC (P:=P) (env:=env) (nx:=nx) hf;exact h.trans ((aP.forget _ _ _ _ (vu hl)).trans (aP.drop _ _ _ _ λ_=>.inr rfl))
end
end
end Go.Abs
namespace Go.Abs
open List
open Go
section
abbrev I(n:Int):D:=.s (.int .i64 n)
abbrev U8(n:Int):D:=.s (.int .u8 n)
abbrev B(b:Bool):D:=.s (.bool b)
abbrev S(s:ByteArray):D:=.s (.string s)
abbrev aU(l:List Int):D:=.sl (l.map I) l.length
abbrev jW(l:List Int):D:=.sl (l.map U8) l.length
abbrev fT(l:List ByteArray):D:=.sl (l.map S) l.length
structure cq where
 op:Int
 to:Int
 a:Int
 b:Int
 n:Int
 args:List Int
structure jf where
 name:ByteArray
 to:Int
structure End where
 kind:Int
 a:Int
 b:Int
 to:Int
 ei:Int
 name:ByteArray
 ins:cq
 args:List Int
 aK:List jf
 others:Int
structure bI where
 ins:List cq
 fin:End
structure az where
 name:ByteArray
 iter:Bool
 args:Int
 result:Int
 aj:List Int
 a6:List Int
 signals:List ByteArray
 blocks:List bI
def bU(x:cq):List D:=[U8 x.op,I x.to,I x.a,I x.b,I x.n,aU x.args]
def jX(w:jf):List D:=[S w.name,I w.to]
def nX(l:List jf):D:=.sl (l.flatMap jX) l.length
def jo(l:List cq):D:=.sl (l.flatMap bU) l.length
def bq(x:End):List D:=[U8 x.kind,I x.a,I x.b,I x.to,I x.ei,S x.name,U8 x.ins.op,I x.ins.to,I x.ins.a,I x.ins.b,I x.ins.n,aU x.ins.args,aU x.args,nX x.aK,I x.others]
def cE(b:bI):List D:=jo b.ins::bq b.fin
def dz(l:List bI):D:=.sl (l.flatMap cE) l.length
def aL(f:az):List D:=[S f.name,B f.iter,I f.args,U8 f.result,jW f.aj,jW f.a6,fT f.signals,dz f.blocks]
def bG(p q:D)(f:az):List D:=[S f.name,B f.iter,I f.args,U8 f.result,jW f.aj,jW f.a6,fT f.signals,dz f.blocks,p,q]
@[simp] theorem azc (p q : D) (x : az) : (bG p q x).length = 10 := rfl
@[simp] theorem azg (x : cq) : (bU x).length = 6 := rfl
@[simp] theorem azd (x : jf) : (jX x).length = 2 := rfl
@[simp] theorem ahR (x : End) : (bq x).length = 15 := rfl
@[simp] theorem HE (x : bI) : (cE x).length = 16 := rfl
@[simp] theorem aze (x : az) : (aL x).length = 8 := rfl
def Lc(x:cq):(bU x).length=6:=rfl
def HU(x:jf):(jX x).length=2:=rfl
def E8(x:bI):(cE x).length=16:=rfl
def Lb(x:az):(aL x).length=8:=rfl
variable{α:Type}
def rQ(p:α->Bool)(l:List α):Int:=match l.findIdx? p with
 |some i=>i
 |none=> -1
variable{p:α->Bool}
def yj{l:List α}{k:Nat}{x:α}(hx:l[k]? =some x)(hp:p x=true)(h:∀ j y,j<k->l[j]? =some y->p y=false):rQ p l=k:=by
 have:l.findIdx? p=some k:=by
  rw[findIdx?_eq_some_iff_getElem];let⟨hk,he⟩:=bQ.1 hx;refine⟨hk,by rw[he];exact hp,λj hj=>?_⟩;have:=h j l[j] hj (by simp[show j<l.length by omega]);simp[this]
 simp[rQ,this]
def Bf{l:List α}(h:∀ (j:Nat) y,l[j]? =some y->p y=false):rQ p l= -1:=by
 have:l.findIdx? p=none:=by
  rw[findIdx?_eq_none_iff];intro x hx;let⟨j,hj⟩:=cV hx;exact h j x hj
 simp[rQ,this]
def Ls(p:α->Bool)(l:List α):decide (0<=rQ p l)=l.any p:=by
 unfold rQ;cases h:l.findIdx? p with
 |none=>
  rw[findIdx?_eq_none_iff] at h;have:l.any p=false:=any_eq_false.2 λx hx=>by simp[h x hx]
  simp[this]
 |some i=>
  let⟨hi,hp,_⟩:=findIdx?_eq_some_iff_getElem.1 h;have:l.any p=true:=any_eq_true.2 ⟨l[i],oS,hp⟩;simp[this]
def dP(l:List Int):Tr (aU l):=.sl (.map λ_=>.s _)
def qq(l:List Int):Tr (jW l):=.sl (.map λ_=>.s _)
def rA(l:List ByteArray):Tr (fT l):=.sl (.map λ_=>.s _)
def tP(x:cq):∀ a∈bU x,Tr a:=.cons (.s _) (.cons (.s _) (.cons (.s _) (.cons (.s _) (.cons (.s _) (.cons (dP _) .nil)))))
def LC(x:jf):∀ a∈jX x,Tr a:=.cons (.s _) fp
def mr(l:List jf):Tr (nX l):=.sl (.flat LC)
def an6(l:List cq):Tr (jo l):=.sl (.flat tP)
def oU(x:End):∀ a∈bq x,Tr a:=.cons (.s _) (.cons (.s _) (.cons (.s _) (.cons (.s _) (.cons (.s _) (.cons (.s _) (.cons (.s _) (.cons (.s _) (.cons (.s _) (.cons (.s _) (.cons (.s _) (.cons (dP _) (.cons (dP _) (.cons (mr _) fp)))))))))))))
def Yp(x:bI):∀ a∈cE x,Tr a:=.cons (an6 _) (oU _)
def QG(l:List bI):Tr (dz l):=.sl (.flat Yp)
def gS(x:az):∀ a∈aL x,Tr a:=.cons (.s _) (.cons (.s _) (.cons (.s _) (.cons (.s _) (.cons (qq _) (.cons (qq _) (.cons (rA _) (.cons (QG _) .nil)))))))
def Ib{p q:D}(hp:Tr p)(hq:Tr q)(x:az):∀ a∈bG p q x,Tr a:=.cons (.s _) (.cons (.s _) (.cons (.s _) (.cons (.s _) (.cons (qq _) (.cons (qq _) (.cons (rA _) (.cons (QG _) (.cons hp (.cons hq .nil)))))))))
def oa{p q:D}(hp:Tr p)(hq:Tr q)(x:az):Tr (.agg (bG p q x)):=.agg (Ib hp hq x)
variable{f:az}
def zO{p q:D}(h1:p.one=true)(h2:q.one=true):(bG p q f).all D.one=true:=by
 simp only[bG,all_cons,all_nil,h1,h2];rfl
abbrev dV(n:Int):D:=.s (.int .u64 n)
abbrev jK(w:List Int):D:=.agg (w.map dV)
def s9(w:List Int):(w.map dV).all D.one=true:=bK.2 λx hx=>by obtain⟨y,_,rfl⟩:=mem_map.1 hx;rfl
variable{i:Nat}{x:Int}
def alA{w:List Int}:((w.map dV).set i (dV x)).all D.one=true:=by rw[<- map_set];exact s9 _
def vS(w:List Int):Tr (jK w):=.agg (.map λ_=>.s _)
def uv(a b:Int):Int:=oR .and .u64 a b
def EI(a b:Int):Int:=oR .or .u64 a b
def BK(w:List Int)(m:Nat):List Int:=w.set (m / 64) (EI (w.getD (m / 64) 0) (IntKind.u64.wrap (1*2 ^ (min (m % 64) 64))))
def nM(w:List Int)(m:Nat):Bool:=uv ((w.getD (m / 64) 0).fdiv (2 ^ (min (m % 64) 64))) 1==1
def iS(w:List Int)(n:Int):List Int:=if 0<=n then BK w n.toNat else w
def gW(w v:List Int):Nat->List Int
 |0=>w
 |k+1=>(gW w v k).set k (uv ((gW w v k).getD k 0) (v.getD k 0))
def kL(w v:List Int):List Int:=gW w v 20
@[simp] theorem YD (w v : List Int) : ∀ k, (gW w v k).length = w.length
 |0=>rfl
 |k+1=>by simp[gW,YD w v k]
@[simp] theorem azk (w : List Int) (m : Nat) : (BK w m).length = w.length := by simp [BK]
@[simp] theorem azl (w : List Int) (n : Int) : (iS w n).length = w.length := by unfold iS; split <;> simp
@[simp] theorem Ys (w v : List Int) : (kL w v).length = w.length := YD w v 20
def wrap_i64{n:Nat}(h:n<2 ^ 62):IntKind.i64.wrap (n:Int)=n:=by
 unfold IntKind.wrap;simp[IntKind.signed,IntKind.bits];omega
def acU{m:Nat}(h:m<2 ^ 62):IntKind.i64.wrap ((m:Int).tdiv 64)=((m / 64:Nat):Int):=by
 rw[show(m:Int).tdiv 64=((m / 64:Nat):Int) from by rw[Int.tdiv_eq_ediv_of_nonneg oG];omega];exact wrap_i64 oG
def acV(m:Nat):(m:Int).tmod 64=((m % 64:Nat):Int):=by rw[Int.tmod_eq_emod_of_nonneg oG];omega
def ib(a b:Int):(a==b)=decide (a=b):=rfl
def eg(n a b:Int):Bool:=decide (a<=n)&&decide (n<=b)
def yq(b:Int):Bool:=decide (b<33)||decide (126<b)
def kZ(s:ByteArray):Bool:=eg s.size 1 120&& !(dO s).any yq
def yr(b:Int):Bool:=(decide (b<97)||decide (122<b))&&(decide (b<48)||decide (57<b))
def isName(s:ByteArray):Bool:=eg s.size 1 12&& !(dO s).any yr
def pC(C k:Int):Bool:=decide (k<1)||decide (C<k)
def gk(l:List Int)(C:Int):Bool:= !l.any (pC C)
def dc(l:List Int)(r:Int):Int:=if 0<=r then l.getD r.toNat 0 else 0
variable{l:List Int}
def yu(h:l[i]? =some x):dc l i=x:=by
 simp[dc,dU,h]
def QC{r:Int}(h:¬ (0<=r/\r<l.length)):dc l r=0:=by
 unfold dc;split
 .rename_i h0;have:l.length<=r.toNat:=by omega
  simp[dU,getElem?_eq_none this]
 .rfl
def kC{n a b:Int}:eg n a b=true↔a<=n/\n<=b:=by simp[eg]
def aj0{n a b:Int}:eg n a b=false↔¬ (a<=n/\n<=b):=by
 rw[<- Bool.not_eq_true,kC]
def fU(l:List Int)(r:Int):Bool:=dc l r==1||dc l r==2
def jC(l rs:List Int):Bool:=rs.all (fU l)
def pT(l a6:List Int)(r n:Int):Bool:=eg n 0 (a6.length - 1)&&(dc l r==dc a6 n)
def og(l:List Int)(r want of:Int):Bool:=
 if want=0 then r==0 else if want=1 then dc l r==1 else if want=2 then dc l r==2 else if want=3 then fU l r
 else dc l r !=0&&dc l r==of
structure Shape where
 to:Int
 a:Int
 b:Int
 args:Int
 low:Int
 high:Int
def mU(s:Shape):List D:=[I s.to,I s.a,I s.b,I s.args,I s.low,I s.high]
@[simp] theorem aza (x : Shape) : (mU x).length = 6 := rfl
def Yw(x:Shape):∀ a∈mU x,Tr a:=.cons (.s _) (.cons (.s _) (.cons (.s _) (.cons (.s _) (.cons (.s _) fp))))
def vr(l:List Int)(x:cq)(s:Shape):Int:=if s.to=0\/s.to=1 then dc l x.a else dc l x.to
def tK(l:List Int)(x:cq)(s:Shape):Bool:=if s.args=5 then eg x.args.length 1 6&&jC l x.args else if s.args=6 then decide ((x.args.length:Int)=1)&&jC l x.args else decide ((x.args.length:Int)=0)
def rC(l:List Int)(x:cq)(s:Shape):Bool:=
 og l x.to s.to 0&&(og l x.a s.a (vr l x s)&&(og l x.b s.b (vr l x s)&&(tK l x s&&eg x.n s.low s.high)))
def qF(l:List (Int×Shape)):List (Value×D):=l.map λx=>(.int .u8 x.1,.agg (mU x.2))
def CZ:Shape:=⟨0,0,0,0,0,0⟩
def gl(l:List (Int×Shape))(op:Int):Option Shape:=(l.find? λx=>x.1==op).map (·.2)
def nI:List (Int×Shape):=[(1,⟨1,0,0,0, -1000000000,1000000000⟩),(2,⟨3,4,0,0,0,0⟩),(3,⟨1,1,1,0,0,0⟩),(4,⟨1,1,1,0,0,0⟩),(5,⟨1,3,4,0,0,0⟩),(6,⟨1,1,1,0,0,0⟩),(7,⟨1,1,1,0,0,0⟩),(8,⟨1,1,0,0,0,0⟩),
 (9,⟨2,0,0,0,0,1⟩),(10,⟨2,0,0,5,0,5⟩),(11,⟨3,2,0,0,0,5⟩),(12,⟨0,2,3,0,0,5⟩),(13,⟨1,2,0,0,0,0⟩),(14,⟨1,2,0,0,0,0⟩),(15,⟨0,1,0,0,0,0⟩)]
def ko:List (Int×Shape):=[(30,⟨1,1,1,0,0,0⟩),(31,⟨1,1,1,0,0,0⟩),(32,⟨1,1,1,0,0,0⟩),(33,⟨1,1,1,0,0,0⟩),(34,⟨1,1,1,0,0,0⟩),(35,⟨0,2,3,0,0,0⟩),(36,⟨3,2,0,0,0,0⟩),(37,⟨3,2,1,0,0,0⟩),(38,⟨0,2,1,6,0,0⟩)]
def Gn(l:List (Int×Shape)):Tr (.im (qF l)):=.im λx hx=>by
 obtain⟨y,_,rfl⟩:=mem_map.1 hx;exact .agg (Yw _)
def aaX(op:Int):∀ l:List (Int×Shape),(fF (.int .u8 op) (qF l)).map (·.2)=(gl l op).map λs=>.agg (mU s)
 |[]=>rfl
 |(o,s)::l=>by
  have ih:=aaX op l;unfold qF at ih ⊢;simp only[map_cons,fF,tk,xu,gl,find?_cons] at ih ⊢;by_cases h:o=op
  .subst h;simp
  .have hb:(o==op)=false:=s0 h
   simp only[hb,beq_self_eq_true,Bool.and_false,Bool.false_eq_true,if_false,Option.map_map] at ih ⊢;exact ih
def ab4{P:Program}{t:TypeId}{C:D}(hz:rF P (qL P t)=C)(op:Int)(l:List (Int×Shape))(J:C=.agg (mU CZ)):lg P t true (fF (.int .u8 op) (qF l))=.bu [.agg (mU ((gl l op).getD CZ)),.s (.bool (gl l op).isSome)]:=by
 have h:=aaX op l;cases h1:fF (.int .u8 op) (qF l) with
 |none=>
  rw[h1] at h;have:gl l op=none:=s0 h.symm
  simp[lg,this,hz,J,Option.getD_none,Option.isSome_none,if_true]
 |some x=>
  rw[h1] at h;cases h2:gl l op with
  |none=>rw[h2] at h;simp at h
  |some s=>
   rw[h2] at h;let⟨i,d⟩:=x;simp[Option.map_some,bg] at h;subst h;simp[lg]
def aaQ{P:Program}{kt:TypeId}(hk:P.underlying kt=some (.int .u8))(l:List (Int×Shape)):(qF l).all (λe=>ew P kt e.1)=true:=by
 refine bK.2 λx hx=>?_;obtain⟨y,_,rfl⟩:=mem_map.1 hx;simp[ew,hk]
def bm(a b:Int):Bool:=decide (a=b)
def lW(x:cq):Bool:=decide ((x.args.length:Int)=0)
def kG(f:az)(b:Int)(x:cq)(phis:Bool)(ahead:Int):Bool:=
 if x.op=16 then bm x.to 0&&(bm (dc f.aj x.a) 3&&(bm x.b 0&&(bm x.n 0&&lW x)))
 else if x.op=17 then bm x.a 0&&(bm x.b 0&&(lW x&&pT f.aj f.a6 x.to x.n))
 else if x.op=18 then bm x.to 0&&(bm x.b 0&&(lW x&&pT f.aj f.a6 x.a x.n))
 else if x.op=19 then phis&&(decide (0<b)&&(fU f.aj x.to&&(bm x.a 0&&(bm x.b 0&&(bm x.n 0&&(bm x.args.length ahead&& !x.args.any λr=> !bm (dc f.aj r) (dc f.aj x.to)))))))
 else(gl nI x.op).isSome&&rC f.aj x ((gl nI x.op).getD CZ)
def BB(x:cq):Bool:=decide (x.op=0)&&(decide (x.to=0)&&(decide (x.a=0)&&(decide (x.b=0)&&(decide (x.n=0)&&decide ((x.args.length:Int)=0)))))
def xc(x:End):Bool:=decide (x.kind=0)&&(decide (x.a=0)&&(decide (x.b=0)&&(decide (x.to=0)&&(decide (x.ei=0)&&(x.name.toList==[]&&(decide (x.others= -1)&&(decide ((x.args.length:Int)=0)&&(decide ((x.aK.length:Int)=0)&&BB x.ins))))))))
def cS(f:az)(n:Int):Bool:=eg n 0 (f.blocks.length - 1)
def qG(f:az)(wsq:List jf)(i:Nat)(w:jf):Bool:=isName w.name&&(cS f w.to&& !(wsq.take i).any λv=>v.name.toList==w.name.toList)
def IT(f:az)(wsq:List jf):Bool:=wsq.zipIdx.all λx=>qG f wsq x.2 x.1
variable{wsq:List jf}
def Xh(h:∀ (i:Nat) w,wsq[i]? =some w->qG f wsq i w=true):IT f wsq=true:=by
 refine bK.2 λx hx=>?_;let⟨h1,h2⟩:=mem_zipIdx' hx;exact h x.2 x.1 (by rw[h2];simp[h1])
def PI{w:jf}(C:wsq[i]? =some w)(h:qG f wsq i w=false):IT f wsq=false:=by
 refine Bool.eq_false_iff.2 λht=>?_;have hx:(w,i)∈wsq.zipIdx:=mem_zipIdx_iff_getElem?.2 C;have:=bK.1 ht _ hx;rw[h] at this;cases this
def mu(f:az)(x:End):Bool:=IT f x.aK&&(decide ((x.aK.length:Int)<=7)&&(decide (x.others= -1)||cS f x.others))
def eR:cq:=⟨0,0,0,0,0,[]⟩
def fL(f:az)(x:End):Bool×End:=
 let r:End:={ x with kind:=0 }
 if x.kind=1 then(cS f x.to,{ r with to:=0 })
 else if x.kind=2 then(bm (dc f.aj x.a) 1&&(cS f x.to&&cS f x.ei),{ r with a:=0,to:=0,ei:=0 })
 else if x.kind=3 then(if f.result≠0/\f.iter=false then bm (dc f.aj x.a) f.result else bm x.a (-1),{ r with a:=0 })
 else if x.kind=4 then(isName x.name,{ r with name:=.empty })
 else if x.kind=5 then((gl ko x.ins.op).isSome&&(rC f.aj x.ins ((gl ko x.ins.op).getD CZ)&&(cS f x.to&&mu f x)),{ r with ins:=eR,to:=0,aK:=[],others:= -1 })
 else if x.kind=6 then(kZ x.name&&(decide ((x.args.length:Int)<=6)&&(jC f.aj x.args&&((bm x.a (-1)||fU f.aj x.a)&&(cS f x.to&&mu f x)))),{ r with name:=.empty,args:=[],a:=0,to:=0,aK:=[],others:= -1 })
 else if x.kind=7 then(kZ x.name&&(decide ((x.args.length:Int)<=6)&&(jC f.aj x.args&&(bm (dc f.aj x.a) 3&&cS f x.to))),{ r with name:=.empty,args:=[],a:=0,to:=0 })
 else if x.kind=8 then(bm (dc f.aj x.a) 3&&(fU f.aj x.b&&(cS f x.to&&(cS f x.ei&&mu f x))),{ r with a:=0,b:=0,to:=0,ei:=0,aK:=[],others:= -1 })
 else if x.kind=9 then(f.iter&&(bm (dc f.aj x.a) f.result&&cS f x.to),{ r with a:=0,to:=0 })
 else(false,r)
def bf(l:List Int)(n:Int):Bool:=l.any λc=>n==c
def nW(n:Int):Int:=1200+n
def qu:List Int:=[1,2,3,4,5,6,7,8,9,10,11,13,14,17,19]
def sw:List Int:=[30,31,32,33,34,36,37]
def eP(x:cq):Int:=if bf qu x.op then x.to else if bf sw x.op then x.to else -1
def fY(x:End):Int:=if x.kind=5 then eP x.ins else if bf [6,7] x.kind then x.a else if x.kind=8 then x.b else -1
def sD:List Int:=[2,8,11,13,14,15,16,18,36]
def wO:List Int:=[3,4,5,6,7,12,30,31,32,33,34,35,37]
def dE(x:cq):List Int:=if bf sD x.op then [x.a] else if bf wO x.op then [x.a,x.b] else if x.op=10 then x.args else if x.op=38 then x.a::x.b::x.args else []
def dM(x:End):List Int:=if bf [2,8,9] x.kind then [x.a] else if x.kind=3 then(if x.a≠ -1 then [x.a] else []) else if x.kind=5 then dE x.ins else if bf [6,7] x.kind then x.args else []
def gD(f:az)(x:End):Bool:=(fL f x).1&&xc (fL f x).2
end
end Go.Abs
namespace Go.Abs
open List
section
variable{κ:Type}[DecidableEq κ]
def qt:List κ->List κ->List κ
 |acc,[]=>acc
 |acc,k::ks=>qt (if k∈acc then acc else acc++[k]) ks
def cm(C:List κ):List κ:=qt [] C
def bT(C:List κ):List Nat:=C.map λk=>(cm C).idxOf k
def agU{acc C:List κ}{x:κ}:x∈qt acc C↔x∈acc\/x∈C:=by
 induction C generalizing acc with
 |nil=>simp[qt]
 |cons k C ih=>
  simp[qt,ih,mem_cons];by_cases h:k∈acc
  .simp[bi h];constructor
   .rintro(h|h)<;>simp[h]
   .rintro(h1|rfl|h1)
    .exact .inl h1
    .exact .inl h
    .exact .inr h1
  .simp[ai h,mem_append,mem_cons,not_mem_nil,or_false,or_assoc]
def rm{C:List κ}{x:κ}:x∈cm C↔x∈C:=by rw[cm,agU];simp
@[simp] theorem Fo (C : List κ) : (bT C).length = C.length := by simp [bT]
def Lu{C:List κ}{i:Nat}{k:κ}(h:C[i]? =some k):(bT C)[i]? =some ((cm C).idxOf k):=by simp[bT,h]
def aa8{l:List κ}{x y:κ}(hx:x∈l)(h:l.idxOf x=l.idxOf y):x=y:=by
 have h1:=idxOf_lt_length_of_mem hx;have C:l[l.idxOf x]=x:=getElem_idxOf h1;have h2:l.idxOf y<l.length:=h▸h1;have e2:l[l.idxOf y]=y:=getElem_idxOf h2;rw[<- C, <- e2];congr 1
def Lw{C:List κ}{i j:Nat}{a b:κ}(hi:C[i]? =some a)(hj:C[j]? =some b):(bT C)[i]? =(bT C)[j]? ↔a=b:=by
 rw[Lu hi,Lu hj];constructor
 .intro h;exact aa8 (rm.2 (bD hi)) (s0 h)
 .rintro rfl;rfl
end
section
variable{κ ι:Type}[DecidableEq κ][DecidableEq ι]
end
section
def pQ(ca:List (List Nat))(C:List Nat)(i:Nat):List Nat:=C.getD i 0::(ca.getD i []).map λt=>C.getD t 0
def gU(ca:List (List Nat))(C:List Nat):List (List Nat):=(range ca.length).map (pQ ca C)
variable{α:Type}{l:List α}{i:Nat}
@[simp] theorem azh (ca : List (List Nat)) (C : List Nat) : (gU ca C).length = ca.length := by simp [gU]
def mW{d x:α}(h:l[i]? =some x):l.getD i d=x:=by simp[dU,h]
def fx{d:α}(h:i<l.length):l[i]? =some (l.getD i d):=by simp[dU,h]
def JD(ca:List (List Nat)):Prop:=∀ (i:Nat) t,t∈ca.getD i []->t<ca.length
end
abbrev a7(l:List Nat):List Int:=l.map λ(n:Nat)=>(n:Int)
section
variable{κ:Type}[DecidableEq κ]
end
def atR(c:List (List Int))(n:Int):Int:=rQ (λx=>x.any λi=>i==n) c
section
abbrev PW:=(Nat×Nat)×List Nat
def gn(ca:List (List Nat))(p:Nat×Nat)(k:Nat):Nat×Nat:=((ca.getD p.1 []).getD k 0,(ca.getD p.2 []).getD k 0)
def sk(ca:List (List Nat))(fr:Nat×Nat)(x:PW)(st:List (Nat×Nat)×List PW)(k:Nat):List (Nat×Nat)×List PW:=
 if gn ca x.1 k≠fr/\gn ca x.1 k∉st.1 then(st.1++[gn ca x.1 k],st.2++[(gn ca x.1 k,x.2++[k])]) else st
def ie(ca:List (List Nat))(fr:Nat×Nat)(x:PW)(st:List (Nat×Nat)×List PW)(n:Nat):List (Nat×Nat)×List PW:=(range n).foldl (sk ca fr x) st
def rE(sn:List Nat)(ca:List (List Nat))(fr:Nat×Nat)(st:List (Nat×Nat)×List PW):List (Nat×Nat)×List PW:=match st.2 with
 |[]=>st
 |x::_=>if sn.getD x.1.1 0=sn.getD x.1.2 0 then((ie ca fr x st (ca.getD x.1.1 []).length).1,(ie ca fr x st (ca.getD x.1.1 []).length).2.drop 1) else(st.1,st.2.drop 1)
def pR(sn:List Nat)(ca:List (List Nat))(fr:Nat×Nat):Nat->List (Nat×Nat)×List PW->List PW
 |0,_=>[]
 |f+1,st=>match st.2 with
  |[]=>[]
  |x::_=>x::pR sn ca fr f (rE sn ca fr st)
def p0(sn:List Nat)(ca:List (List Nat))(a b:Nat):List PW:=pR sn ca (a,b) (ca.length*ca.length+2) ([],[((a,b),[])])
def wM(sn:List Nat)(ca:List (List Nat))(a b:Nat):Option PW:=(p0 sn ca a b).find? λx=>sn.getD x.1.1 0 !=sn.getD x.1.2 0
def tf(sn:List Nat)(ca:List (List Nat)):Nat->Nat->List Int->Bool
 |a,b,[]=>sn.getD a 0 !=sn.getD b 0
 |a,b,k::way=>sn.getD a 0==sn.getD b 0&&(decide (0<=k)&&(decide (k<(ca.getD a []).length)&&tf sn ca (gn ca (a,b) k.toNat).1 (gn ca (a,b) k.toNat).2 way))
variable{fr:Nat×Nat}{x:PW}{Y O:List PW}
section
variable{sn:List Nat}{ca:List (List Nat)}
inductive mZ(sn:List Nat)(ca:List (List Nat))(fr:Nat×Nat):List Nat->Nat×Nat->Prop
 |nil:mZ sn ca fr [] fr
 |snoc (w:List Nat) (p:Nat×Nat) (k:Nat) (h:mZ sn ca fr w p) (hs:sn.getD p.1 0=sn.getD p.2 0) (hk:k<(ca.getD p.1 []).length):mZ sn ca fr (w++[k]) (gn ca p k)
structure BI(sn:List Nat)(ca:List (List Nat))(fr:Nat×Nat)(Y:List PW)(S:List (Nat×Nat))(O:List PW):Prop where
 lead:∀ x∈Y++O,mZ sn ca fr x.2 x.1
 acq:(Y++O).map (·.1)=fr::S
 nodup:(fr::S).Nodup
 BL:(Y++O).Pairwise λx y=>x.2.length<=y.2.length
 XC:∀ x∈O,∀ y∈O,x.2.length<=y.2.length+1
 done:∀ x∈Y,sn.getD x.1.1 0=sn.getD x.1.2 0->∀ k,k<(ca.getD x.1.1 []).length->∃ y∈Y++O,y.1=gn ca x.1 k/\y.2.length<=x.2.length+1
def VB(hs:sn.getD x.1.1 0=sn.getD x.1.2 0)(hx:mZ sn ca fr x.2 x.1):∀ (n:Nat) {S:List (Nat×Nat)} {O:List PW},n<=(ca.getD x.1.1 []).length->BI sn ca fr Y S (x::O)->
 ∃ C:List PW,(ie ca fr x (S,x::O) n).2=x::C/\BI sn ca fr Y (ie ca fr x (S,x::O) n).1 (x::C)/\(∀ y∈C,y.2.length<=x.2.length+1)/\∀ k,k<n->∃ y∈Y++x::C,y.1=gn ca x.1 k/\y.2.length<=x.2.length+1
 |0,S,O,_,h=>⟨O,rfl,h,λy hy=>h.XC y (mem_cons_of_mem _ hy) x oS,λk hk=>by omega⟩
 |n+1,S,O,hn,h=>by
  let⟨C,h1,h2,M,h4⟩:=VB hs hx n (S:=S) (O:=O) oG h;have hE:ie ca fr x (S,x::O) (n+1)=sk ca fr x (ie ca fr x (S,x::O) n) n:=by rw[ie,range_succ,foldl_append];rfl
  have hp:ie ca fr x (S,x::O) n=((ie ca fr x (S,x::O) n).1,x::C):=by rw[<- h1]
  generalize (ie ca fr x (S,x::O) n).1=S' at*
  rw[hE,hp]
  have J:∀ y∈Y++x::C,y.2.length<=x.2.length+1:=λy hy=>by
   rcases mem_append.1 hy with hy|hy
   .have:=(pairwise_append.1 h2.BL).2.2 y hy x oS;omega
   .rcases mem_cons.1 hy with rfl|hy
    .omega
    .exact M y hy
  unfold sk;split
  .rename_i hq;refine⟨C++[(gn ca x.1 n,x.2++[n])],rfl,⟨λy hy=>?_,?_,?_,?_,λy hy z hz=>?_,λy hy GF k hk=>?_⟩,λy hy=>?_,λk hk=>?_⟩
   .rw[<- cons_append, <- append_assoc,mem_append] at hy;rcases hy with hy|hy
    .exact h2.lead y hy
    .simp[mem_cons,not_mem_nil,or_false] at hy;subst hy;exact .snoc _ _ _ hx hs oG
   .rw[<- cons_append, <- append_assoc,map_append,h2.acq];rfl
   .rw[<- cons_append];refine nodup_append.2 ⟨h2.nodup,oS,λa ha b hb=>?_⟩;simp[mem_cons,not_mem_nil,or_false] at hb;subst hb;rintro rfl;rcases mem_cons.1 ha with e|e
    .exact hq.1 e
    .exact hq.2 e
   .rw[<- cons_append, <- append_assoc];refine pairwise_append.2 ⟨h2.BL,oS,λa ha b hb=>?_⟩;simp[mem_cons,not_mem_nil,or_false] at hb;subst hb;have:=J a ha;simp;omega
   .have xV:∀ u∈x::(C++[(gn ca x.1 n,x.2++[n])]),x.2.length<=u.2.length/\u.2.length<=x.2.length+1:=λu hu=>by
     rw[<- cons_append,mem_append] at hu;rcases hu with hu|hu
     .refine⟨?_,J u (mem_append_right _ hu)⟩;rcases mem_cons.1 hu with rfl|hu
      .exact bY _
      .exact(pairwise_cons.1 (pairwise_append.1 h2.BL).2.1).1 u hu
     .simp[mem_cons,not_mem_nil,or_false] at hu;subst hu;simp
    have:=(xV y hy).2;have:=(xV z hz).1;omega
   .let⟨z,hz,U⟩:=h2.done y hy GF k hk;exact⟨z,by rw[<- cons_append, <- append_assoc];exact mem_append_left _ hz,U⟩
   .rcases mem_append.1 hy with hy|hy
    .exact M y hy
    .simp[mem_cons,not_mem_nil,or_false] at hy;subst hy;simp
   .by_cases X:k=n
    .subst X;exact⟨(gn ca x.1 k,x.2++[k]),oS,rfl,oS⟩
    .let⟨z,hz,U⟩:=h4 k oG;exact⟨z,by rw[<- cons_append, <- append_assoc];exact mem_append_left _ hz,U⟩
  .rename_i hq;refine⟨C,rfl,h2,M,λk hk=>?_⟩;by_cases X:k=n
   .subst X
    have hm:gn ca x.1 k∈fr::S':=by
     refine Classical.byContradiction λhc=>hq ⟨λe=>hc (by rw[e];simp),λe=>hc (mem_cons_of_mem _ e)⟩
    rw[<- h2.acq,mem_map] at hm;let⟨z,hz,e⟩:=hm;exact⟨z,hz,e,J z hz⟩
   .exact h4 k oG
def UA{S:List (Nat×Nat)}(h:BI sn ca fr Y S (x::O)):BI sn ca fr (Y++[x]) (rE sn ca fr (S,x::O)).1 (rE sn ca fr (S,x::O)).2:=by
 have C:∀ A B:List PW,A++x::B=(A++[x])++B:=λA B=>by simp
 unfold rE;simp only;split
 .rename_i hs;let⟨U,h1,h2,X,M⟩:=VB hs (h.lead x oS) (ca.getD x.1.1 []).length (bY _) h;rw[h1];refine⟨by rw[<- C];exact h2.lead,by rw[<- C];exact h2.acq,h2.nodup,by rw[<- C];exact h2.BL,λy hy z hz=>h2.XC y (mem_cons_of_mem _ hy) z (mem_cons_of_mem _ hz),λy hy J k hk=>?_⟩;rw[drop_succ_cons,drop_zero, <- C];rcases mem_append.1 hy with hy|hy
  .exact h2.done y hy J k hk
  .simp[mem_cons,not_mem_nil,or_false] at hy;subst hy;exact M k hk
 .rename_i hs;refine⟨by rw[<- C];exact h.lead,by rw[<- C];exact h.acq,h.nodup,by rw[<- C];exact h.BL,λy hy z hz=>h.XC y (mem_cons_of_mem _ hy) z (mem_cons_of_mem _ hz),λy hy J k hk=>?_⟩;rw[drop_succ_cons,drop_zero, <- C];rcases mem_append.1 hy with hy|hy
  .exact h.done y hy J k hk
  .simp[mem_cons,not_mem_nil,or_false] at hy;subst hy;exact absurd J hs
def Kq(C:JD ca)(hlen:∀ a b,a<ca.length->b<ca.length->sn.getD a 0=sn.getD b 0->(ca.getD a []).length=(ca.getD b []).length)(h1:fr.1<ca.length)(h2:fr.2<ca.length){w:List Nat}{p:Nat×Nat}(h:mZ sn ca fr w p):p.1<ca.length/\p.2<ca.length:=by
 induction h with
 |nil=>exact⟨h1,h2⟩
 |snoc w p k h hs hk ih=>
  have J:k<(ca.getD p.2 []).length:=by rw[<- hlen p.1 p.2 ih.1 ih.2 hs];exact hk
  exact⟨C p.1 _ (bD (fx hk)),C p.2 _ (bD (fx J))⟩
def CW{N:Nat}{S:List (Nat×Nat)}(h:BI sn ca fr Y S O)(ao:∀ w p,mZ sn ca fr w p->p.1<N/\p.2<N):Y.length+O.length<=N*N:=by
 have h1:((fr::S).map λp=>p.1*N+p.2).Nodup:=by
  refine pairwise_map.2 (h.nodup.imp_of_mem λ{a b} ha hb J e=>J ?_);rw[<- h.acq,mem_map] at ha hb;obtain⟨x,hx,rfl⟩:=ha;obtain⟨y,hy,rfl⟩:=hb;have a1:=ao _ _ (h.lead x hx);have a2:=ao _ _ (h.lead y hy);have C:0<N:=by omega
  have M:(x.1.1*N+x.1.2) / N=x.1.1:=by rw[Nat.mul_comm,Nat.mul_add_div C,Nat.div_eq_of_lt a1.2,Nat.add_zero]
  have e2:(y.1.1*N+y.1.2) / N=y.1.1:=by rw[Nat.mul_comm,Nat.mul_add_div C,Nat.div_eq_of_lt a2.2,Nat.add_zero]
  have e3:(x.1.1*N+x.1.2) % N=x.1.2:=by rw[Nat.mul_comm,Nat.mul_add_mod,Nat.mod_eq_of_lt a1.2]
  have e4:(y.1.1*N+y.1.2) % N=y.1.2:=by rw[Nat.mul_comm,Nat.mul_add_mod,Nat.mod_eq_of_lt a2.2]
  exact Prod.ext (by rw[<- M,e,e2]) (by rw[<- e3,e,e4])
 have:=List.Nodup.length_le_of_subset h1 (l₂:=range (N*N)) λv hv=>by
  obtain⟨p,hp,rfl⟩:=mem_map.1 hv;rw[<- h.acq,mem_map] at hp;obtain⟨x,hx,rfl⟩:=hp;have a1:=ao _ _ (h.lead x hx);apply mem_range.2
  have:x.1.1*N+N<=N*N:=by
   rw[<- Nat.succ_mul];exact Nat.mul_le_mul_right _ a1.1
  omega
 have e:=congrArg length h.acq;simp at e this;omega
def aec{N:Nat}(ao:∀ w p,mZ sn ca fr w p->p.1<N/\p.2<N):∀ (f:Nat) {Y:List PW} {st:List (Nat×Nat)×List PW},BI sn ca fr Y st.1 st.2->N*N<f+Y.length->∃ S,BI sn ca fr (Y++pR sn ca fr f st) S []
 |0,Y,st,h,hf=>by
  have:=CW h ao;omega
 |f+1,Y,(S,[]),h,hf=>⟨S,by simpa[pR] using h⟩
 |f+1,Y,(S,x::O),h,hf=>by
  let⟨C,h'⟩:=aec ao f (UA h) oP;refine⟨C,?_⟩;simpa[pR] using h'
end
def adw(sn:List Nat)(ca:List (List Nat)):Prop:=∀ a b,a<ca.length->b<ca.length->sn.getD a 0=sn.getD b 0->(ca.getD a []).length=(ca.getD b []).length
section
variable{sn:List Nat}{ca:List (List Nat)}{a b:Nat}
def ac3(C:JD ca)(hlen:adw sn ca)(ha:a<ca.length)(hb:b<ca.length):∃ S,BI sn ca (a,b) (p0 sn ca a b) S []:=by
 have h0:BI sn ca (a,b) [] [] [((a,b),[])]:=by
  refine⟨λx hx=>?_,rfl,oS,oS,λx hx y hy=>?_,λx hx=>by simp at hx⟩
  .simp[nil_append,mem_cons,not_mem_nil,or_false] at hx;subst hx;exact .nil
  .simp[mem_cons,not_mem_nil,or_false] at hx hy;subst hx hy;omega
 let⟨S,h⟩:=aec (N:=ca.length) (λw p=>Kq C hlen ha hb) (ca.length*ca.length+2) (Y:=[]) (st:=([],[((a,b),[])])) h0 oS;exact⟨S,by rw[nil_append] at h;exact h⟩
end
end
section
variable{sn:List Nat}{ca:List (List Nat)}{a b:Nat}
end
end Go.Abs
namespace Go.Abs
open List
open Go.Proofs.Tryz
open Go
def a1:bX prog 1=false:=kr
def t1:a8 prog 1=true:=kr
def b1:prog.bytesOf 1=8:=kr
def b2:prog.bytesOf 2=8:=kr
def a2:bX prog 2=false:=kr
def t2:a8 prog 2=true:=kr
def z2:bN prog 2=[.s (.int .i64 0)]:=kr
def c3:prog.cellsOf 3=1:=kr
def b3:prog.bytesOf 3=8:=kr
def a3:bX prog 3=false:=kr
def t3:a8 prog 3=true:=kr
def z3:bN prog 3=[.s (.int .i64 0)]:=kr
def c4:prog.cellsOf 4=1:=kr
def b4:prog.bytesOf 4=1:=kr
def a4:bX prog 4=false:=kr
def t4:a8 prog 4=true:=kr
def z4:bN prog 4=[.s (.bool false)]:=kr
def c5:prog.cellsOf 5=1:=kr
def b5:prog.bytesOf 5=1:=kr
def a5:bX prog 5=false:=kr
def t5:a8 prog 5=true:=kr
def z5:bN prog 5=[.s (.int .u8 0)]:=kr
def b6:prog.bytesOf 6=1:=kr
def b7:prog.bytesOf 7=24:=kr
def b8:prog.bytesOf 8=24:=kr
def c9:prog.cellsOf 9=1:=kr
def b9:prog.bytesOf 9=16:=kr
def a9:bX prog 9=false:=kr
def t9:a8 prog 9=true:=kr
def z9:bN prog 9=[.s (.string "".toUTF8)]:=kr
def px:prog.bytesOf 10=16:=kr
def KE:aT prog 15=321:=kr
def KF:aT prog 16=324:=kr
def KD:aT prog 17=331:=kr
def e23:aT prog 23=43:=kr
def aeb:bH prog 23=true:=kr
def Fa:prog.cellsOf 27=1:=kr
def Qd:bX prog 27=false:=kr
def t27:a8 prog 27=true:=kr
def a31:bX prog 31=false:=kr
def t31:a8 prog 31=true:=kr
def z31:bN prog 31=[.s .nilFunc]:=kr
def uP:aT prog 34=9:=kr
def DT:bH prog 34=true:=kr
def a37:bX prog 37=false:=kr
def t37:a8 prog 37=true:=kr
def z37:bN prog 37=[.s .nilFunc]:=kr
def ly:prog.cellsOf 43=1:=kr
def Ez:prog.bytesOf 43=24:=kr
def uX:bX prog 43=false:=kr
def t43:a8 prog 43=true:=kr
def dJ:aT prog 43=3:=kr
def dI:bH prog 43=true:=kr
def OX:aT prog 45=5:=kr
def GC:bH prog 45=true:=kr
def a46:bX prog 46=false:=kr
def t46:a8 prog 46=true:=kr
def z46:bN prog 46=[.z]:=kr
def e46:aT prog 46=59:=kr
def ad9:bH prog 46=true:=kr
def zz:prog.cellsOf 48=8:=kr
def AR:bX prog 48=true:=kr
def t48:a8 prog 48=true:=kr
def a51:bX prog 51=false:=kr
def t51:a8 prog 51=true:=kr
def z51:bN prog 51=[.s .nilFunc]:=kr
def e52:aT prog 52=54:=kr
def ad8:bH prog 52=true:=kr
def a53:bX prog 53=true:=kr
def t53:a8 prog 53=true:=kr
def z53:bN prog 53=[.s (.int .u8 0),.s (.int .i64 0),.s (.int .i64 0),.s (.int .i64 0),.s (.int .i64 0),.z]:=kr
def VE:prog.cellsOf 54=6:=kr
def VD:prog.bytesOf 54=64:=kr
def TA:df prog 54 2=some (2,3):=kr
def TC:df prog 54 3=some (3,3):=kr
def Jg:df prog 54 5=some (5,43):=kr
def VA:aT prog 55=79:=kr
def JB:bH prog 55=true:=kr
def VS:prog.cellsOf 57=15:=kr
def a57:bX prog 57=true:=kr
def t57:a8 prog 57=true:=kr
def TD:df prog 57 7=some (12,43):=kr
def O1:prog.cellsOf 59=16:=kr
def O0:prog.bytesOf 59=200:=kr
def z59:bN prog 59=[.z,.s (.int .u8 0),.s (.int .i64 0),.s (.int .i64 0),.s (.int .i64 0),.s (.int .i64 0),.s (.string "".toUTF8),.s (.int .u8 0),.s (.int .i64 0),.s (.int .i64 0),.s (.int .i64 0),.s (.int .i64 0),.z,.z,.z,.s (.int .i64 0)]:=kr
def a70:bX prog 70=true:=kr
def t70:a8 prog 70=true:=kr
def z70:bN prog 70=[.s (.int .u8 0),.s (.int .i64 0)]:=kr
def a72:bX prog 72=true:=kr
def t72:a8 prog 72=true:=kr
def z72:bN prog 72=[.s (.int .u8 0),.s (.string "".toUTF8),.s (.int .u8 0),.s (.int .i64 0),.z,.s (.int .i64 0)]:=kr
def a75:bX prog 75=false:=kr
def t75:a8 prog 75=true:=kr
def z75:bN prog 75=[.s .nilFunc]:=kr
def a76:bX prog 76=false:=kr
def t76:a8 prog 76=true:=kr
def z76:bN prog 76=[.s .nilFunc]:=kr
def OY:prog.cellsOf 79=2:=kr
def b79:prog.bytesOf 79=24:=kr
def VH:prog.cellsOf 82=3:=kr
def VG:bX prog 82=true:=kr
def t82:a8 prog 82=true:=kr
def CA:prog.cellsOf 92=1:=kr
def b92:prog.bytesOf 92=24:=kr
def KC:bX prog 92=false:=kr
def t92:a8 prog 92=true:=kr
def EK:aT prog 92=4:=kr
def D6:bH prog 92=true:=kr
def aex:prog.cellsOf 113=10:=kr
def aew:bX prog 113=true:=kr
def t113:a8 prog 113=true:=kr
def Xk:prog.cellsOf 121=2:=kr
def t121:a8 prog 121=true:=kr
def O6:bN prog 121=[.s (.int .i64 0),.s (.int .i64 0)]:=kr
def yv:prog.cellsOf 123=3:=kr
def ae5:prog.bytesOf 123=40:=kr
def ae2:bX prog 123=true:=kr
def t123:a8 prog 123=true:=kr
def Pf:bN prog 123=[.s (.int .i64 0),.s (.int .i64 0),.z]:=kr
def Hx:aT prog 124=123:=kr
def Hs:bH prog 124=true:=kr
def a127:bX prog 127=false:=kr
def t127:a8 prog 127=true:=kr
def z127:bN prog 127=[.s .nilFunc]:=kr
def pj:prog.cellsOf 163=2:=kr
def aez:prog.bytesOf 163=32:=kr
def xF:bX prog 163=true:=kr
def t163:a8 prog 163=true:=kr
def UN:bN prog 163=[.s (.bool false),.z]:=kr
def Sz:df prog 163 0=some (0,4):=kr
def SA:df prog 163 1=some (1,92):=kr
def a164:bX prog 164=false:=kr
def t164:a8 prog 164=true:=kr
def z164:bN prog 164=[.s .nilFunc]:=kr
def a171:bX prog 171=false:=kr
def t171:a8 prog 171=true:=kr
def z171:bN prog 171=[.s .nilFunc]:=kr
def a173:bX prog 173=true:=kr
def t173:a8 prog 173=true:=kr
def z173:bN prog 173=[.s (.int .i64 0),.s (.int .i64 0),.z]:=kr
def vB:prog.cellsOf 174=3:=kr
def aeZ:prog.bytesOf 174=40:=kr
def aeU:bX prog 174=true:=kr
def t174:a8 prog 174=true:=kr
def O4:bN prog 174=[.s (.int .i64 0),.s (.int .i64 0),.z]:=kr
def EB:aT prog 175=174:=kr
def Dj:bH prog 175=true:=kr
def xz:prog.cellsOf 201=20:=kr
def aet:prog.bytesOf 201=160:=kr
def a201:bX prog 201=true:=kr
def t201:a8 prog 201=true:=kr
def z201:bN prog 201=[.s (.int .u64 0),.s (.int .u64 0),.s (.int .u64 0),.s (.int .u64 0),.s (.int .u64 0),.s (.int .u64 0),.s (.int .u64 0),.s (.int .u64 0),.s (.int .u64 0),.s (.int .u64 0),.s (.int .u64 0),.s (.int .u64 0),.s (.int .u64 0),.s (.int .u64 0),.s (.int .u64 0),.s (.int .u64 0),.s (.int .u64 0),.s (.int .u64 0),.s (.int .u64 0),.s (.int .u64 0)]:=kr
def a212:bX prog 212=true:=kr
def t212:a8 prog 212=true:=kr
def z212:bN prog 212=[.s (.pointer none),.z]:=kr
def a213:bX prog 213=true:=kr
def t213:a8 prog 213=true:=kr
def z213:bN prog 213=[.s (.pointer none),.z]:=kr
def a232:bX prog 232=false:=kr
def t232:a8 prog 232=true:=kr
def z232:bN prog 232=[.s .nilFunc]:=kr
def a233:bX prog 233=false:=kr
def t233:a8 prog 233=true:=kr
def z233:bN prog 233=[.s .nilFunc]:=kr
def UK:bX prog 237=true:=kr
def UL:bN prog 237=[.s (.int .i64 0),.s (.int .i64 0),.s (.int .i64 0),.s (.int .i64 0),.s (.int .i64 0),.s (.int .i64 0)]:=kr
def mixed:prog.follows .mixedOrders=true:=kr
end Go.Abs
