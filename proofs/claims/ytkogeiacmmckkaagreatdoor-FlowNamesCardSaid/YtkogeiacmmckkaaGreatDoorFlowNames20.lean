/- Part 20. -/
import Derived.Test.YtkogeiacmmckkaaGreatDoorFlowNames19
set_option linter.all false
set_option maxHeartbeats 0
set_option maxRecDepth 10000
open List(replicate)
section
open Go Go.Proofs List
namespace Go.Abs
open Go.Proofs.Tryz
section
variable{e:TypeId}{cs:List D}
section
variable{P:Program}{env:Env}{m:Mem}{nx:Nat}{x y:Operand}{t p:TypeId}{k:IntKind}{n n':Int}
def aib{j i l off:Nat}{r:Row}(hx:(opd env x).core=.rs j off l)(hy:(opd env y).core=.s (.int k (i:Int)))(hm:m j=some r)(he:aK P t=e)(hs:P.cellsOf e=1):
 Ef P (.indexAddr t x y) env m nx ⟨bE P t=true/\i<l,.rp j (off+i),[],[j],0⟩:=by
 have h:=Pd (P:=P) (env:=env) (m:=m) (nx:=nx) (t:=t) hx hy hm he hs;have h1:off+((i:Int)).toNat*1=off+i:=by simp
 have h2:(bE P t=true/\(0:Int)<=(i:Int)/\(i:Int)<l)=(bE P t=true/\i<l):=by
  apply propext;constructor
  .rintro⟨a,_,b⟩;exact⟨a,oG⟩
  .rintro⟨a,b⟩;exact⟨a,oG,oG⟩
 rw[h1,h2] at h;exact h
def UQ{i l a:Nat}(hx:(opd env x).core=.rs i 0 l)(hm:m i=some (.cells cs e))(he:aK P t=e)(hs:P.cellsOf e=1)(ha:(opd env y).core=.s (.int .i64 (a:Int))):
 Ef P (.slice t x (some y) none none) env m nx ⟨bE P t=true/\a<=l,.rs i a (l - a),[],[i],0⟩:=by
 have h:=Vp (P:=P) (env:=env) (m:=m) (nx:=nx) (t:=t) (lo:=some y) (hi:=none) (a:=(a:Int)) (b:=(l:Int)) hx hm he hs (by simp[gd,ha,D.int?]) (by simp[gd]);have h1:0+((a:Int)).toNat*1=a:=by simp
 have C:((l:Int) - (a:Int)).toNat=l - a:=by omega
 have h2:((bE P t=true/\1=1)/\(0:Int)<=(a:Int)/\(a:Int)<=(l:Int)/\(l:Int)<=(l:Int))=(bE P t=true/\a<=l):=by
  apply propext;constructor
  .rintro⟨⟨a,_⟩,_,b,_⟩;exact⟨a,oG⟩
  .rintro⟨a,b⟩;exact⟨⟨a,rfl⟩,oG,oG,oG⟩
 rw[h1,h2,C] at h;exact h
def ae5{i l b:Nat}(hx:(opd env x).core=.rs i 0 l)(hm:m i=some (.cells cs e))(he:aK P t=e)(hs:P.cellsOf e=1)(hb:(opd env y).core=.s (.int .i64 (b:Int))):
 Ef P (.slice t x none (some y) none) env m nx ⟨bE P t=true/\b<=l,.rs i 0 b,[],[i],0⟩:=by
 have h:=Vp (P:=P) (env:=env) (m:=m) (nx:=nx) (t:=t) (lo:=none) (hi:=some y) (a:=0) (b:=(b:Int)) hx hm he hs (by simp[gd]) (by simp[gd,hb,D.int?]);have h1:0+((0:Int)).toNat*1=0:=by simp
 have C:((b:Int) - 0).toNat=b:=by omega
 have h2:((bE P t=true/\1=1)/\(0:Int)<=0/\(0:Int)<=(b:Int)/\(b:Int)<=(l:Int))=(bE P t=true/\b<=l):=by
  apply propext;constructor
  .rintro⟨⟨a,_⟩,_,_,b⟩;exact⟨a,oG⟩
  .rintro⟨a,b⟩;exact⟨⟨a,rfl⟩,oG,oG,oG⟩
 rw[h1,h2,C] at h;exact h
def aiq{i off l:Nat}{z:List D}(hx:(opd env x).core=.rs i off l)(hm:m i=some (.cells cs e))(he:aK P t=e)(hz:bm P e=z):
 Ef P (.call { callee:=.builtin .clear,args:= #[x],argTypes:= #[t] }) env m nx ⟨bE P t=true/\off+l*P.cellsOf e<=cs.length/\e=e,.bu [],[(i,some (.cells (fJ cs off (dp l z)) e))],[i],0⟩:=by
 apply zV («aS»:=[.rs i off l]) rfl (by simp[hx]);simp[fP,hm,hz,Array.getD_eq_getD_getElem?,getElem?_toArray,getElem?_cons_zero,Option.getD_some,he]
def adG{n k:Nat}{x:D}(hn:cs.length=n)(hk:k<=n):fJ cs k (dp (n - k) [x])=cs.take k++replicate (n - k) x:=by
 have hr:dp (n - k) [x]=replicate (n - k) x:=by
  unfold dp;generalize n - k=j
  induction j with
  |zero=>rfl
  |succ j ih=>simp[replicate_succ,ih]
 rw[hr];unfold fJ;split
 .rename_i y e;have h1:n - k=1:=by have:=congrArg length e;simpa using this
  rw[h1] at e ⊢;simp at e;subst e;rw[set_eq_take_append_cons_drop,bi oG,drop_eq_nil_of_le oG];rfl
 .rw[length_replicate,drop_eq_nil_of_le oG,append_nil]
end
end
def gU(d:List Int):Nat->List Int
 |0=>[]
 |t+1=>gU d t++(if t≠0/\d.getD t 0=d.getD (t - 1) 0 then [] else [d.getD t 0])
def pT(d:List Int):List Int:=gU d d.length
def WV{d:List Int}{x:Int}:∀ {t:Nat},t<=d.length->(x∈gU d t↔x∈d.take t)
 |0,_=>by simp[gU]
 |t+1,ht=>by
  have ih:=WV (d:=d) (x:=x) (t:=t) oG;have hg:d.getD t 0=d[t]:=by simp[dF,aV (show t<d.length by omega)]
  rw[gU,mem_append,ih,take_succ_eq_append_getElem oG,mem_append];split
  .rename_i h;have h1:d[t - 1]? =some d[t - 1]:=aV oG
   have C:d[t]∈d.take t:=by
    rw[<- hg,h.2];have:d.getD (t - 1) 0=d[t - 1]:=by simp[dF,h1]
    rw[this];exact cL (i:=t - 1) (by rw[getElem?_take,bi oG,h1])
   constructor
   .rintro(h|h)
    .exact .inl h
    .simp at h
   .rintro(h|h)
    .exact .inl h
    .simp at h;subst h;exact .inl C
  .rw[hg]
def WW{d:List Int}:∀ t,(gU d t).length<=t
 |0=>by simp[gU]
 |t+1=>by
  have:=WW (d:=d) t;rw[gU,length_append];split<;>simp<;>omega
def X9{d:List Int}{t:Nat}(ht:t<d.length)(h0:t≠0)(h:d.getD t 0=d.getD (t - 1) 0):gU d (t+1)=gU d t:=by
 rw[gU,bi ⟨h0,h⟩,append_nil]
def X'{d:List Int}{t:Nat}(h:d.getD t 0≠d.getD (t - 1) 0):gU d (t+1)=gU d t++[d.getD t 0]:=by
 rw[gU,ai λhh=>h hh.2]
def Hi(d:List Int)(n:Nat):List D:=(pT d).map I++replicate (n - (pT d).length) (I 0)
def WX(d:List Int)(n:Nat)(m:Mem)(nx i:Nat)(r:D)(m':Mem)(aw:Nat):Prop:=aw=nx/\r=.rs i 0 (pT d).length/\m'=up m i (some (.cells (Hi d n) 3))
def ajo(d:List Int)(m:Mem)(nx i:Nat)(r:D)(m':Mem)(aw:Nat):Prop:=aw=nx/\r=.rs i 0 (pT d).length/\∃ c,m'=up m i (some (.cells c 3))/\c.take (pT d).length=(pT d).map I
def alK{m:Mem}{nx i n:Nat}{d:List Int}(hi:i<nx)(hm:m i=some (.cells (d.map I) 3))(hl:d.length=n)(hn:n<=100000):iZ prog 169 [.rs i 0 n] m nx (WX d n m nx i):=by
 refine y8 (fo f169) ?_;have an:=hm
 have U:up m i (some (.cells (d.map I) 3))=m:=by
  funext j;simp only[up];split
  .rename_i e;rw[e,hm]
  .rfl
 have whole:gU d n=d->WX d n m nx i (.rs i 0 n) m nx:=λh=>by
  have h:pT d=d:=by rw[pT,hl];exact h
  refine⟨rfl,by rw[h,hl],?_⟩;rw[Hi,h,hl,Nat.sub_self,replicate_zero,append_nil,U]
 refine ws (SS ?_);refine ab (aM (aj (az ?_)));refine ab (cG rfl (λh=>?_) λh=>dn (aM (aF ?_)))
 .have h:n<2:=by have h:(n:Int)<2:=tn h
                 omega
  refine aM (aj (af ?_));refine ab (dX (aD rfl (whole ?_)))
  match d,n,hl,h with
  |[],_,rfl,_=>rfl
  |[a],_,rfl,_=>rfl
 have h2:2<=n:=by have h:¬ (n:Int)<2:=tn h
                  omega
 refine SS ?_;refine ab (cJ (λs=>aL prog s ⟨ay [(0,.rs i 0 n)],m,nx⟩/\gU d n=d) (dS (α:=Nat) (λk=>⟨ay [(0,.rs i 0 n),(3,I k)],m,nx⟩) (λk=>1<=k/\k<=n/\gU d k=d.take k) (λk=>n - k) 1 (ao eH) ⟨oG,oG,?_⟩ ?_) ?_)
 .match d,hl with
  |a::t,_=>rfl
  |[],hl=>simp at hl;omega
 .rintro k ⟨yU,hk,J⟩;refine aX ?_;refine ab ⟨_,rfl,λh=>?_,λh=>?_⟩
  .have al:k<n:=by have h:(k:Int)<n:=tn h
                   omega
   obtain⟨j,rfl⟩:∃ j,k=j+1:=⟨k - 1,oG⟩
   have ha:d[j+1]? =some d[j+1]:=aV oG;have hb:d[j]? =some d[j]:=aV oG;have ga:d.getD (j+1) 0=d[j+1]:=by simp[dF,ha]
   have gb:d.getD j 0=d[j]:=by simp[dF,hb]
   have kd:=nv (f:=I) ha;have C:=nv (f:=I) hb;have Ap:((j+1:Nat):Int) - 1=(j:Int)/\ -9223372036854775808<=(j:Int)/\(j:Int)<=9223372036854775807:=by omega
   refine eJ iB (cF ?_);refine ax (fe rfl an C V.h) ak (fh V.h V.h C) (SS ?_);refine bU bX (au rfl (λh=>?_) λh=>?_)
   .have ic:d[j+1]=d[j]:=tn h
    refine ws (af ?_);refine ax (UQ rfl an V.h V.h rfl) ak ⟨V.h,oG⟩ (SS ?_);refine ab (aM (aF (SS ?_)));have apf:gU d (j+1+1)=gU d (j+1):=X9 oG oG (by rw[ga,show j+1 - 1=j by omega,gb];exact ic);have Ff:(gU d (j+1)).length=j+1:=by rw[J];simp;omega
    clear kd C Ap
    refine ab (cJ (λs=>∃ (c:List Int) (k:Nat),aL prog s ⟨ay [(0,.rs i 0 n),(3,I (k:Nat))],up m i (some (.cells (c.map I) 3)),nx⟩/\c.length=n/\k<=n/\c.take k=gU d n) (dS (α:=List Int×Nat×Nat) (λs=>⟨ay [(0,.rs i 0 n),(3,I s.2.1),(4,.rs i (j+1) (n - (j+1))),(5,I (s.2.2+1:Nat))],up m i (some (.cells (s.1.map I) 3)),nx⟩)
     (λs=>s.1.length=n/\j+1+(s.2.2+1)<=n/\s.2.1<=j+1+s.2.2/\s.1.take s.2.1=gU d (j+1+(s.2.2+1))/\∀ p,j+1+s.2.2<=p->s.1[p]? =d[p]?) (λs=>n - s.2.2) (d,j+1,0) (xB eH U.symm) ⟨hl,by simp only;omega,by simp only;omega,?_,λ_ _=>rfl⟩ ?_) ?_)
    .show d.take (j+1)=gU d (j+1+1);rw[apf,J]
    .rintro⟨c,k,q⟩ ⟨O,w2,w3,w4,X⟩;simp only at O w2 w3 w4 X;dsimp only;refine af ?_;refine ax (Kt rfl s3) ak V.h (SS ?_);refine ab ⟨_,rfl,λh=>?_,λh=>?_⟩
     .have al:q+1<n - (j+1):=by have h:((q+1:Nat):Int)<((n - (j+1):Nat):Int):=tn h
                                omega
      have xa:c[j+1+(q+1)]? =some c[j+1+(q+1)]:=aV oG;have xb:c[j+1+q]? =some c[j+1+q]:=aV oG;have ya:d.getD (j+1+(q+1)) 0=c[j+1+(q+1)]:=by rw[dF, <- X _ oG,xa];rfl
      have yb:d.getD (j+1+q) 0=c[j+1+q]:=by rw[dF, <- X _ oG,xb];rfl
      have kd:=nv (f:=I) xa;have C:=nv (f:=I) xb;generalize hA:c[j+1+(q+1)]=a at xa ya kd;generalize hB:c[j+1+q]=b at xb yb C;clear hA hB;have Ap:((q+1:Nat):Int) - 1=(q:Int)/\ -9223372036854775808<=(q:Int)/\(q:Int)<=9223372036854775807:=by omega
      refine eJ iB (cF ?_);refine ax (fe rfl s3 C V.h) ak (fh V.h V.h C) (SS ?_);refine bU bX (au rfl (λh=>?_) λh=>?_)
      .have bC:a≠b:=tn h
       have hn:=X' (d:=d) (t:=j+1+(q+1)) (by rw[ya,show j+1+(q+1) - 1=j+1+q by omega,yb];exact bC);refine ws (cF ?_);refine ab (gE (az ?_));refine ab (az ?_);refine ab (bA (c.set k a,k+1,q+1) (xB eH ?_) ⟨by simp[O],by simp only;omega,by simp only;omega,?_,λp hp=>?_⟩ (by simp only;omega))
       .rw[yq,map_set]
       .show(c.set k a).take (k+1)=gU d (j+1+(q+1)+1);rw[hn,ya, <- w4,take_succ_eq_append_getElem oP];simp;exact take_set_of_le (bK k)
       .simp only at hp;show(c.set k a)[p]? =_;rw[getElem?_set_ne oG];exact X p oG
      .have apg:a=b:=tn h
       have hn:=X9 (d:=d) (t:=j+1+(q+1)) oG oG (by rw[ya,show j+1+(q+1) - 1=j+1+q by omega,yb];exact apg);refine eQ (az ?_);refine ab (bA (c,k,q+1) (ao eH) ⟨O,by simp only;omega,by simp only;omega,?_,λp hp=>X p (by simp only at hp;omega)⟩ (by simp only;omega));show c.take k=gU d (j+1+(q+1)+1);rw[hn,w4]
     .have bJ:¬ q+1<n - (j+1):=by have h:¬ ((q+1:Nat):Int)<((n - (j+1):Nat):Int):=tn h
                                  omega
      refine⟨c,k,.forget _ _ _ _ λt=>td (l:=[(0,.rs i 0 n),(3,I k)]) ⟨rfl,rfl,aa⟩ t,O,oG,?_⟩;rw[w4];exact congrArg (gU d) oG
    .rintro s ⟨c,k,hg,O,ck,w2⟩;refine⟨_,hg,aj ?_⟩;refine af ?_;refine ax (UQ rfl s3 V.h V.h rfl) ak ⟨V.h,oG⟩ (bT (aiq rfl s3 V.h V.h) ak ⟨V.h,(by rw[c3];first|(simp;done)|(simp;omega)|omega),rfl⟩ (er (af ?_)));refine ax (ae5 rfl s3 V.h V.h rfl) ak ⟨V.h,oG⟩ (SS ?_);have dh:(pT d).length=k:=by rw[pT,hl, <- w2];simp;omega
     refine ab (bD (dd (bc (aD (d:=.rs i 0 k) rfl ⟨rfl,by rw[dh],(yq _ _ _ _).trans ?_⟩))));rw[adG (by rw[length_map,O]) ck, <- map_take,w2,Hi,dh];rw[pT,hl]
   .have bC:d[j+1]≠d[j]:=tn h
    refine eQ (az ?_);refine ab (bA (j+1+1) (ao eH) ⟨oG,oG,?_⟩ oG);rw[X' (by rw[ga,show j+1 - 1=j by omega,gb];exact bC),J,ga];exact(take_succ_eq_append_getElem oG).symm
  .have bJ:¬ k<n:=by have h:¬ (k:Int)<n:=tn h
                     omega
   have:k=n:=by omega
   refine⟨.forget _ _ _ _ λt=>td (l:=[(0,.rs i 0 n)]) ⟨rfl,aa⟩ t,?_⟩;rw[<- this,J,cW oG]
 .rintro s ⟨hg,J⟩;refine⟨_,hg,aj ?_⟩;refine af ?_;exact ab (aD rfl (whole J))
def aph{m:Mem}{nx i n:Nat}{d:List Int}(hi:i<nx)(hm:m i=some (.cells (d.map I) 3))(hl:d.length=n)(hn:n<=100000):iZ prog 169 [.rs i 0 n] m nx (ajo d m nx i):=by
 refine(alK hi hm hl hn).mono ?_;rintro r m' aw ⟨h1,h2,C⟩;refine⟨h1,h2,Hi d n,C,?_⟩;rw[Hi,take_append_of_le_length oS,cW oS]
def jd(x:End)(b:Int)(w:List Int):List Int:=if D7 x b then iq w (fI x) else w
@[simp] theorem UR (x : End) (b : Int) (w : List Int) : (jd x b w).length = w.length := by unfold jd; split <;> simp
def DR(l:List Int):List Int:=pT (qe l)
section
variable{f:FuncId}{cs:List D}{xs:List Int}
def RH(hs:B7 prog f [] cs (xs.map λn=>[I n]))(ht:Tr (.fn (.func f) [] cs))(hlen:xs.length<=12):mV prog 170 [.fn (.func f) [] cs] ((qe xs).map I) xs.length 3:=by
 have C:∀ a∈[.fn (.func f) [] cs],Tr a:=.cons ht .nil;refine y6 (fo f170) C (.map λ_=>.s _) ?_;have RE:=RE hs ht oG;refine ws (SS ?_);refine er (SS ?_);refine z6 RE rfl aB (SS ?_);refine er (SS ?_);refine wj (ape (i:=0) (l:=xs) oG rfl rfl hlen) rfl aB λr m' aw hp=>?_;obtain⟨rfl,rfl,rfl⟩:=hp;refine er (af ?_);exact ab (aD rfl ⟨0,rfl,rfl⟩)
def zg(hs:B7 prog f [] cs (xs.map λn=>[I n]))(ht:Tr (.fn (.func f) [] cs))(hlen:xs.length<=12):aE prog 89 [.fn (.func f) [] cs] (av (DR xs)):=by
 have C:∀ a∈[.fn (.func f) [] cs],Tr a:=.cons ht .nil;refine bN (fo f89) C (cR _) ?_;have RH:=RH hs ht hlen;refine ws (SS ?_);refine ab (aF (SS ?_));refine z6 RH rfl aB (wj (aph (i:=0) (d:=qe xs) (n:=xs.length) oG rfl oS oG) rfl aB λr m' aw hp=>?_);obtain⟨rfl,rfl,c,rfl,hc⟩:=hp;refine SS ?_;refine ab (bF (cE [(0,c,3)] ⟨ap _ _ _,aa⟩ (l:=[(2,av (DR xs))]) ⟨?_,aa⟩) (aD rfl rfl));exact kN c3 (by rw[drop_zero,Nat.mul_one];exact hc)
def nextR(x:Abs.End):List Int:=DR (dI x)
def Zo{x:Abs.End}(hlen:x.aA.length<=9):aE prog 89 [.fn (.func 171) [] [.pt (aR x)]] (av (nextR x)):=
 zg (aal oG) (.fn oS (.cons (.pt (ot x)) .nil)) (by have:=OX x;omega)
def Av{x:Abs.End}{b:Int}{w:List Int}(J:w.length=20)(hlen:x.aA.length<=1000)(hn: -1000000<=fI x/\fI x<1280):aE prog 146 [.agg (aR x),I b,jf w] (jf (jd x b w)):=by
 have C:∀ a∈[D.agg (aR x),I b,jf w],Tr a:=.cons (.agg (ot x)) (.cons (.s _) (.cons (tD _) .nil));refine bN (fo f146) C (tD _) ?_;have RC:=RC (x:=x) (b:=b) hlen;refine ws (az ?_);refine ab (aM (aj (az ?_)));refine ab (cG rfl (λh=>?_) λh=>dn (aj ?_))
 .have SV:=SV (x:=x);have tE:=tE (w:=w) (n:=fI x) J hn;refine aM (eJ (ij [(0,2)]) ?_);refine bG ?_;refine bU bX (dX (jR (fT rfl rfl a201 uD (qd oP) t201 oP) ?_));simp[jd,h]
 .refine af ?_;refine ab (jR (fT rfl rfl a201 uD (qd oP) t201 oP) ?_);simp[jd,h]
end
structure tw(x:Ins):Prop where
 rd:∀ r∈cN x,0<=r/\r<1200
 sl:x.op=17\/x.op=18->0<=x.n/\x.n<80
 wr: -1000000<=dt x/\dt x<1200
 ar:x.op=10\/x.op=38->x.args.length<=1000
structure Hj(x:End):Prop where
 rd:∀ r∈dB x,0<=r/\r<1200
 wr: -1000000<=fI x/\fI x<1200
 wh:x.aA.length<=9
 a1:x.kind=5->x.ins.op=10\/x.ins.op=38->x.ins.args.length<=1000
 a2:x.kind=6\/x.kind=7->x.args.length<=1000
def jQ(w:List Int)(ok:Bool)(rs:List Int):Bool:=rs.foldl (λok r=>ok&&mH w r.toNat) ok
def zP(w:List Int)(x:Ins):List Int:=iq w (if x.op=18 then mO x.n else dt x)
def mD(s:List Int×Bool)(x:Ins):List Int×Bool:=(zP s.1 x,jQ s.1 s.2 (cN x)&&(x.op !=17||mH s.1 (mO x.n).toNat))
def lG(l:List Ins)(w:List Int):List Int×Bool:=l.foldl mD (w,true)
def lj(b:bH)(w:List Int):List Int×Bool:=((lG b.ins w).1,jQ (lG b.ins w).1 (lG b.ins w).2 (dB b.fin))
def s7{α β:Type}{f:β->α->β}{z:β}{l:List α}{k:Nat}{x:α}(h:l[k]? =some x):(l.take (k+1)).foldl f z=f ((l.take k).foldl f z) x:=by
 rw[take_add_one,h,foldl_append];rfl
def Om(l:List Ins)(w:List Int):(lG l w).1.length=w.length:=by
 unfold lG;generalize true=b
 induction l generalizing w b with
 |nil=>rfl
 |cons x l ih=>rw[foldl_cons];exact(ih _ _).trans (by simp[zP])
def MR(b:bH)(w:List Int):(lj b w).1.length=w.length:=Om _ _
def qt{b:bH}{w:List Int}(hw:w.length=20)(hl:b.ins.length<=100000)(hi:∀ x∈b.ins,tw x)(hf:Hj b.fin)(qE:∀ x∈b.ins,(cN x).length<=100000)(fS:(dB b.fin).length<=100000):aE prog 145 [.agg (bq b),jf w] (.bu [jf (lj b w).1,B (lj b w).2]):=by
 have bB:∀ a∈[D.agg (bq b),jf w],Tr a:=.cons (.agg (Gh b)) (.cons (tD _) .nil);refine bN (fo f145) bB (.bu (.cons (tD _) (.cons (.s _) .nil))) ?_;refine ws ?_;refine aX ?_;refine ab (aF ?_);refine SS ?_;refine ab (bF (a6 (l:=[(2,.rp 0 0),(3,.rp 1 0),(4,.rp 2 0),(6,B true)]) (ml:=[(0,.cells (bq b) 69),(1,.cells (w.map dH) 201),(2,.cells (replicate 20 (dH 0)) 201)]) eH eH) (aM (aF ?_)));refine aX ?_
 refine ab (cJ (λs=>∃ n',3<=n'/\aL prog s ⟨ay [(2,.rp 0 0),(3,.rp 1 0),(4,.rp 2 0),(6,B (lG b.ins w).2)],b8 [(0,.cells (bq b) 69),(1,.cells ((lG b.ins w).1.map dH) 201),(2,.cells (replicate 20 (dH 0)) 201)],n'⟩) (gl (α:=Nat×Nat)
  (λk=>⟨ay [(2,.rp 0 0),(3,.rp 1 0),(4,.rp 2 0),(6,B (lG (b.ins.take k.1) w).2),(14,eV b.ins),(15,I b.ins.length),(16,I k.1)],b8 [(0,.cells (bq b) 69),(1,.cells ((lG (b.ins.take k.1) w).1.map dH) 201),(2,.cells (replicate 20 (dH 0)) 201)],k.2⟩)
  (λk=>k.1<=b.ins.length/\3<=k.2) (λk=>b.ins.length - k.1) (0,3) (a6 eH eH) ⟨oS,oS⟩ ?_) ?_)
 .rintro⟨k,N⟩ ⟨hk,hN⟩;dsimp only at hk hN ⊢;refine SS ?_;refine ab ⟨_,rfl,λh=>?_,λh=>?_⟩
  .have al:k<b.ins.length:=by simpa using h
   have hx:b.ins[k]? =some b.ins[k]:=by simp[al]
   have nS:b.ins[k]∈b.ins:=dG al;generalize b.ins[k]=x at hx nS;obtain⟨ird,U,iwr,iar⟩:=hi x nS;have C:lG (b.ins.take (k+1)) w=mD (lG (b.ins.take k) w) x:=s7 hx;have hlen:(lG (b.ins.take k) w).1.length=20:=by rw[Om,hw]
   generalize lG (b.ins.take k) w=u at C hlen;obtain⟨v,ok⟩:=u;dsimp only at hlen ⊢;refine ws ?_;refine aX ?_;refine ab (aM (aF ?_));have FN:=FN (x:=x) iar;refine SS ?_;refine cl FN ?_;refine af ?_;have atc:=qE x nS
   refine ab (cJ (λs=>aL prog s ⟨ay [(2,.rp 0 0),(3,.rp 1 0),(4,.rp 2 0),(6,B (jQ v ok (cN x))),(8,.rp N 0),(14,eV b.ins),(15,I b.ins.length),(16,I k)],up (b8 [(0,.cells (bq b) 69),(1,.cells (v.map dH) 201),(2,.cells (replicate 20 (dH 0)) 201)]) N (some (.cells (aI x) 45)),N+1⟩) (gl (α:=Nat)
    (λj=>⟨ay [(2,.rp 0 0),(3,.rp 1 0),(4,.rp 2 0),(6,B (jQ v ok ((cN x).take j))),(8,.rp N 0),(14,eV b.ins),(15,I b.ins.length),(16,I k),(21,av (cN x)),(22,I (cN x).length),(23,I j)],up (b8 [(0,.cells (bq b) 69),(1,.cells (v.map dH) 201),(2,.cells (replicate 20 (dH 0)) 201)]) N (some (.cells (aI x) 45)),N+1⟩)
    (λj=>j<=(cN x).length) (λj=>(cN x).length - j) 0 (xB eH (yq _ _ _ _)) oG ?_) ?_)
   .intro j hj;refine SS ?_;refine ab ⟨_,rfl,λh=>?_,λh=>?_⟩
    .have O:j<(cN x).length:=by simpa using h
     have hr:(cN x)[j]? =some (cN x)[j]:=by simp[O]
     have J:(cN x)[j]∈cN x:=dG O;generalize (cN x)[j]=r at hr J;have kY:=ird r J;obtain⟨X,rfl⟩:=fc kY.1;have nU:=nU (w:=v) (m:=X) hlen oG;refine ws ?_;refine az ?_;refine ab (gE ?_);refine aX ?_;refine gc nU ?_;refine af ?_;refine ab ?_;refine af ?_;refine ab (bA (j+1) (ao ⟨rfl,rfl,rfl,?_,rfl,rfl,rfl,rfl,rfl,rfl,rfl,aa⟩) oG oG)
     have e:jQ v ok ((cN x).take (j+1))=(jQ v ok ((cN x).take j)&&mH v X):=by
      unfold jQ;rw[s7 hr,eC]
     rw[e];generalize jQ v ok ((cN x).take j)=g;cases g<;>rfl
    .have bJ:¬ j<(cN x).length:=by simpa using h
     refine ao ⟨rfl,rfl,rfl,?_,rfl,rfl,rfl,rfl,aa⟩;show B _=B _;rw[cW oG]
   .intro s hg;have C:lG (b.ins.take (k+1)) w=(zP v x,jQ v ok (cN x)&&(x.op !=17||mH v (mO x.n).toNat)):=C;generalize jQ v ok (cN x)=SX at hg C;have HI:=HI (w:=v) (x:=x) hlen (λh=>U (.inr h)) (λ_=>by omega);have fin:∀ (d:Bool) env,d=(SX&&(x.op !=17||mH v (mO x.n).toNat))->p8 [(2,.rp 0 0),(3,.rp 1 0),(4,.rp 2 0),(6,B d),(8,.rp N 0),(14,eV b.ins),(15,I b.ins.length),(16,I k)] env->True:=λ_ _ _ _=>trivial;refine⟨_,hg,?_⟩;cases SX with
    |false=>
     have yH:false=true->aE prog 220 [I x.n] (I (mO x.n)):=λh=>by cases h
     have nU:false=true->aE prog 147 [jf v,I (mO x.n)] (B true):=λh=>by cases h
     refine eJ (ij [(6,9)]) ?_;refine bg ?_;refine BG rfl rfl rfl (λhc=>⟨ak,yH hc⟩) ?_;refine BG rfl rfl rfl (λhc=>⟨ak,nU hc⟩) ?_;refine az ?_;refine bU bX (gE ?_);refine af ?_;refine cl HI ?_;refine SS ?_;refine ab ?_;refine af ?_;refine ab (bA (k+1,N+1) (a6 ⟨rfl,rfl,rfl,?_,rfl,rfl,rfl,aa⟩ ⟨aq oG (aq oG rfl),?_,aq oG (aq oG rfl),aa⟩) ⟨oM,oM⟩ oM)
     .dsimp only;rw[C];rfl
     .dsimp only;rw[C];exact ap _ _ _
    |true=>
     by_cases gj:x.op=17
     .have yF:(x.op !=17)=false:=by simp[gj]
      have atr:=U (.inl gj);have yH:=yH (n:=x.n) oG;obtain⟨sn,tK⟩:=fc (show 0<=mO x.n by unfold mO;omega);have nU:=nU (w:=v) (m:=sn) hlen (by unfold mO at tK;omega);rw[<- tK] at nU;refine eJ (ij [(6,9)]) ?_;refine aX ?_;refine cq rfl rfl (PF rfl rfl yF) (λhc=>⟨ak,rfl⟩) ?_;refine aX ?_;refine gc yH ?_;refine gc nU ?_;refine az ?_;refine bU bX (gE ?_);refine af ?_;refine cl HI ?_;refine SS ?_;refine ab ?_;refine af ?_;refine ab (bA (k+1,N+1) (a6 ⟨rfl,rfl,rfl,?_,rfl,rfl,rfl,aa⟩ ⟨aq oG (aq oG rfl),?_,aq oG (aq oG rfl),aa⟩) ⟨oM,oM⟩ oM)
      .dsimp only;rw[C,yF,tK];rfl
      .dsimp only;rw[C];exact ap _ _ _
     .have yF:(x.op !=17)=true:=by simp[gj]
      have yH:false=true->aE prog 220 [I x.n] (I (mO x.n)):=λh=>by cases h
      have nU:false=true->aE prog 147 [jf v,I (mO x.n)] (B true):=λh=>by cases h
      refine eJ (ij [(6,9)]) ?_;refine aX ?_;refine cq rfl rfl (PF rfl rfl yF) (λhc=>⟨ak,rfl⟩) ?_;refine SS ?_;(iterate 5 refine z λ_ _=>?_);refine az ?_;refine bU bX (gE ?_);refine af ?_;refine cl HI ?_;refine SS ?_;refine ab ?_;refine af ?_;refine ab (bA (k+1,N+1) (a6 ⟨rfl,rfl,rfl,?_,rfl,rfl,rfl,aa⟩ ⟨aq oG (aq oG rfl),?_,aq oG (aq oG rfl),aa⟩) ⟨oM,oM⟩ oM)
      .dsimp only;rw[C,yF];rfl
      .dsimp only;rw[C];exact ap _ _ _
  .have bJ:¬ k<b.ins.length:=by simpa using h
   have Cv:b.ins.take k=b.ins:=cW oG;refine⟨N,hN,?_⟩;rw[Cv];exact ao eH
 .rintro s ⟨n',eZ,hg⟩;have hlen:(lG b.ins w).1.length=20:=by rw[Om,hw]
  have ID:lj b w=((lG b.ins w).1,jQ (lG b.ins w).1 (lG b.ins w).2 (dB b.fin)):=rfl;rw[ID];generalize lG b.ins w=u at hg hlen ⊢;obtain⟨v,ok⟩:=u;dsimp only at hlen hg ⊢;have SY:=SY (x:=b.fin) hf.a1 hf.a2;refine⟨_,hg,aM (aF ?_)⟩;refine af ?_;refine cl SY ?_;refine af ?_
  refine ab (cJ (λs=>aL prog s ⟨ay [(3,.rp 1 0),(4,.rp 2 0),(6,B (jQ v ok (dB b.fin)))],b8 [(1,.cells (v.map dH) 201),(2,.cells (replicate 20 (dH 0)) 201)],n'⟩) (gl (α:=Nat)
   (λj=>⟨ay [(3,.rp 1 0),(4,.rp 2 0),(6,B (jQ v ok ((dB b.fin).take j))),(53,av (dB b.fin)),(54,I (dB b.fin).length),(55,I j)],b8 [(1,.cells (v.map dH) 201),(2,.cells (replicate 20 (dH 0)) 201)],n'⟩)
   (λj=>j<=(dB b.fin).length) (λj=>(dB b.fin).length - j) 0 (a6 eH eH) oG ?_) ?_)
  .intro j hj;refine SS ?_;refine ab ⟨_,rfl,λh=>?_,λh=>?_⟩
   .have O:j<(dB b.fin).length:=by simpa using h
    have hr:(dB b.fin)[j]? =some (dB b.fin)[j]:=by simp[O]
    have J:(dB b.fin)[j]∈dB b.fin:=dG O;generalize (dB b.fin)[j]=r at hr J;have kY:=hf.rd r J;obtain⟨X,rfl⟩:=fc kY.1;have nU:=nU (w:=v) (m:=X) hlen oG;refine ws ?_;refine az ?_;refine ab (gE ?_);refine af ?_;refine cq rfl rfl (dL rfl rfl V.h V.h (qd (by first|rfl|exact aP rfl|(simp;done)|(simp;omega)|omega))) (λhc=>⟨ak,(dN V.h V.h (by first|rfl|exact aP rfl|(simp;done)|(simp;omega)|omega))⟩) ?_;refine SS ?_;refine gc nU ?_;refine af ?_;refine ab ?_;refine af ?_;refine ab (bA (j+1) (ao ⟨rfl,rfl,?_,rfl,rfl,rfl,aa⟩) oG oG)
    have e:jQ v ok ((dB b.fin).take (j+1))=(jQ v ok ((dB b.fin).take j)&&mH v X):=by
     unfold jQ;rw[s7 hr,eC]
    rw[e];generalize jQ v ok ((dB b.fin).take j)=g;cases g<;>rfl
   .have bJ:¬ j<(dB b.fin).length:=by simpa using h
    refine ao ⟨rfl,rfl,?_,aa⟩;show B _=B _;rw[cW oG]
  .intro s hg;refine⟨_,hg,aj ?_⟩;refine aX ?_;exact ab (rX (fT rfl rfl a201 uD (qd oP) t201 oP) rfl rfl)
section
def dR(l:List (List Int)):List D:=l.flatMap λw=>w.map dH
variable{sz:Nat}
def OY:∀ {l:List (List Int)} {i:Nat} {w:List Int},(∀ w∈l,w.length=sz)->l[i]? =some w->(dR l).drop (i*sz)=w.map dH++(dR (l.drop (i+1)))
 |[],i,w,_,h=>by simp at h
 |a::l,0,w,_,h=>by simp at h;subst h;simp[dR]
 |a::l,i+1,w,hs,h=>by
  have ha:(a.map dH).length=sz:=tn (hs a oS)
  have h1:(i+1)*sz=(a.map dH).length+i*sz:=by rw[ha,Nat.add_mul];omega
  have ih:=OY (l:=l) (i:=i) (w:=w) (λw C=>hs w (by simp[C])) (tn h);unfold dR at ih ⊢;rw[flatMap_cons,h1, <- drop_drop,drop_left,ih,drop_succ_cons]
variable{i:Nat}{w:List Int}
def Lh{l:List (List Int)}(h:∀ w∈l,w.length=sz)(hi:l[i]? =some w):((dR l).drop (i*sz)).take sz=w.map dH:=by
 rw[OY h hi,take_append_of_le_length (by simp[h w (cL hi)]),cW (by simp[h w (cL hi)])]
def NQ:∀ {l:List (List Int)},(∀ w∈l,w.length=sz)->(dR l).length=l.length*sz
 |[],_=>by simp[dR]
 |a::l,h=>by
  have:=NQ (l:=l) λw C=>h w (by simp[C]);unfold dR at this ⊢;rw[flatMap_cons,length_append,this,length_map,h a oS,length_cons,Nat.add_mul];omega
def BV{l:List (List Int)}(h:∀ w∈l,w.length=sz)(hi:l[i]? =some w):i*sz+sz<=(dR l).length:=by
 rw[NQ h];have:=(bO.1 hi).1;rw[<- Nat.succ_mul];exact Nat.mul_le_mul_right _ this
def Y8(hz:2<=sz):∀ {l:List (List Int)} {i:Nat} {w v:List Int},(∀ w∈l,w.length=sz)->l[i]? =some v->w.length=sz->fJ (dR l) (i*sz) (w.map dH)=dR (l.set i w):=by
 intro l i w v h hi C
 have key:fJ (dR l) (i*sz) (w.map dH)=(dR l).take (i*sz)++w.map dH++(dR l).drop (i*sz+(w.map dH).length):=by
  unfold fJ;split
  .rename_i x hx;have:(w.map dH).length=1:=by rw[hx];rfl
   simp at this;omega
  .rfl
 rw[key,length_map,C];clear key
 induction l generalizing i with
 |nil=>simp at hi
 |cons a l ih=>
  have ha:(a.map dH).length=sz:=tn (h a oS)
  cases i with
  |zero=>
   simp only[Nat.zero_mul,List.take_zero,List.nil_append,Nat.zero_add,List.set_cons_zero];unfold dR;rw[List.flatMap_cons,List.flatMap_cons, <- ha,List.drop_left]
  |succ i=>
   have ih:=ih (i:=i) (λw C=>h w (by simp[C])) (tn hi);simp only[set_cons_succ];unfold dR at ih ⊢;rw[flatMap_cons,flatMap_cons, <- ih,show(i+1)*sz=(a.map dH).length+i*sz by rw[ha,Nat.add_mul];omega,take_length_add_append,Nat.add_assoc,drop_length_add_append];simp
def agR(n:Nat)(w:List Int):dp n (w.map dH)=dR (replicate n w):=by
 unfold dp dR
 induction n with
 |zero=>rfl
 |succ n ih=>rw[replicate_succ,replicate_succ,flatten_cons,flatMap_cons,ih]
def DQ(n:Nat)(b:Bool):dp n [B b]=(replicate n b).map B:=by
 unfold dp
 induction n with
 |zero=>rfl
 |succ n ih=>rw[replicate_succ,replicate_succ,flatten_cons,map_cons,ih];rfl
def ajp(l:List (List Int)):∀ a∈dR l,Tr a:=.flat λw=>.map λ_=>.s _
def OZ{l:List (List Int)}{i:Nat}{w:List Int}(h:∀ w∈l,w.length=sz)(C:w.length=sz):∀ u∈l.set i w,u.length=sz:=λu hu=>by
 rcases mem_or_eq_of_mem_set hu with h1|h1
 .exact h u h1
 .rw[h1];exact C
def VP:∀ {w v:List Int},w.length=v.length->rC (w.map dH) (v.map dH)=some (w.map (Value.int .u64),v.map (Value.int .u64))
 |[],[],_=>rfl
 |a::w,b::v,h=>by
  have:=VP (w:=w) (v:=v) (tn h);simp[rC,BJ,this]
def VQ:∀ {w v:List Int},w.length=v.length->jV (w.map (Value.int .u64)) (v.map (Value.int .u64))=(w==v)
 |[],[],_=>rfl
 |a::w,b::v,h=>by
  have:=VQ (w:=w) (v:=v) (tn h);simp[jV,tA,this]
def ae8(w:List Int):(w.map (Value.int .u64)).map lW=replicate w.length 0:=by
 induction w with
 |nil=>rfl
 |cons a w ih=>simpa[lW,replicate_succ] using ih
end
section
variable{i sz:Nat}{e:TypeId}
section
variable{P:Program}{env:Env}{m:Mem}{nx:Nat}{x y:Operand}{t p:TypeId}{k:IntKind}{n n':Int}
def xL{j l:Nat}{r:Row}(hx:(opd env x).core=.rs j 0 l)(hy:(opd env y).core=.s (.int k (i:Int)))(hm:m j=some r)(he:aK P t=e)(hs:P.cellsOf e=sz):
 Ef P (.indexAddr t x y) env m nx ⟨bE P t=true/\i<l,.rp j (i*sz),[],[j],0⟩:=by
 have h:=Pd (P:=P) (env:=env) (m:=m) (nx:=nx) (t:=t) hx hy hm he hs;have h1:0+((i:Int)).toNat*sz=i*sz:=by simp
 have h2:(bE P t=true/\(0:Int)<=(i:Int)/\(i:Int)<l)=(bE P t=true/\i<l):=by
  apply propext;constructor
  .rintro⟨a,_,b⟩;exact⟨a,oG⟩
  .rintro⟨a,b⟩;exact⟨a,oG,oG⟩
 rw[h1,h2] at h;exact h
def agS{ps:Array (Nat×Operand)}{l:Nat}{z:List D}(hu:P.underlying t=some (.array l e))(hp:ps.toList=[])(hz:bm P t=z):Ef P (.build t ps) env m nx ⟨aT P t=true/\aT P e=true,.agg z,[],[],0⟩:=by
 refine⟨?_,rfl,rfl⟩;simp[bh,hu,hp,hz,map_nil,lA,Option.map_some]
def Zn{xs ys:List D}{us vs:List Value}{C:List Nat}(hx:(opd env x).core=.agg xs)(hy:(opd env y).core=.agg ys)(hf:BI P t=some C)(hz:rC xs ys=some (us,vs)){c:Bool}(hc:(!jV us vs)=c):
 Ef P (.binOp .neq t x y p) env m nx ⟨us.map lW=C/\P.eqGuardType P.depth t=false,.s (.bool c),[],[],0⟩:=by
 refine⟨?_,rfl,rfl⟩
 have hn:nd P m .neq t (.agg xs) y=none:=by
  unfold nd;split<;>first|rfl|(rename_i h;cases h)
 simp[bh,bS,hx,hy,hn,rD,Bx,hf,hz,hc,Option.map_some]
end
def Cb(cs:List D):Prop:=∀ d∈cs,∃ v,d=.s v
def Cb.map{α:Type}{f:α->Value}{l:List α}:Cb (l.map λx=>.s (f x)):=λd hd=>by
 obtain⟨x,_,rfl⟩:=mem_map.1 hd;exact⟨_,rfl⟩
variable{C:List D}
def alT{cs:List D}(h:Cb cs):cs.map (sub (cZ i C sz))=cs:=by
 induction cs with
 |nil=>rfl
 |cons d cs ih=>
  obtain⟨v,rfl⟩:=h d oS;rw[map_cons,ih λd hd=>h d (by simp[hd])];rfl
def O0{m:Mem}{j:Nat}{J cs:List D}(C:j≠i)(hm:m j=some (.cells cs e))(h:Cb cs):(if j=i then none else(m j).map (Row.sub (cZ i J sz)))=some (.cells cs e):=by
 rw[ai C,hm];show some (Row.cells (cs.map _) e)=_;rw[alT h]
def ajq{n:Nat}{es:List D}:sub (cZ i C sz) (.sl es n)=.sl es n:=rfl
def NR{j off n:Nat}(h:j≠i):sub (cZ i C sz) (.rs j off n)=.rs j off n:=by
 show(if j=i then _ else D.rs j off n)=_;rw[ai h]
def Bf{n:Nat}(h:C.length=n*sz):sub (cZ i C sz) (.rs i 0 n)=.sl C n:=by
 show(if i=i then D.sl ((C.drop 0).take (n*sz)) n else _)=_;rw[bi rfl,drop_zero,cW oG]
end
def alU:BI prog 201=some (replicate 20 0):=kr
def alV:prog.eqGuardType prog.depth 201=false:=kr
def alW:bm prog 201=(replicate 20 (0:Int)).map dH:=z201
def apk:prog.underlying 201=some (.array 20 199):=kr
section
variable{env:Env}{m:Mem}{nx:Nat}{x y:Operand}{p:TypeId}
def alX{w v:List Int}(hx:(opd env x).core=jf w)(hy:(opd env y).core=jf v)(h:w.length=v.length):Ef prog (.binOp .neq 201 x y p) env m nx ⟨(w.map (Value.int .u64)).map lW=replicate 20 0/\prog.eqGuardType prog.depth 201=false,B (w !=v),[],[],0⟩:=
 Zn hx hy alU (VP h) (by rw[VQ h];rfl)
def alY{w:List Int}(h:w.length=20):(w.map (Value.int .u64)).map lW=replicate 20 0/\prog.eqGuardType prog.depth 201=false:=⟨by rw[ae8,h],alV⟩
end
end Go.Abs
end
namespace Go.Abs
open List
open Go.Proofs.Tryz
open Go
section
variable{l:List Int}{x:Int}
def ad1{j:Nat}(hj:j+1<l.length):x∈swapAt l j↔x∈l:=by
 have ha:l.getD j 0=l[j]:=by simp[dF,aV (show j<l.length by omega)]
 have hb:l.getD (j+1) 0=l[j+1]:=by simp[dF,aV hj]
 rw[swapAt,ha,hb];exact(set_set_perm (show j+1<l.length from hj) (show j<l.length by omega)).mem_iff
def V2:∀ (j:Nat) {l:List Int},j<l.length->(x∈rF l j↔x∈l)
 |0,l,_=>Iff.rfl
 |j+1,l,hj=>by
  simp[rF];split
  .exact(V2 j oP).trans (ad1 hj)
  .exact Iff.rfl
def U':∀ k,k<l.length->(x∈py l k↔x∈l)
 |0,_=>Iff.rfl
 |k+1,h=>by
  simp[py];exact(V2 (k+1) (tn h)).trans (U' k oG)
def afM:x∈qe l↔x∈l:=by
 unfold qe;cases l with
 |nil=>simp[py]
 |cons a l=>exact U' _ oS
def Nd:x∈DR l↔x∈l:=by
 rw[DR,pT,WV (bK _),take_length];exact afM
end
def wrap_u64{n:Nat}(h:n<2 ^ 64):IntKind.u64.wrap (n:Int)=n:=by
 unfold IntKind.wrap;simp[IntKind.signed,IntKind.bits];omega
def air{a b:Int}(ha:0<=a/\a<18446744073709551616):0<=sJ a b/\sJ a b<=a:=by
 unfold sJ ns;simp only;rw[wrap_u64 (n:=(BitVec.ofInt IntKind.u64.bits a&&& BitVec.ofInt IntKind.u64.bits b).toNat) (BitVec.isLt (w:=64) _)];obtain⟨n,rfl⟩:=fc ha.1
 have h1:(BitVec.ofInt IntKind.u64.bits (n:Int)).toNat=n:=by
  rw[BitVec.toNat_ofInt];show((n:Int) % ((2 ^ 64:Nat):Int)).toNat=n;omega
 have h2:(BitVec.ofInt IntKind.u64.bits (n:Int)&&& BitVec.ofInt IntKind.u64.bits b).toNat<=n:=by
  rw[BitVec.toNat_and,h1];exact Nat.and_le_left
 omega
end Go.Abs
section
open Go Go.Proofs List
namespace Go.Abs
open Go.Proofs.Tryz
structure CS where
 a8:List (List Int)
 re:List Bool
 ch:Bool
def dD(x:End)(w:List Int)(s:CS)(n:Int):CS:=
 if s.re.getD n.toNat false=false\/jL (s.a8.getD n.toNat []) (jd x n w)≠s.a8.getD n.toNat [] then⟨s.a8.set n.toNat (jL (s.a8.getD n.toNat []) (jd x n w)),s.re.set n.toNat true,true⟩ else s
def eR(bs:List bH)(s:CS)(k:Nat):CS:=match bs[k]? with
 |none=>s
 |some x=>if s.re.getD k false=true then(nextR x.fin).foldl (dD x.fin (lj x (s.a8.getD k [])).1) s else s
def mq(bs:List bH)(s:CS):CS:=(List.range bs.length).foldl (eR bs) ⟨s.a8,s.re,false⟩
def pg(bs:List bH):Nat->CS->CS
 |0,s=>s
 |k+1,s=>if(mq bs s).ch=true then pg bs k (mq bs s) else mq bs s
def nh:Int:=18446744073709551615
def kz:Nat->List Int
 |0=>replicate 20 0
 |k+1=>iq (kz k) k
@[simp] theorem US : ∀ k, (kz k).length = 20
 |0=>rfl
 |k+1=>by simp[kz,US k]
def mr(n args:Nat):CS:=⟨(replicate n (replicate 20 nh)).set 0 (kz args),(replicate n false).set 0 true,true⟩
def fv(u:Int):Prop:=0<=u/\u<18446744073709551616
structure ir(n:Nat)(s:CS):Prop where
 lw:s.a8.length=n
 lr:s.re.length=n
 mn:∀ w∈s.a8,w.length=20
 rg:∀ w∈s.a8,∀ u∈w,fv u
def pI(w:List Int):Nat:=(w.map Int.toNat).sum
def sZ(s:CS):Nat:=(s.a8.map pI).sum+s.re.count false
def qL(s:CS):Nat:=sZ s+if s.ch=true then 1 else 0
def WY{l:List Nat}{k x y:Nat}(h:l[k]? =some x):(l.set k y).sum+x=l.sum+y:=by
 induction l generalizing k with
 |nil=>simp at h
 |cons a l ih=>cases k with
  |zero=>simp at h;subst h;simp;omega
  |succ k=>have:=ih (k:=k) (by simpa using h);simp;omega
def agT{l:List Int}{k:Nat}{x y:Int}(h:l[k]? =some x):pI (l.set k y)+x.toNat=pI l+y.toNat:=by
 unfold pI;rw[List.map_set];exact WY (by simp[h])
def UT{a b:Int}(h:fv a):fv (sJ a b)/\sJ a b<=a:=by
 have:=air (b:=b) h;exact⟨⟨this.1,by unfold fv at h;omega⟩,this.2⟩
def agU{α:Type}{l:List α}{k:Nat}{x:α}(h:l[k]? =some x):l.set k x=l:=by
 apply List.ext_getElem?;intro i;rw[List.getElem?_set];split
 .rename_i e;subst e;rw[bi (bO.1 h).1,h]
 .rfl
def VR{w v:List Int}(J:∀ u∈w,fv u):∀ k,k<=w.length->(∀ u∈gz w v k,fv u)/\pI (gz w v k)<=pI w/\(gz w v k≠w->pI (gz w v k)<pI w)
 |0,_=>⟨J,bK _,λh=>absurd rfl h⟩
 |k+1,hk=>by
  obtain⟨h1,h2,O⟩:=VR (v:=v) J k oG;have hl:k<(gz w v k).length:=by simp;omega
  have hx:(gz w v k)[k]? =some (gz w v k)[k]:=aV hl;have hg:(gz w v k).getD k 0=(gz w v k)[k]:=by simp[dF,hx]
  have hm:=h1 _ (dG hl);simp only[gz,hg];generalize (gz w v k)[k]=a at hx hm;obtain⟨r1,r2⟩:=UT (b:=v.getD k 0) hm;generalize sJ a (v.getD k 0)=y at r1 r2;have hs:=agT (y:=y) hx;unfold fv at r1 hm;refine⟨λu hu=>?_,oG,λC=>?_⟩
  .rcases List.mem_or_eq_of_mem_set hu with h|h
   .exact h1 u h
   .subst h;exact r1
  .by_cases e:y=a
   .subst e;have:(gz w v k).set k y=gz w v k:=agU hx;rw[this] at C ⊢;exact O C
   .omega
def agV{l:List (List Int)}{k:Nat}{w v:List Int}(h:l[k]? =some w):((l.set k v).map pI).sum+pI w=(l.map pI).sum+pI v:=by
 rw[List.map_set];exact WY (by simp[h])
def count_set{l:List Bool}{k:Nat}{b:Bool}(h:l[k]? =some b):(l.set k true).count false+(if b=true then 0 else 1)=l.count false:=by
 induction l generalizing k with
 |nil=>simp at h
 |cons a l ih=>cases k with
  |zero=>simp at h;subst h;cases a<;>simp
  |succ k=>have:=ih (k:=k) (by simpa using h);simp only[List.set_cons_succ,List.count_cons];omega
def Jb{x:End}{w:List Int}{s:CS}{n:Nat}{t:Int}(hs:ir n s)(ht:0<=t/\t<n):ir n (dD x w s t)/\qL (dD x w s t)<=qL s:=by
 obtain⟨lw,lr,mn,rg⟩:=hs;obtain⟨k,rfl⟩:=fc ht.1;have hk:k<n:=by omega
 have hx:s.a8[k]? =some s.a8[k]:=aV oG;have hb:s.re[k]? =some s.re[k]:=aV oG;have X:s.a8.getD k []=s.a8[k]:=by simp[dF,hx]
 have U:s.re.getD k false=s.re[k]:=by simp[dF,hb]
 have hm:s.a8[k]∈s.a8:=dG _;unfold dD;simp only[eC,X,U];generalize s.a8[k]=v at hx hm;generalize s.re[k]=b at hb;have v20:=mn v hm;obtain⟨C,O,J⟩:=VR (v:=jd x k w) (rg v hm) 20 oG;have hl:=UU v (jd x k w)
 change (∀ u∈jL v (jd x k w),fv u) at C
 change pI (jL v (jd x k w))<=pI v at O
 change jL v (jd x k w)≠v->pI (jL v (jd x k w))<pI v at J
 generalize jL v (jd x k w)=u at C O J hl;split
 .rename_i hc;refine⟨⟨by simp[lw],by simp[lr],OZ mn oG,λy hy=>?_⟩,?_⟩
  .rcases List.mem_or_eq_of_mem_set hy with h|h
   .exact rg y h
   .subst h;exact C
  .have h1:=agV (v:=u) hx;have h2:=count_set hb;unfold qL sZ;simp only[if_true];rcases hc with hc|hc
   .subst hc;simp only[Bool.false_eq_true,if_false] at h2;omega
   .have:=J hc;omega
 .exact⟨⟨lw,lr,mn,rg⟩,bK _⟩
def Jp{α β:Type}{f:β->α->β}{J:β->Prop}{φ:β->Nat}{l:List α}(h:∀ x∈l,∀ s,J s->J (f s x)/\φ (f s x)<=φ s){s:β}(hs:J s):J (l.foldl f s)/\φ (l.foldl f s)<=φ s:=by
 induction l generalizing s with
 |nil=>exact⟨hs,bK _⟩
 |cons x l ih=>
  obtain⟨h1,h2⟩:=h x oS s hs;obtain⟨C,O⟩:=ih (λy hy=>h y (by simp[hy])) h1;exact⟨C,Nat.le_trans O h2⟩
def Jq(x:End):(nextR x).length<=x.aA.length+3:=by
 have h1:=WW (d:=qe (dI x)) (qe (dI x)).length;have h2:=OX x;rw[UP] at h1;exact Nat.le_trans (by simpa[nextR,DR,pT] using h1) h2
structure wl(n:Nat)(b:bH):Prop where
 len:b.ins.length<=100000
 ins:∀ x∈b.ins,tw x
 fin:Hj b.fin
 rl:∀ x∈b.ins,(cN x).length<=100000
 rf:(dB b.fin).length<=100000
 to:∀ t∈nextR b.fin,0<=t/\t<n
def On{bs:List bH}{s:CS}{n k:Nat}(hb:∀ b∈bs,wl n b)(hs:ir n s):ir n (eR bs s k)/\qL (eR bs s k)<=qL s:=by
 unfold eR;split
 .exact⟨hs,bK _⟩
 .rename_i x hx;split
  .exact Jp (J:=ir n) (φ:=qL) (λt ht s hs=>Jb hs ((hb x (cL hx)).to t ht)) hs
  .exact⟨hs,bK _⟩
def F4{bs:List bH}{s:CS}{n:Nat}(hb:∀ b∈bs,wl n b)(hs:ir n s):ir n (mq bs s)/\qL (mq bs s)<=sZ s:=by
 have:=Jp (J:=ir n) (φ:=qL) (f:=eR bs) (l:=List.range bs.length) (λk _ s hs=>On hb hs) (s:=⟨s.a8,s.re,false⟩) ⟨hs.lw,hs.lr,hs.mn,hs.rg⟩;exact this
def jU(bs:List bH)(args:Nat):CS:=pg bs (sZ (mr bs.length args)+1) (mr bs.length args)
def getD_some{α:Type}{l:List α}{k:Nat}{x d:α}(h:l[k]? =some x):l.getD k d=x:=by simp[dF,h]
def O1{α:Type}{n k:Nat}{x y:α}(hk:k<n):(replicate k x++replicate (n - k) y).set k x=replicate (k+1) x++replicate (n - (k+1)) y:=by
 rw[show n - k=n - (k+1)+1 by omega,List.replicate_succ,List.replicate_succ',List.append_assoc,List.singleton_append];rw[List.set_append];simp
def agW{α:Type}{a b:Nat}{x y z:α}(h:z∈replicate a x++replicate b y):z=x\/z=y:=by
 rcases List.mem_append.1 h with h|h
 .exact .inl (List.eq_of_mem_replicate h)
 .exact .inr (List.eq_of_mem_replicate h)
def ade{x:End}{w v:List Int}{s:CS}{k:Nat}{b:Bool}(hx:s.a8[k]? =some v)(hb:s.re[k]? =some b)(h:b=false\/jL v (jd x k w)≠v):dD x w s k=⟨s.a8.set k (jL v (jd x k w)),s.re.set k true,true⟩:=by
 unfold dD;rw[eC,getD_some hx,getD_some hb,bi h]
def adI{x:End}{w v:List Int}{s:CS}{k:Nat}{b:Bool}(hx:s.a8[k]? =some v)(hb:s.re[k]? =some b)(h:¬ (b=false\/jL v (jd x k w)≠v)):dD x w s k=s:=by
 unfold dD;rw[eC,getD_some hx,getD_some hb,ai h]
def Na{n args:Nat}(ha:∀ u∈kz args,fv u):ir n (mr n args):=by
 refine⟨by simp[mr],by simp[mr],OZ (λw C=>by rw[List.eq_of_mem_replicate C];simp) oS,λw C u hu=>?_⟩;rcases List.mem_or_eq_of_mem_set C with h|h
 .rw[List.eq_of_mem_replicate h] at hu;rw[List.eq_of_mem_replicate hu];simp[fv,nh]
 .rw[h] at hu;exact ha u hu
def EQ{p q:D}{f:aO}{n args:Nat}(hp:Tr p)(hq:Tr q)(ie:p.one=true)(gh:q.one=true)(hn:f.blocks.length=n)(rI:0<n)(sT:n<=100000)(ha:f.args=args)(uY:args<=1000)(FP:∀ u∈kz args,fv u)(hb:∀ b∈f.blocks,wl n b):
 aE prog 144 [.agg (bR p q f)] (.bu [.sl (dR (jU f.blocks args).a8) n,.sl ((jU f.blocks args).re.map B) n]):=by
 have bB:∀ a∈[D.agg (bR p q f)],Tr a:=.cons (po hp hq f) .nil;refine bN (fo f144) bB (.bu (.cons (.sl (ajp _)) (.cons (.sl (.map λ_=>.s _)) .nil))) ?_;refine aF ?_;refine az ?_;refine ab (bF (cE [(0,bR p q f,93)] eH (l:=[(1,.pt (bR p q f))]) eH) (xx (ij [(4,5),(4,6),(4,7),(4,8)]) ?_));refine aX ?_;refine cY (zx rfl rfl V.h V.h) ak ⟨oG,rfl,oG,by rw[aay];omega,V.h⟩ ?_;refine eD ?_;have eZ:((f.blocks.length:Nat):Int).toNat=n:=hn;refine bU bX (bF (a6 (l:=[(1,.pt (bR p q f)),(4,.rs 1 0 n),(5,.rs 2 0 n)]) (ml:=[(1,.cells (dR (replicate n (replicate 20 0))) 201),(2,.cells ((replicate n false).map B) 4)]) ⟨rfl,?_,?_,aa⟩ ⟨?_,?_,aa⟩) (aM (aF ?_)))
 .exact congrArg (λk=>D.rs 1 0 k) eZ
 .exact congrArg (λk=>D.rs 2 0 k) eZ
 .exact congrArg (λc=>some (Row.cells c 201)) ((congrArg (λk=>dp k ((replicate 20 (0:Int)).map dH)) eZ).trans (agR n (replicate 20 0)))
 .exact congrArg (λc=>some (Row.cells c 4)) ((congrArg (λk=>dp k [B false]) eZ).trans (DQ n false))
 refine az ?_
 refine ab (cJ (λs=>aL prog s ⟨ay [(1,.pt (bR p q f)),(4,.rs 1 0 n),(5,.rs 2 0 n)],b8 [(1,.cells (dR (replicate n (replicate 20 nh))) 201),(2,.cells ((replicate n false).map B) 4)],3⟩) (gl (α:=Nat)
  (λk=>⟨ay [(1,.pt (bR p q f)),(4,.rs 1 0 n),(5,.rs 2 0 n),(27,I n),(28,I k)],b8 [(1,.cells (dR (replicate k (replicate 20 nh)++replicate (n - k) (replicate 20 0))) 201),(2,.cells ((replicate n false).map B) 4)],3⟩)
  (λk=>k<=n) (λk=>n - k) 0 (a6 eH eH) oG ?_) ?_)
 .intro k hk;refine SS ?_;refine ab ⟨_,rfl,λh=>?_,λh=>?_⟩
  .have al:k<n:=by simpa using h
   have wE:=O1 (x:=replicate 20 nh) (y:=replicate 20 (0:Int)) al
   have hi:(replicate k (replicate 20 nh)++replicate (n - k) (replicate 20 (0:Int)))[k]? =some (replicate 20 0):=by
    rw[List.getElem?_append_right oS,List.length_replicate,Nat.sub_self,show n - k=n - (k+1)+1 by omega,List.replicate_succ];rfl
   have FQ:∀ w∈replicate k (replicate 20 nh)++replicate (n - k) (replicate 20 (0:Int)),w.length=20:=λw X=>by
    rcases agW X with h|h<;>(rw[h];simp)
   have Rz:aE prog 217 [] (jf (replicate 20 nh)):=Rz;refine ws ?_;refine af ?_;refine ab (gE ?_);refine af ?_;refine cl Rz ?_;refine af ?_;refine ab ?_;refine af ?_;refine ab (bA (k+1) (a6 eH ⟨?_,rfl,aa⟩) oG oG);rw[<- wE];rfl
  .have bJ:¬ k<n:=by simpa using h
   have:k=n:=by omega
   subst this;refine a6 eH ⟨?_,rfl,aa⟩;show some (Row.cells (dR (_++replicate (k - k) _)) _)=_;rw[Nat.sub_self,List.replicate_zero,List.append_nil]
 rintro s hg;refine⟨_,hg,aF ?_⟩;have hi:(replicate n (replicate 20 nh))[0]? =some (replicate 20 nh):=by simp[rI]
 have FQ:∀ w∈replicate n (replicate 20 nh),w.length=20:=λw X=>by rw[List.eq_of_mem_replicate X];simp
 refine af ?_;refine ax (agS apk rfl alW) ak ⟨V.h,V.h⟩ ?_;refine aX ?_;refine ab (bF (a6 (l:=[(1,.pt (bR p q f)),(4,.rs 1 0 n),(5,.rs 2 0 n)]) (ml:=[(1,.cells (dR ((replicate n (replicate 20 nh)).set 0 (kz 0))) 201),(2,.cells (((replicate n false).set 0 true).map B) 4)]) eH ⟨rfl,?_,aa⟩) (aM (aF ?_)))
 .rw[List.map_set];rfl
 clear hi;refine aX ?_
 refine ab (cJ (λs=>aL prog s ⟨ay [(1,.pt (bR p q f)),(4,.rs 1 0 n),(5,.rs 2 0 n)],b8 [(1,.cells (dR ((replicate n (replicate 20 nh)).set 0 (kz args))) 201),(2,.cells (((replicate n false).set 0 true).map B) 4)],3⟩) (gl (α:=Nat)
  (λk=>⟨ay [(1,.pt (bR p q f)),(4,.rs 1 0 n),(5,.rs 2 0 n),(43,I args),(44,I k)],b8 [(1,.cells (dR ((replicate n (replicate 20 nh)).set 0 (kz k))) 201),(2,.cells (((replicate n false).set 0 true).map B) 4)],3⟩)
  (λk=>k<=args) (λk=>args - k) 0 (a6 ⟨rfl,rfl,rfl,congrArg I ha,rfl,aa⟩ eH) oG ?_) ?_)
 .intro k hk;refine SS ?_;refine ab ⟨_,rfl,λh=>?_,λh=>?_⟩
  .have al:k<args:=by simpa using h
   have hi:((replicate n (replicate 20 nh)).set 0 (kz k))[0]? =some (kz k):=by simp[rI]
   have FQ:=OZ (i:=0) FQ (US k);have tE:=tE (w:=kz k) (n:=(k:Int)) oS oG;refine ws ?_;refine af ?_;refine ab (gE ?_);refine az ?_;refine ax (dL rfl rfl V.h V.h (Lh oN oN)) ak (dN V.h V.h (BV oN oN)) ?_;refine SS ?_;refine cl tE ?_;refine af ?_;refine ab ?_;refine af ?_;refine ab (bA (k+1) (a6 eH ⟨?_,rfl,aa⟩) oG oG);show some (Row.cells (dR ((List.set _ 0 (kz k)).set 0 (kz (k+1)))) _)=_;rw[List.set_set]
  .have bJ:¬ k<args:=by simpa using h
   have:k=args:=by omega
   subst this;exact ao eH
 clear FQ;rintro s hg;refine⟨_,hg,aM (aF ?_)⟩;refine SS ?_;have hi0:=Na (n:=n) FP;have hR:jU f.blocks args=pg f.blocks (sZ (mr n args)+1) (mr n args):=by rw[jU,hn]
 generalize jU f.blocks args=R at hR ⊢
 refine ab (cJ (λs=>∃ n',aL prog s ⟨ay [(4,.rs 1 0 n),(5,.rs 2 0 n)],b8 [(1,.cells (dR R.a8) 201),(2,.cells (R.re.map B) 4)],n'⟩/\ir n R) (OH (α:=CS×Nat)
  (λs=>⟨ay [(1,.pt (bR p q f)),(4,.rs 1 0 n),(5,.rs 2 0 n),(8,B s.1.ch)],b8 [(1,.cells (dR s.1.a8) 201),(2,.cells (s.1.re.map B) 4)],s.2⟩)
  (λs=>ir n s.1/\3<=s.2/\(s.1.ch=true->∃ k,sZ s.1<k/\pg f.blocks k s.1=R)/\(s.1.ch=false->s.1=R)) (λs=>2*sZ s.1+if s.1.ch=true then 1 else 0) (mr n args,3)
  (a6 eH eH) ⟨hi0,bK _,λ_=>⟨_,Nat.lt_succ_self _,hR.symm⟩,λh=>by cases h⟩ ?_) ?_)
 .rintro⟨C,N0⟩ ⟨Cc,zh,kZ,HP⟩;dsimp only at Cc zh kZ HP ⊢;refine SS ?_;refine ab ⟨_,rfl,λh0=>?_,λh=>?_⟩
  .obtain⟨fu,al1,Hk⟩:=kZ h0;obtain⟨fu,rfl⟩:∃ j,fu=j+1:=⟨fu - 1,oG⟩
   have Hl:=F4 hb Cc;refine ws ?_;refine SS ?_;refine ab (aF ?_);refine bG ?_
   refine ab (gl (α:=Nat×Nat)
    (λk=>⟨ay [(1,.pt (bR p q f)),(4,.rs 1 0 n),(5,.rs 2 0 n),(8,B ((List.range k.1).foldl (eR f.blocks) ⟨C.a8,C.re,false⟩).ch),(58,fA f.blocks),(59,I n),(60,I k.1)],b8 [(1,.cells (dR ((List.range k.1).foldl (eR f.blocks) ⟨C.a8,C.re,false⟩).a8) 201),(2,.cells (((List.range k.1).foldl (eR f.blocks) ⟨C.a8,C.re,false⟩).re.map B) 4)],k.2⟩)
    (λk=>k.1<=n/\3<=k.2) (λk=>n - k.1) (0,N0) (a6 ⟨rfl,rfl,rfl,rfl,rfl,congrArg (λk:Nat=>I k) hn,rfl,aa⟩ eH) ⟨Nat.zero_le _,zh⟩ ?_)
   rintro⟨k,N⟩ ⟨hk,hN⟩;dsimp only at hk hN ⊢;have c6:=(Jp (J:=ir n) (φ:=qL) (f:=eR f.blocks) (l:=List.range k) (λk _ s hs=>On hb hs) (s:=⟨C.a8,C.re,false⟩) ⟨Cc.lw,Cc.lr,Cc.mn,Cc.rg⟩).1;have dw:(List.range (k+1)).foldl (eR f.blocks) ⟨C.a8,C.re,false⟩=eR f.blocks ((List.range k).foldl (eR f.blocks) ⟨C.a8,C.re,false⟩) k:=by rw[List.range_succ,List.foldl_append];rfl
   have mY:k=n->(List.range k).foldl (eR f.blocks) ⟨C.a8,C.re,false⟩=mq f.blocks C:=λe=>by rw[e,mq,hn]
   generalize (List.range k).foldl (eR f.blocks) ⟨C.a8,C.re,false⟩=u at c6 dw mY;refine SS ?_;refine ab ⟨_,rfl,λh=>?_,λh=>?_⟩
   .have al:k<n:=by simpa using h
    have hx:f.blocks[k]? =some f.blocks[k]:=aV oG;have eF:f.blocks[k]∈f.blocks:=dG _;generalize f.blocks[k]=x at hx eF;have lf:=hb x eF;have O:eR f.blocks u k=if u.re.getD k false=true then(nextR x.fin).foldl (dD x.fin (lj x (u.a8.getD k [])).1) u else u:=by rw[eR,hx]
    have lw:=c6.lw;have lr:=c6.lr;have mn:=c6.mn;have X:u.a8[k]? =some u.a8[k]:=aV oG;have rQ:u.re[k]? =some u.re[k]:=aV oG;rw[getD_some X,getD_some rQ] at O;have o8:=mn _ (dG (h:=by omega):u.a8[k]∈u.a8);generalize u.a8[k]=w at X O o8;generalize u.re[k]=b at rQ O;have kd:=nv (f:=B) rQ;refine ws ?_;refine cB ?_;refine ab (aM (aj ?_));refine af ?_;refine ax (pY rfl rfl (aq oG (aq oG rfl)) V.h V.h) ak ⟨V.h,oG⟩ ?_;refine ax (fe rfl (aq oG (aq oG rfl)) kd V.h) ak (fh V.h V.h kd) ?_;refine SS ?_;refine ab (cG rfl (λh=>tU (D3 ?_)) λh=>dn (xx iB ?_))
    .have AS:b=false:=by simpa using h
     subst AS;have O:eR f.blocks u k=u:=O;refine af ?_;refine ab (bA (k+1,N+1) (a6 ⟨rfl,rfl,rfl,?_,rfl,rfl,rfl,aa⟩ ⟨?_,?_,aa⟩) ⟨oM,oM⟩ oM)
     .dsimp only;rw[dw,O];rfl
     .dsimp only;rw[dw,O];exact aq oG (aq oG rfl)
     .dsimp only;rw[dw,O];exact aq oG (aq oG rfl)
    have SZ:b=true:=by simpa using h
    subst SZ;have O:eR f.blocks u k=(nextR x.fin).foldl (dD x.fin (lj x w).1) u:=O;have qt:=qt o8 lf.len lf.ins lf.fin lf.rl lf.rf;have yL:=MR x w;rw[o8] at yL;generalize ID:lj x w=th at qt yL O;obtain⟨w',SX⟩:=th;dsimp only at yL qt O;clear kd;refine az ?_;refine ax (xL rfl rfl (aq oG (aq oG (ap _ _ _))) V.h V.h) ak ⟨V.h,oG⟩ ?_;refine ax (dL rfl (aq oG (aq oG (ap _ _ _))) V.h V.h (Lh oN oN)) ak (dN V.h V.h (BV oN oN)) ?_;refine cl qt ?_;refine cB ?_;refine bU bX (bF (xB (l:=[(1,.pt (bR p q f)),(4,.rs 1 0 n),(5,.rs 2 0 n),(8,B u.ch),(10,.rp N 0),(11,.rp (N+1) 0),(58,fA f.blocks),(59,I n),(60,I k)]) (m':=up (up (b8 [(1,.cells (dR u.a8) 201),(2,.cells (u.re.map B) 4)]) N (some (.cells (bq x) 69))) (N+1) (some (.cells (w'.map dH) 201))) eH (by rw[yq,yq])) (aF ?_));have za:=za (x:=x.fin);have zg:=Zo (x:=x.fin) lf.fin.wh
    change aE _ _ _ (av (nextR x.fin)) at zg
    have eE:=lf.to;have kX:=Jq x.fin;have Mv:=lf.fin.wh;generalize nextR x.fin=l at zg O eE kX;refine ax (oi rfl (aq oG (ap _ _ _)) V.h) ak (jK V.h) ?_;refine ax (dL (vs:=aR _) rfl (aq oG (ap _ _ _)) V.h V.h rfl) ak (dN V.h V.h (by first|(simp;done)|omega|exact aP rfl)) ?_;refine cl za ?_;refine cl zg ?_;refine af ?_;have yJ:eR f.blocks u k=l.foldl (dD x.fin w') u:=O
    refine ab (gl (α:=Nat×Nat)
     (λj=>⟨ay [(1,.pt (bR p q f)),(4,.rs 1 0 n),(5,.rs 2 0 n),(8,B ((l.take j.1).foldl (dD x.fin w') u).ch),(10,.rp N 0),(11,.rp (N+1) 0),(58,fA f.blocks),(59,I n),(60,I k),(82,av l),(83,I l.length),(84,I j.1)],up (up (b8 [(1,.cells (dR ((l.take j.1).foldl (dD x.fin w') u).a8) 201),(2,.cells (((l.take j.1).foldl (dD x.fin w') u).re.map B) 4)]) N (some (.cells (bq x) 69))) (N+1) (some (.cells (w'.map dH) 201)),j.2⟩)
     (λj=>j.1<=l.length/\N+2<=j.2) (λj=>l.length - j.1) (0,N+2) (xB eH rfl) ⟨Nat.zero_le _,bK _⟩ ?_)
    rintro⟨j,N'⟩ ⟨hj,Mw⟩;dsimp only at hj Mw ⊢;have Mx:=(Jp (J:=ir n) (φ:=qL) (f:=dD x.fin w') (l:=l.take j) (λt ht s hs=>Jb hs (eE t (List.mem_of_mem_take ht))) c6).1;have U:∀ t,l[j]? =some t->(l.take (j+1)).foldl (dD x.fin w') u=dD x.fin w' ((l.take j).foldl (dD x.fin w') u) t:=λt ht=>s7 ht;have uo:j=l.length->(l.take j).foldl (dD x.fin w') u=eR f.blocks u k:=λe=>by rw[yJ,cW oG]
    generalize (l.take j).foldl (dD x.fin w') u=v at Mx U uo;clear lw lr mn X rQ;have lw:=Mx.lw;have lr:=Mx.lr;have mn:=Mx.mn;refine SS ?_;refine ab ⟨_,rfl,λh=>?_,λh=>?_⟩
    .have dx:j<l.length:=by simpa using h
     have ht:l[j]? =some l[j]:=aV dx;have vr:=eE _ (dG dx);generalize l[j]=t at ht vr;obtain⟨i,rfl⟩:=fc vr.1;have cv:i<n:=by omega
     have X:v.a8[i]? =some v.a8[i]:=aV oG;have rQ:v.re[i]? =some v.re[i]:=aV oG;have S0:=mn _ (dG (h:=by omega):v.a8[i]∈v.a8);generalize v.a8[i]=y at X S0;generalize v.re[i]=b at rQ;have kd:=nv (f:=B) rQ;have Av:=Av (x:=x.fin) (b:=(i:Int)) (w:=w') yL (by have:=lf.fin.wh;omega) (by have:=lf.fin.wr;omega);have CR:=UR x.fin i w';rw[yL] at CR;have LD:=LD S0 CR;have E0:=UU y (jd x.fin i w');rw[S0] at E0;have yes:=ade (x:=x.fin) (w:=w') X rQ;have no:=adI (x:=x.fin) (w:=w') X rQ;generalize jL y (jd x.fin i w')=z at LD E0 yes no;refine ws ?_;refine az ?_;refine ab (xx (ij [(2,8),(3,8)]) ?_);refine af ?_;refine ax (xL rfl rfl (aq oG (aq oG (ap _ _ _))) V.h V.h) ak ⟨V.h,oG⟩ ?_;refine ax (dL rfl (aq oG (aq oG (ap _ _ _))) V.h V.h (Lh oN oN)) ak (dN V.h V.h (BV oN oN)) ?_;refine ax (oi rfl (aq oG (ap _ _ _)) V.h) ak (jK V.h) ?_;refine ax (dL (vs:=aR _) rfl (aq oG (ap _ _ _)) V.h V.h rfl) ak (dN V.h V.h (by first|(simp;done)|omega|exact aP rfl)) ?_;refine SS ?_;refine ax (dL rfl (ap _ _ _) V.h V.h (qd (by first|rfl|exact aP rfl|(simp;done)|(simp;omega)|omega))) ak (dN V.h V.h (by first|rfl|exact aP rfl|(simp;done)|(simp;omega)|omega)) ?_;refine cl Av ?_;refine cl LD ?_;refine af ?_;refine bU bX (bF (xB (l:=[(1,.pt (bR p q f)),(4,.rs 1 0 n),(5,.rs 2 0 n),(8,B v.ch),(10,.rp N 0),(11,.rp (N+1) 0),(14,I i),(15,.rp N' 0),(58,fA f.blocks),(59,I n),(60,I k),(82,av l),(83,I l.length),(84,I j)]) (m':=up (up (up (b8 [(1,.cells (dR v.a8) 201),(2,.cells (v.re.map B) 4)]) N (some (.cells (bq x) 69))) (N+1) (some (.cells (w'.map dH) 201))) N' (some (.cells (z.map dH) 201))) eH (yq _ _ _ _)) (eJ iB ?_));refine af ?_;refine ax (pY rfl rfl (aq oG (aq oG (aq oG rfl))) V.h V.h) ak ⟨V.h,oG⟩ ?_;refine ax (fe rfl (aq oG (aq oG (aq oG rfl))) kd V.h) ak (fh V.h V.h kd) ?_;refine af ?_;refine cq rfl rfl (dL rfl (ap _ _ _) V.h V.h (qd (by first|rfl|exact aP rfl|(simp;done)|(simp;omega)|omega))) (λhc=>⟨ak,(dN V.h V.h (by first|rfl|exact aP rfl|(simp;done)|(simp;omega)|omega))⟩) ?_;refine af ?_;refine cq rfl rfl (xL rfl rfl (aq oG (aq oG (aq oG (ap _ _ _)))) V.h V.h) (λhc=>⟨ak,⟨V.h,oG⟩⟩) ?_;refine cq rfl rfl (dL rfl (aq oG (aq oG (aq oG (ap _ _ _)))) V.h V.h (Lh oN oN)) (λhc=>⟨ak,(dN V.h V.h (BV oN oN))⟩) ?_;refine cq rfl rfl (alX rfl rfl (by first|assumption|(simp;omega)|omega)) (λhc=>⟨ak,(alY (by first|assumption|(simp;omega)|omega))⟩) ?_;refine SS ?_;refine bU bX (au rfl (λh=>?_) λh=>?_)
     .have yes:=yes (by
       cases b with
       |false=>exact .inl rfl
       |true=>exact .inr (by simpa using h))
      have U:=(U _ ht).trans yes;clear yes no;refine gE ?_;refine aX ?_;refine ax (dL rfl (ap _ _ _) V.h V.h (qd (by first|rfl|exact aP rfl|(simp;done)|(simp;omega)|omega))) ak (dN V.h V.h (by first|rfl|exact aP rfl|(simp;done)|(simp;omega)|omega)) ?_;refine ax (xL rfl rfl (aq oG (aq oG (aq oG (ap _ _ _)))) V.h V.h) ak ⟨V.h,oG⟩ ?_;refine bT (eK rfl rfl (aq oG (aq oG (aq oG (ap _ _ _)))) (Y8 oC oN oN (by first|assumption|(simp;omega)|(simp;done)))) ak (Gu (by first|(simp;omega)|(simp;done)) (BV oN oN) (rE _)) ?_;refine ax (pY rfl rfl (aq oG (aq oG (aq oG (aq oG rfl)))) V.h V.h) ak ⟨V.h,oG⟩ ?_;refine bT (dM (d:=.s (.bool _)) (cs':=_) rfl rfl (aq oG (aq oG (aq oG (aq oG rfl)))) rfl rfl) ak (bW V.h V.h (by first|(simp;done)|exact⟨rfl,aP rfl⟩|(simp;omega)) rfl) ?_;refine SS ?_;refine ab ?_;refine af ?_
      refine ab (bA (j+1,N'+1) (a6 (ml:=[(N+1,.cells (w'.map dH) 201),(N,.cells (bq x) 69),(1,.cells (dR ((l.take (j+1)).foldl (dD x.fin w') u).a8) 201),(2,.cells (((l.take (j+1)).foldl (dD x.fin w') u).re.map B) 4)]) ⟨rfl,rfl,rfl,?_,rfl,rfl,rfl,rfl,rfl,rfl,rfl,rfl,aa⟩
       ⟨aq oG (aq oG (aq oG (ap _ _ _))),aq oG (aq oG (aq oG (aq oG (ap _ _ _)))),aq oG ?_,?_,aa⟩) ⟨oM,oM⟩ oM)
      .dsimp only;rw[U];rfl
      .rw[U];exact ap _ _ _
      .rw[U];dsimp only;rw[List.map_set];exact ap _ _ _
     .have no:=no (by
       cases b with
       |false=>simp at h
       |true=>simpa using h)
      have U:=(U _ ht).trans no;refine eQ ?_;refine af ?_
      refine ab (bA (j+1,N'+1) (a6 (ml:=[(N+1,.cells (w'.map dH) 201),(N,.cells (bq x) 69),(1,.cells (dR ((l.take (j+1)).foldl (dD x.fin w') u).a8) 201),(2,.cells (((l.take (j+1)).foldl (dD x.fin w') u).re.map B) 4)]) ⟨rfl,rfl,rfl,?_,rfl,rfl,rfl,rfl,rfl,rfl,rfl,rfl,aa⟩
       ⟨aq oG (ap _ _ _),aq oG (aq oG (ap _ _ _)),?_,?_,aa⟩) ⟨oM,oM⟩ oM)
      .dsimp only;rw[U];rfl
      .rw[U];exact aq oG (aq oG (aq oG rfl))
      .rw[U];exact aq oG (aq oG (aq oG rfl))
    .have bJ:¬ j<l.length:=by simpa using h
     have vl:=uo oG;subst vl;show aJ _ _ _ _ _ _ _ _ _;refine af ?_;refine ab (bA (k+1,N') (a6 ⟨rfl,rfl,rfl,?_,rfl,rfl,rfl,aa⟩ ⟨?_,?_,aa⟩) ⟨oM,oM⟩ oM)
     .dsimp only;rw[dw];rfl
     .dsimp only;rw[dw];exact aq oG (aq oG rfl)
     .dsimp only;rw[dw];exact aq oG (aq oG rfl)
   .have bJ:¬ k<n:=by simpa using h
    have hl:=mY oG;subst hl;refine bA (mq f.blocks C,N) (a6 eH eH) ⟨c6,hN,λhc=>?_,λhc=>?_⟩ ?_
    .refine⟨fu,?_,?_⟩
     .have:=Hl.2;unfold qL at this;show sZ (mq f.blocks C)<fu;rw[bi hc] at this;omega
     .dsimp only at hc ⊢;rw[<- Hk,pg,bi hc]
    .dsimp only at hc ⊢;rw[<- Hk,pg,ai (by simp[hc])]
    .have:=Hl.2;unfold qL at this;dsimp only;rw[bi h0];split at this<;>rename_i hc
     .rw[bi hc];omega
     .rw[ai hc];omega
  .have S2:=HP h;subst S2;exact⟨N0,a6 eH eH,Cc⟩
 .rintro s ⟨n',hg,RI⟩;refine⟨_,hg,aF ?_⟩;refine aX ?_;refine ab (bF (cE [(1,dR R.a8,201),(2,R.re.map B,4)] ⟨rfl,O0 oG rfl .map,aa⟩ (l:=[(2,.sl (dR R.a8) n),(3,.sl (R.re.map B) n)]) ⟨?_,?_,aa⟩) (Xu rfl rfl rfl))
  .show sub (cZ 2 (R.re.map B) (prog.cellsOf 4)) (sub (cZ 1 (dR R.a8) (prog.cellsOf 201)) (D.rs 1 0 n))=_;rw[Bf (by rw[uD,NQ RI.mn,RI.lw]),ajq]
  .show sub (cZ 2 (R.re.map B) (prog.cellsOf 4)) (sub (cZ 1 (dR R.a8) (prog.cellsOf 201)) (D.rs 2 0 n))=_;rw[NR oG,Bf (by rw[c4,List.length_map,RI.lr,Nat.mul_one])]
section
def jc(r:Nat)(l:List D):D:=match l with
 |[]=>.z
 |_=>.rs r 0 l.length
variable{r:Nat}
def Hm{l:List D}(h:l≠[]):jc r l=.rs r 0 l.length:=by cases l with
 |nil=>exact absurd rfl h
 |cons=>rfl
def sK(ρ:Nat->Nat)(L:Nat->List D)(n:Nat):List D:=(range n).map λi=>jc (ρ i) (L i)
variable{n:Nat}
@[simp] theorem as4 (ρ : Nat -> Nat) (L : Nat -> List D) (n : Nat) : (sK ρ L n).length = n := by simp [sK]
def VS{ρ:Nat->Nat}{L:Nat->List D}{i:Nat}(hi:i<n):∃ cs,(sK ρ L n).drop i=jc (ρ i) (L i)::cs:=
 ⟨_,nv (f:=λi=>jc (ρ i) (L i)) (by simp[hi])⟩
def ae'{α:Type}{F:Nat->α}{i:Nat}{x:α}:((range n).map F).set i x=(range n).map (up F i x):=by
 apply ext_getElem?;intro k;rw[getElem?_set];simp[length_map,length_range,getElem?_map];split
 .rename_i e;subst e;split
  .rename_i h;simp[h,ap]
  .rename_i h;simp[h]
 .rename_i e;by_cases hk:k<n
  .simp[hk,aW F x (Ne.symm e)]
  .simp[hk]
variable{ρ:Nat->Nat}{L:Nat->List D}
def ais{i:Nat}{l:List D}(hl:l≠[]):(sK ρ L n).set i (.rs r 0 l.length)=sK (up ρ i r) (up L i l) n:=by
 rw[sK,ae'];refine congrArg (λF=>(range n).map F) (funext λk=>?_);simp[up];split
 .rw[Hm hl]
 .rfl
structure qM(m:Mem)(nx j n:Nat)(e et:TypeId)(ρ:Nat->Nat)(L:Nat->List D):Prop where
 row:m j=some (.cells (sK ρ L n) e)
 CT:j<nx
 HQ:∀ i,i<n->L i≠[]->m (ρ i)=some (.cells (L i) et)
 lt:∀ i,i<n->L i≠[]->ρ i<nx
 ne:∀ i,i<n->L i≠[]->ρ i≠j
 inj:∀ i k,i<n->k<n->L i≠[]->L k≠[]->ρ i=ρ k->i=k
variable{m:Mem}{nx j:Nat}{e et:TypeId}
def qM.ext{m':Mem}{aw:Nat}(h:qM m nx j n e et ρ L)(hm:∀ q,q<nx->m' q=m q)(hn:nx<=aw):qM m' aw j n e et ρ L:=
 ⟨(hm j h.CT).trans h.row,Nat.lt_of_lt_of_le h.CT hn,λi hi hl=>(hm _ (h.lt i hi hl)).trans (h.HQ i hi hl),λi hi hl=>Nat.lt_of_lt_of_le (h.lt i hi hl) hn,h.ne,h.inj⟩
def qM.My{m':Mem}{aw i:Nat}{l:List D}(h:qM m nx j n e et ρ L)(hi:i<n)(hl:l≠[])(hr:nx<=r)(fR:r<aw)
 (hj:m' j=some (.cells ((sK ρ L n).set i (.rs r 0 l.length)) e)) (an:m' r=some (.cells l et)) (hk:∀ q,q<nx->q≠j->(L i≠[]->q≠ρ i)->m' q=m q):qM m' aw j n e et (up ρ i r) (up L i l):=by
 have dx:=h.CT
 have IB:∀ k,k<n->k≠i->L k≠[]->m' (ρ k)=some (.cells (L k) et):=λk O J C=>
  (hk _ (h.lt k O C) (h.ne k O C) λB8 e=>J (h.inj k i O hi C B8 e)).trans (h.HQ k O C)
 refine⟨by rw[hj,ais hl],oG,λk O C=>?_,λk O C=>?_,λk O C=>?_,λa b ha hb Mz CI X=>?_⟩
 .by_cases J:k=i
  .subst J;rw[ap,ap];exact an
  .rw[aW _ _ J] at C ⊢;rw[aW _ _ J];exact IB k O J C
 .by_cases J:k=i
  .subst J;rw[ap];exact fR
  .rw[aW _ _ J] at C ⊢;have:=h.lt k O C;omega
 .by_cases J:k=i
  .subst J;rw[ap];omega
  .rw[aW _ _ J] at C ⊢;exact h.ne k O C
 .by_cases FR:a=i
  .by_cases U:b=i
   .omega
   .subst FR;rw[ap,aW _ _ U] at X;rw[aW _ _ U] at CI;have:=h.lt b hb CI;omega
  .by_cases U:b=i
   .subst U;rw[ap,aW _ _ FR] at X;rw[aW _ _ FR] at Mz;have:=h.lt a ha Mz;omega
   .rw[aW _ _ FR] at Mz X;rw[aW _ _ U] at CI X;exact h.inj a b ha hb Mz CI X
def VT(hj:j<nx)(hm:m j=some (.cells (replicate n .z) e)):qM m nx j n e et ρ (λ_=>[]):=by
 refine⟨?_,hj,λ_ _ h=>absurd rfl h,λ_ _ h=>absurd rfl h,λ_ _ h=>absurd rfl h,λ_ _ _ _ h=>absurd rfl h⟩;rw[hm];congr 2;unfold sK jc;rw[List.map_const',List.length_range]
def WZ(n:Nat):dp n [.z]=replicate n D.z:=by
 unfold dp
 induction n with
 |zero=>rfl
 |succ n ih=>rw[replicate_succ,replicate_succ,flatten_cons,ih];rfl
def jw(X:Nat->Prop)(d:D):Prop:=∀ i cs sz,X i->sub (cZ i cs sz) d=d
def nL(X:Nat->Prop)(r:Row):Prop:=∀ i cs sz,X i->Row.sub (cZ i cs sz) r=r
variable{X:Nat->Prop}
def jw.s(v:Value):jw X (.s v):=λ_ _ _ _=>rfl
def jw.sl(es:List D)(n:Nat):jw X (.sl es n):=λ_ _ _ _=>rfl
def jw.z:jw X .z:=λ_ _ _ _=>rfl
def jw.u:jw X .u:=λ_ _ _ _=>rfl
def jw.rs{X:Nat->Prop}{j off n:Nat}(h:¬ X j):jw X (.rs j off n):=λi cs sz hi=>NR λe=>h (e▸hi)
def nL.cells{X:Nat->Prop}{cs:List D}{e:TypeId}(h:∀ d∈cs,jw X d):nL X (.cells cs e):=λi C sz hi=>by
 show Row.cells (cs.map _) e=_;congr 1
 induction cs with
 |nil=>rfl
 |cons d cs ih=>rw[map_cons,h d oS i C sz hi,ih λd hd=>h d (by simp[hd])]
def nL.apl{X:Nat->Prop}{cs:List D}(h:Cb cs):nL X (.cells cs e):=nL.cells λd hd=>by obtain⟨v,rfl⟩:=h d hd;exact .s v
def lT(d:D):Wk d d:=λ_ _ _ _ h=>h
def yK:Wk .z (.sl [] 0):=λF β w v hv=>by
 obtain⟨x,rfl⟩:=hv.D';exact .kf x 0
def adM{l:List (Nat×D)}(h:∀ x∈l,jw X x.2)(t:Nat):jw X (ay l t):=by
 induction l with
 |nil=>exact .u
 |cons x l ih=>
  let⟨k,d⟩:=x;simp[ay];split
  .exact h (k,d) oS
  .exact ih λy hy=>h y (by simp[hy])
variable{l:List (Nat×Row)}{q:Nat}
def adN(h:∀ x∈l,nL X x.2){r:Row}(hq:b8 l q=some r):nL X r:=by
 induction l with
 |nil=>simp[b8] at hq
 |cons x l ih=>
  let⟨k,d⟩:=x;simp[b8] at hq;split at hq
  .cases hq;exact h (k,r) oS
  .exact ih (λy hy=>h y (by simp[hy])) hq
def afa(h:∀ x∈l,x.1≠q):b8 l q=none:=by
 induction l with
 |nil=>rfl
 |cons x l ih=>
  let⟨k,d⟩:=x;simp[b8];rw[ai λe=>h (k,d) oS e.symm];exact ih λy hy=>h y (by simp[hy])
section
variable{P:Program}
open Classical in
noncomputable def mJ(ml:List (Nat×Row))(j n k:Nat)(e et:TypeId)(ρ:Nat->Nat)(L:Nat->List D):Mem:=λq=>
 if q=j then some (.cells ((range n).map λi=>if i<k then .sl (L i) (L i).length else jc (ρ i) (L i)) e)
 else if h:∃ i,k<=i/\i<n/\L i≠[]/\ρ i=q then some (.cells (L (Classical.choose h)) et)
 else b8 ml q
def agX{k:Nat}{l:List (Nat×D)}{ml:List (Nat×Row)}(h:qM m nx j n e et ρ L)(hs:∀ i,Cb (L i))(het:P.cellsOf et=1)
 (hX:∀ i,i<n->L i≠[]->X (ρ i)) (A4:¬ X j) (hl:∀ x∈l,jw X x.2) (qC:∀ x∈ml,nL X x.2/\¬ X x.1) (hk:k<n):
 aL P ⟨ay l,mJ ml j n k e et ρ L,nx⟩ ⟨ay l,mJ ml j n (k+1) e et ρ L,nx⟩:=by
 by_cases J:L k=[]
 .refine .sE _ _ _ _ _ (λt=>lT _) λq=>?_;by_cases hq:q=j
  .subst hq;right;refine⟨_,_,e,by simp[mJ,if_true];rfl,by simp[mJ,if_true];rfl,oS,λi d d' hd kU=>?_⟩;simp[getElem?_map,eg] at hd kU;obtain⟨a,ha,rfl⟩:=hd;obtain⟨b,hb,rfl⟩:=kU;rw[ha] at hb;cases hb;by_cases h1:a<k
   .rw[bi h1,bi oG];exact lT _
   .rw[ai h1];by_cases h2:a=k
    .subst h2;rw[bi oG,J];exact yK
    .rw[ai oG];exact lT _
  .left;simp[mJ,ai hq]
   have:(∃ i,k+1<=i/\i<n/\L i≠[]/\ρ i=q)↔(∃ i,k<=i/\i<n/\L i≠[]/\ρ i=q):=by
    constructor
    .rintro⟨i,h1,h2⟩;exact⟨i,oG,h2⟩
    .rintro⟨i,h1,h2,O,h4⟩
     exact⟨i,by
      rcases Nat.lt_or_ge k i with g|g
      .exact g
      .have:i=k:=by omega
       subst this;exact absurd J O,h2,O,h4⟩
   by_cases hc:∃ i,k<=i/\i<n/\L i≠[]/\ρ i=q
   .rw[dif_pos (this.2 hc),dif_pos hc];have C:=Classical.choose_spec hc;have e2:=Classical.choose_spec (this.2 hc);have:Classical.choose (this.2 hc)=Classical.choose hc:=h.inj _ _ e2.2.1 C.2.1 e2.2.2.1 C.2.2.1 (e2.2.2.2.trans C.2.2.2.symm);rw[this]
   .rw[dif_neg (λh=>hc (this.1 h)),dif_neg hc]
 .have U:ρ k≠j:=h.ne k hk J
  have an:mJ ml j n k e et ρ L (ρ k)=some (.cells (L k) et):=by
   have hc:∃ i,k<=i/\i<n/\L i≠[]/\ρ i=ρ k:=⟨k,bK _,hk,J,rfl⟩
   simp[mJ,ai U,dif_pos hc];have C:=Classical.choose_spec hc;have:Classical.choose hc=k:=h.inj _ _ C.2.1 hk C.2.2.1 J C.2.2.2;rw[this]
  have hg:=aL.freeze (P:=P) (ay l) (mJ ml j n k e et ρ L) nx (ρ k) (L k) et an;have C:(λt=>sub (cZ (ρ k) (L k) (P.cellsOf et)) (ay l t))=ay l:=funext λt=>adM hl t _ _ _ (hX k hk J)
  have e2:(λq=>if q=ρ k then none else(mJ ml j n k e et ρ L q).map (Row.sub (cZ (ρ k) (L k) (P.cellsOf et))))=mJ ml j n (k+1) e et ρ L:=by
   funext q;by_cases CV:q=ρ k
   .subst CV;rw[bi rfl]
    have hc:¬ ∃ i,k+1<=i/\i<n/\L i≠[]/\ρ i=ρ k:=by
     rintro⟨i,g1,g2,g3,g4⟩;have:=h.inj _ _ g2 hk g3 J g4;omega
    simp[mJ,ai U,dif_neg hc];exact(afa λx hx e=>(qC x hx).2 (e▸hX k hk J)).symm
   .rw[ai CV];by_cases A5:q=j
    .subst A5;simp[mJ,if_true,Option.map_some];congr 1;show Row.cells (map _ (map _ _)) e=_;rw[map_map];congr 1;refine map_congr_left λi hi=>?_;have cv:i<n:=tn hi
     simp[Function.comp_apply];by_cases h1:i<k
     .rw[bi h1,bi oG];rfl
     .rw[ai h1];by_cases h2:i=k
      .subst h2;rw[bi oG,Hm J,het];exact Bf oG
      .rw[ai oG];by_cases O:L i=[]
       .rw[O];rfl
       .rw[Hm O];exact NR λe=>h2 (h.inj _ _ cv hk O J e)
    .simp[mJ,ai A5]
     have this:(∃ i,k+1<=i/\i<n/\L i≠[]/\ρ i=q)↔(∃ i,k<=i/\i<n/\L i≠[]/\ρ i=q):=by
      constructor
      .rintro⟨i,h1,h2⟩;exact⟨i,oG,h2⟩
      .rintro⟨i,h1,h2,O,h4⟩
       exact⟨i,by
        rcases Nat.lt_or_ge k i with g|g
        .exact g
        .have:i=k:=by omega
         subst this;exact absurd h4.symm CV,h2,O,h4⟩
     by_cases hc:∃ i,k<=i/\i<n/\L i≠[]/\ρ i=q
     .rw[dif_pos (this.2 hc),dif_pos hc];have C:=Classical.choose_spec hc;have e2:=Classical.choose_spec (this.2 hc);have:Classical.choose (this.2 hc)=Classical.choose hc:=h.inj _ _ e2.2.1 C.2.1 e2.2.2.1 C.2.2.1 (e2.2.2.2.trans C.2.2.2.symm);rw[this];exact congrArg some (nL.apl (X:=X) (hs _) _ _ _ (hX k hk J))
     .rw[dif_neg (λh=>hc (this.1 h)),dif_neg hc];cases hm:b8 ml q with
      |none=>rfl
      |some r=>exact congrArg some (adN (λx hx=>(qC x hx).1) hm _ _ _ (hX k hk J))
  rw[C,e2] at hg;exact hg
def UW{env:Env}{l:List (Nat×D)}{ml:List (Nat×Row)}(X:Nat->Prop)(h:qM m nx j n e et ρ L)(hs:∀ i,Cb (L i))(J:P.cellsOf et=1)
 (U:∀ i,i<n->L i≠[]->X (ρ i)) (O:¬ X j) (he:p8 l env) (hl:∀ x∈l,jw X x.2) (hm:G0 ml m) (qC:∀ x∈ml,nL X x.2/\¬ X x.1):
 aL P ⟨env,m,nx⟩ ⟨ay l,b8 ((j,.cells ((range n).map λi=>.sl (L i) (L i).length) e)::ml),nx⟩:=by
 have key:∀ k,k<=n->aL P ⟨ay l,mJ ml j n 0 e et ρ L,nx⟩ ⟨ay l,mJ ml j n k e et ρ L,nx⟩:=λk=>by
  induction k with
  |zero=>exact λ_=>.refl _
  |succ k ih=>exact λhk=>(ih oG).trans (agX h hs J U O hl qC oG)
 have h0:aL P ⟨env,m,nx⟩ ⟨ay l,mJ ml j n 0 e et ρ L,nx⟩:=by
  refine(aL.forget env _ m nx (td he)).trans (.drop _ _ _ _ λq=>?_);by_cases hq:q=j
  .subst hq;left;simp only[mJ,if_true,Nat.not_lt_zero,if_false];exact h.row.symm
  .simp only[mJ,ai hq];by_cases hc:∃ i,0<=i/\i<n/\L i≠[]/\ρ i=q
   .rw[dif_pos hc];have C:=Classical.choose_spec hc;left;have:=h.HQ _ C.2.1 C.2.2.1;rw[C.2.2.2] at this;exact this.symm
   .rw[dif_neg hc];exact OR hm q
 refine h0.trans ((key n (bK _)).trans (.drop _ _ _ _ λq=>.inl ?_));by_cases hq:q=j
 .subst hq;simp only[b8,mJ,if_true];congr 2;exact map_congr_left λi hi=>by rw[bi (tn hi)]
 .simp only[b8,ai hq,mJ];rw[dif_neg];rintro⟨i,g1,g2,_⟩;omega
end
end
def gH(b:Nat)(L:Nat->List Int)(t:Int):Nat->List Int:=up L t.toNat (L t.toNat++[(b:Int)])
def ui(bs:List bH)(L:Nat->List Int)(b:Nat):Nat->List Int:=match bs[b]? with
 |none=>L
 |some x=>(nextR x.fin).foldl (gH b) L
def cA(bs:List bH)(k:Nat):Nat->List Int:=(range k).foldl (ui bs) λ_=>[]
def iy(bs:List bH):List (List Int):=(range bs.length).map (cA bs bs.length)
def cr(L:List (List Int)):D:=.sl (L.map av) L.length
def DG(L:List (List Int)):Tr (cr L):=.sl (.map λ_=>cR _)
def VU{F:Nat->List Int}{n:Nat}:(D.sl ((range n).map λi=>.sl ((F i).map I) ((F i).map I).length) n)=cr ((range n).map F):=by
 rw[cr,map_map,length_map,length_range];congr 1;exact map_congr_left λi _=>by simp[av]
def Ns{b:Nat}{L:Nat->List Int}{t:Int}{c:Nat}(h:∀ i,(L i).length<=c):∀ i,(gH b L t i).length<=c+1:=λi=>by
 unfold gH;simp[up];split
 .have:=h t.toNat;simp;omega
 .have:=h i;omega
def Ya{L:Nat->List Int}{k:Nat}{l:List Int}:(λi=>(up L k l i).map I)=up (λi=>(L i).map I) k (l.map I):=by
 funext i;simp[up];split<;>rfl
def xd{p q:D}{f:aO}{n:Nat}(hp:Tr p)(hq:Tr q)(ie:p.one=true)(gh:q.one=true)(hn:f.blocks.length=n)(sT:n<=100000)(hw:∀ b∈f.blocks,b.fin.aA.length<=9)(ht:∀ b∈f.blocks,∀ t∈nextR b.fin,0<=t/\t<n):
 aE prog 93 [.agg (bR p q f)] (cr (iy f.blocks)):=by
 have bB:∀ a∈[D.agg (bR p q f)],Tr a:=.cons (po hp hq f) .nil;refine bN (fo f93) bB (DG _) ?_;refine aF (af ?_);refine ab (bF (cE [(0,bR p q f,93)] eH (l:=[(1,.pt (bR p q f))]) eH) (aF ?_));refine aX ?_;refine cY (zx rfl rfl V.h V.h) ak ⟨oG,rfl,oG,by rw[S3];omega,V.h⟩ (SS ?_);have eZ:((f.blocks.length:Nat):Int).toNat=n:=hn;refine ab (bF (a6 (l:=[(1,.pt (bR p q f)),(3,.rs 1 0 n)]) (ml:=[(1,.cells (replicate n .z) 35)]) ⟨rfl,congrArg (λk=>D.rs 1 0 k) eZ,aa⟩ ⟨?_,aa⟩) (aM (aF ?_)))
 .exact congrArg (λc=>some (Row.cells c 35)) ((congrArg (λk=>dp k [D.z]) eZ).trans (WZ n))
 refine bG ?_
 refine ab (cJ (λs=>∃ m nx ρ,aL prog s ⟨ay [(3,.rs 1 0 n)],m,nx⟩/\qM m nx 1 n 35 3 ρ (λi=>(cA f.blocks n i).map I)) (gl (α:=Nat×Mem×Nat)
  (λk=>⟨ay [(1,.pt (bR p q f)),(3,.rs 1 0 n),(15,fA f.blocks),(16,I n),(17,I k.1)],k.2.1,k.2.2⟩)
  (λk=>k.1<=n/\(∃ ρ,qM k.2.1 k.2.2 1 n 35 3 ρ (λi=>(cA f.blocks k.1 i).map I))/\∀ i,(cA f.blocks k.1 i).length<=12*k.1) (λk=>n - k.1) (0,b8 [(1,.cells (replicate n .z) 35)],2)
  (ao ⟨rfl,rfl,rfl,congrArg (λk:Nat=>I k) hn,rfl,aa⟩) ⟨Nat.zero_le _,⟨λ_=>0,VT (show 1<2 by decide) rfl⟩,λ_=>bK _⟩ ?_) ?_)
 .rintro⟨k,m,nx⟩ ⟨hk,⟨ρ,C⟩,hlen⟩;dsimp only at hk C hlen ⊢;have an:=C.row;have dx:=C.CT;refine SS ?_;refine ab ⟨_,rfl,λh=>?_,λh=>?_⟩
  .have al:k<n:=tn h
   have hx:f.blocks[k]? =some f.blocks[k]:=aV oG;have X:f.blocks[k]∈f.blocks:=dG _;generalize f.blocks[k]=x at hx X
   have dw:cA f.blocks (k+1)=(nextR x.fin).foldl (gH k) (cA f.blocks k):=by
    rw[cA,range_succ,foldl_append];show ui f.blocks _ k=_;rw[ui,hx];rfl
   generalize cA f.blocks k=L0 at C hlen an dw;refine ws (cB ?_);have za:=za (x:=x.fin);have zg:=Zo (x:=x.fin) (hw x X)
   change aE _ _ _ (av (nextR x.fin)) at zg
   have eE:=ht x X;have kX:=Jq x.fin;have Mv:=hw x X;generalize nextR x.fin=l at zg eE kX dw;refine ab (aF (ax (oi rfl s3 V.h) ak (jK V.h) (ax (dL (vs:=aR _) rfl s3 V.h V.h rfl) ak (dN V.h V.h da) (af ?_))));refine af ?_
   refine ab (gl (α:=Nat×Mem×Nat)
    (λj=>⟨ay [(1,.pt (bR p q f)),(3,.rs 1 0 n),(4,I k),(15,fA f.blocks),(16,I n),(17,I k),(25,av l),(26,I l.length),(27,I j.1)],j.2.1,j.2.2⟩)
    (λj=>j.1<=l.length/\(∃ ρ,qM j.2.1 j.2.2 1 n 35 3 ρ (λi=>((l.take j.1).foldl (gH k) L0 i).map I))/\∀ i,((l.take j.1).foldl (gH k) L0 i).length<=12*k+j.1) (λj=>l.length - j.1) (0,up m nx (some (.cells (bq x) 69)),nx+1)
    (xB eH (yq _ _ _ _)) ⟨Nat.zero_le _,⟨ρ,C.ext (λq hq=>aq oG rfl) oM⟩,hlen⟩ ?_)
   clear C an hlen;rintro⟨j,m,nx⟩ ⟨hj,⟨ρ,C⟩,hlen⟩;dsimp only at hj C hlen ⊢;have an:=C.row;have dx:=C.CT;have U:∀ t,l[j]? =some t->(l.take (j+1)).foldl (gH k) L0=gH k ((l.take j).foldl (gH k) L0) t:=λt ht=>s7 ht;have uo:j=l.length->(l.take j).foldl (gH k) L0=cA f.blocks (k+1):=λe=>by rw[dw,cW oG]
   generalize (l.take j).foldl (gH k) L0=L at C hlen an U uo;refine SS ?_;refine ab ⟨_,rfl,λh=>?_,λh=>?_⟩
   .have HS:j<l.length:=tn h
    have IE:l[j]? =some l[j]:=aV HS;have vr:=eE _ (dG HS);generalize l[j]=t at IE vr;obtain⟨i,rfl⟩:=fc vr.1;have J:i<n:=by omega
    have hL:=hlen i;have U:(l.take (j+1)).foldl (gH k) L0=up L i (L i++[(k:Int)]):=U _ IE
    have wi:∀ i,((l.take (j+1)).foldl (gH k) L0 i).length<=12*k+(j+1):=λa=>by
     rw[U];exact Ns (t:=(i:Int)) hlen a
    have IF:(λa=>((l.take (j+1)).foldl (gH k) L0 a).map I)=up (λa=>(L a).map I) i ((L i++[(k:Int)]).map I):=by rw[U];exact Ya
    let⟨cs,kd⟩:=VS (ρ:=ρ) (L:=λi=>(L i).map I) J;refine ws (az ?_);refine ab (gE ?_);by_cases hz:L i=[]
    .have CW:jc (ρ i) ((L i).map I)=.z:=by rw[hz];rfl
     rw[CW] at kd;refine bg ?_;refine ax (pY rfl rfl (aq oG (aq oG an)) V.h V.h) ak ⟨V.h,oG⟩ (bT (dM (d:=.rs _ _ _) (cs':=_) rfl rfl (aq oG (aq oG an)) rfl rfl) ak (bW V.h V.h bk rfl) (ab (af ?_)));refine ab (bA (j+1,up (up (up m nx (some (.cells [I k] 3))) (nx+1) (some (.cells [I k] 3))) 1 (some (.cells ((sK ρ (λi=>(L i).map I) n).set i (.rs (nx+1) 0 1)) 35)),nx+2) (ao eH) ⟨oM,⟨up ρ i (nx+1),?_⟩,wi⟩ oM);dsimp only;rw[IF];refine C.My J oS oG oG ?_ ?_ (λq hq A5 _=>?_)
     .rw[hz];exact ap _ _ _
     .rw[hz];exact aq oG s3
     .exact aq oG (aq oG (aq oG rfl))
    .have O:(L i).map I≠[]:=tn hz
     have CW:jc (ρ i) ((L i).map I)=.rs (ρ i) 0 (L i).length:=by rw[Hm O,length_map]
     rw[CW] at kd;have dQ:=C.HQ i J O;have hρn:=C.lt i J O;have hρ1:=C.ne i J O;refine bg ?_;refine ax (pY rfl rfl (aq oG (aq oG (aq oG an))) V.h V.h) ak ⟨V.h,oG⟩ (bT (dM (d:=.rs _ _ _) (cs':=_) rfl rfl (aq oG (aq oG (aq oG an))) rfl rfl) ak (bW V.h V.h bk rfl) (ab (af ?_)));refine ab (bA (j+1,up (up (up (up m nx (some (.cells [I k] 3))) (ρ i) none) (nx+1) (some (.cells ((L i).map I++[I k]) 3))) 1 (some (.cells ((sK ρ (λi=>(L i).map I) n).set i (.rs (nx+1) 0 ((L i).length+1))) 35)),nx+2) (ao eH) ⟨oM,⟨up ρ i (nx+1),?_⟩,wi⟩ oM);dsimp only;rw[IF];refine C.My J oS oG oG ?_ ?_ (λq hq A5 sS=>?_)
     .rw[length_map,length_append];exact ap _ _ _
     .rw[map_append];exact aq oG s3
     .have:=sS O;exact aq oG (aq oG (aq oG (aq oG rfl)))
   .have bJ:¬ j<l.length:=tn h
    have vl:=uo oG;subst vl;show aJ _ _ _ _ _ _ _ _ _;refine af ?_;refine ab (bA (k+1,m,nx) (ao eH) ⟨oM,⟨ρ,C⟩,λi=>by have:=hlen i;dsimp only at this ⊢;omega⟩ oM)
  .have bJ:¬ k<n:=tn h
   have:k=n:=by omega
   subst this;exact⟨m,nx,ρ,ao eH,C⟩
 .rintro s ⟨m,nx,ρ,hg,C⟩;have A4:¬ ∃ i,i<n/\(cA f.blocks n i).map I≠[]/\ρ i=1:=λ⟨i,h1,h2,h3⟩=>C.ne i h1 h2 h3;refine⟨_,hg.trans (UW (l:=[(3,.rs 1 0 n)]) (ml:=[]) (λr=>∃ i,i<n/\(cA f.blocks n i).map I≠[]/\ρ i=r) C (λ_=>.map) c3 (λi h1 h2=>⟨i,h1,h2,rfl⟩) A4 ⟨rfl,aa⟩ (λx hx=>?_) aa (λx hx=>by cases hx)),aF ?_⟩
  .simp at hx;subst hx;exact .rs A4
  refine af ?_;refine ab (bF (cE [(1,_,35)] eH (l:=[(2,cr (iy f.blocks))]) ⟨?_,aa⟩) (aD rfl rfl));show sub (cZ 1 _ (prog.cellsOf 35)) (D.rs 1 0 n)=_;rw[Bf (by rw[jC];simp),VU,iy,hn]
section
variable{w:List Int}{sz:Nat}{l:List (List Int)}
section
variable{P:Program}{env:Env}{m:Mem}{nx:Nat}{x y:Operand}{t e:TypeId}{k:IntKind}
def VV{rest:List D}(h:w.length=sz):(w.map dH++rest).take sz=w.map dH:=by
 rw[take_append_of_le_length (by simp[h]),cW (by simp[h])]
def Yb{n i:Nat}(hx:(opd env x).core=.sl (dR l) n)(hy:(opd env y).core=.s (.int k i))(he:aK P t=e)(hs:P.cellsOf e=sz)(hl:∀ w∈l,w.length=sz)(hz:l[i]? =some w):
 Ef P (.indexAddr t x y) env m nx ⟨bE P t=true/\0<=(i:Int)/\(i:Int)<n/\((i:Int).toNat+1)*sz<=(dR l).length,.pt (w.map dH++dR (l.drop (i+1))),[],[],0⟩:=
 P8 hx hy he hs (by rw[eC];exact OY hl hz)
def Yc{n i:Nat}(ht:bE P t=true)(hl:∀ w∈l,w.length=sz)(hz:l[i]? =some w)(hn:i<n):bE P t=true/\0<=(i:Int)/\(i:Int)<n/\((i:Int).toNat+1)*sz<=(dR l).length:=by
 have:=BV hl hz;refine⟨ht,oG,oG,?_⟩;rw[eC,Nat.add_mul,Nat.one_mul];exact this
def r7{i:Nat}{cs:List D}{l:List (Nat×D)}(hm:m i=some (.cells cs e))(hl:p8 l λt=>sub (cZ i cs (P.cellsOf e)) (env t)):aL P ⟨env,m,nx⟩ ⟨ay l,λ_=>none,nx⟩:=
 cE [(i,cs,e)] ⟨hm,aa⟩ hl
def jq{l:List (Nat×D)}(hl:p8 l env):aL P ⟨env,m,nx⟩ ⟨ay l,λ_=>none,nx⟩:=VW hl λ_=>.inr rfl
end
end
section
variable{P:Nat->Bool}{n:Nat}
def qN{k:Nat}(hk:k<n)(h:P k=false):(range n).all P=false:=by
 refine Bool.eq_false_iff.2 λht=>?_;have:=cm.1 ht k (tn hk);rw[h] at this;cases this
def nq{k:Nat}(h:(range k).all P=true)(hk:P k=true):(range (k+1)).all P=true:=by
 rw[range_succ,all_append,h];simp[hk]
abbrev nA(l:List Bool):D:=.sl (l.map B) l.length
def jx:bH:=⟨[],⟨0,0,0,0,0,.empty,fM,[],[],0⟩⟩
def vI(bs:List bH)(s:CS)(b:Nat)(y:Ins)(i:Nat):Bool:=
 let p:=((cA bs bs.length b).getD i 0).toNat
 !(s.re.getD p false)||mH (jd (bs.getD p jx).fin b (lj (bs.getD p jx) (s.a8.getD p [])).1) (y.args.getD i 0).toNat
def yr(bs:List bH)(s:CS)(b:Nat)(y:Ins):Bool:=(range (cA bs bs.length b).length).all (vI bs s b y)
def cP(y:Ins):Bool:=y.op==19
def tY(bs:List bH)(s:CS)(b:Nat):Bool:=
 !(s.re.getD b false)||((lj (bs.getD b jx) (s.a8.getD b [])).2&&((bs.getD b jx).ins.takeWhile cP).all (yr bs s b))
def zC(bs:List bH)(args:Nat):Bool:=(range bs.length).all (tY bs (jU bs args))
def takeWhile_eq{α:Type}{p:α->Bool}{l:List α}{j:Nat}(h:∀ y∈l.take j,p y=true)(h':∀ y,l[j]? =some y->p y=false):l.takeWhile p=l.take j:=by
 induction l generalizing j with
 |nil=>simp
 |cons a l ih=>cases j with
  |zero=>have:=h' a rfl;simp[this]
  |succ j=>
   have ha:=h a oS;rw[takeWhile_cons,bi ha,take_succ_cons,ih (j:=j) (λy hy=>h y (by simp[hy])) (λy hy=>h' y (tn hy))]
def Uf{b:Nat}{p:Int}:∀ {l:List Int} {L:Nat->List Int} {i:Nat},p∈(l.foldl (gH b) L) i↔p∈L i\/(p=b/\∃ t∈l,t.toNat=i)
 |[],L,i=>by simp
 |t::l,L,i=>by
  rw[foldl_cons,Uf (l:=l)];unfold gH;simp only[up];by_cases h:i=t.toNat
  .subst h;simp only[if_true,mem_append,mem_singleton];constructor
   .rintro((h|h)|⟨h,u,h1,h2⟩)
    .exact .inl h
    .exact .inr ⟨h,t,oS,rfl⟩
    .exact .inr ⟨h,u,by simp[h1],h2⟩
   .rintro(h|⟨h,u,h1,h2⟩)
    .exact .inl (.inl h)
    .exact .inl (.inr h)
  .rw[ai h];constructor
   .rintro(h'|⟨h',u,h1,h2⟩)
    .exact .inl h'
    .exact .inr ⟨h',u,by simp[h1],h2⟩
   .rintro(h'|⟨h',u,h1,h2⟩)
    .exact .inl h'
    .rcases mem_cons.1 h1 with e|e
     .subst e;exact absurd h2.symm h
     .exact .inr ⟨h',u,e,h2⟩
def Gb{bs:List bH}{p:Int}{i:Nat}:∀ {k:Nat},p∈cA bs k i↔∃ b:Nat,p=b/\b<k/\∃ x,bs[b]? =some x/\∃ t∈nextR x.fin,t.toNat=i
 |0=>by simp[cA]
 |k+1=>by
  have ih:=Gb (bs:=bs) (p:=p) (i:=i) (k:=k);have e:cA bs (k+1)=ui bs (cA bs k) k:=by rw[cA,range_succ,foldl_append];rfl
  rw[e,ui];cases hx:bs[k]? with
  |none=>
   simp only;rw[ih];constructor
   .rintro⟨b,h1,h2,C⟩;exact⟨b,h1,oG,C⟩
   .rintro⟨b,h1,h2,x,C,J⟩;refine⟨b,h1,?_,x,C,J⟩;rcases Nat.lt_or_ge b k with g|g
    .exact g
    .have:b=k:=by omega
     subst this;rw[hx] at C;cases C
  |some x=>
   simp only;rw[Uf,ih];constructor
   .rintro(⟨b,h1,h2,C⟩|⟨h1,h2⟩)
    .exact⟨b,h1,oG,C⟩
    .exact⟨k,h1,oG,x,hx,h2⟩
   .rintro⟨b,h1,h2,O,C,J⟩;rcases Nat.lt_or_ge b k with g|g
    .exact .inl ⟨b,h1,g,O,C,J⟩
    .have:b=k:=by omega
     subst this;rw[hx] at C;cases C;exact .inr ⟨h1,J⟩
variable{bs:List bH}
def TS(hb:∀ b∈bs,wl n b):∀ (k:Nat) {s:CS},ir n s->ir n (pg bs k s)
 |0,_,h=>h
 |k+1,s,h=>by
  rw[pg];split
  .exact TS hb k (F4 hb h).1
  .exact(F4 hb h).1
def agY{args:Nat}(hb:∀ b∈bs,wl bs.length b)(C:∀ u∈kz args,fv u):ir bs.length (jU bs args):=TS hb _ (Na C)
def UX{b:Nat}:∀ {l:List Int} {L:Nat->List Int} {c:Nat},(∀ i,(L i).length<=c)->∀ i,((l.foldl (gH b) L) i).length<=c+l.length
 |[],_,_,h,i=>h i
 |t::l,L,c,h,i=>by
  have:=UX (b:=b) (l:=l) (Ns (t:=t) (b:=b) h) i;rw[foldl_cons,length_cons];omega
def Gc{bs:List bH}(C:∀ b∈bs,b.fin.aA.length<=10):∀ (k i:Nat),(cA bs k i).length<=13*k
 |0,_=>by simp[cA]
 |k+1,i=>by
  have ih:=Gc C k;have e:cA bs (k+1)=ui bs (cA bs k) k:=by rw[cA,range_succ,foldl_append];rfl
  rw[e,ui];cases hx:bs[k]? with
  |none=>have:=ih i;simp only;omega
  |some x=>
   have h1:=UX (l:=nextR x.fin) (b:=k) ih i;have h2:=Jq x.fin;have J:=C x (cL hx);simp only;omega
def Nq{k:Nat}(hn:bs.length=n)(hk:k<n):(iy bs)[k]? =some (cA bs n k):=by
 subst hn;simp[iy,hk]
end
def MA{p q:D}{f:aO}{n args:Nat}(hp:Tr p)(hq:Tr q)(ie:p.one=true)(gh:q.one=true)(hn:f.blocks.length=n)(rI:0<n)(sT:n<=100000)(ha:f.args=args)(uY:args<=1000)(FP:∀ u∈kz args,fv u)(hb:∀ b∈f.blocks,wl n b)
 (Cd:∀ b x,f.blocks[b]? =some x->∀ y∈x.ins,y.op=19->y.args.length=(cA f.blocks n b).length/\∀ r∈y.args,0<=r/\r<1280):
 aE prog 62 [.agg (bR p q f)] (B (zC f.blocks args)):=by
 have bB:∀ a∈[D.agg (bR p q f)],Tr a:=.cons (po hp hq f) .nil;have EQ:=EQ hp hq ie gh hn rI sT ha uY FP hb;have xd:=xd hp hq ie gh hn sT (λb h=>(hb b h).fin.wh) (λb h=>(hb b h).to);have aaz:ir n (jU f.blocks args):=by subst hn;exact agY hb FP
 refine bN (fo f62) bB (.s _) ?_;refine aF (af ?_);refine ab (bF (cE [(0,bR p q f,93)] eH (l:=[(1,.pt (bR p q f))]) eH) ?_);have pC:zC f.blocks args=(range n).all (tY f.blocks (jU f.blocks args)):=by rw[zC,hn]
 rw[pC];clear pC;generalize jU f.blocks args=R at EQ aaz ⊢;let⟨lw,lr,mn,rg⟩:=aaz;have EQ:aE prog 144 [.agg (bR p q f)] (.bu [.sl (dR R.a8) n,nA R.re]):=by rw[nA,lr];exact EQ
 show AW _ _ _ _ (O9 _) _;refine ws (az ?_);refine ax (zt (v:=.sl _ _) rfl rfl) ak (by first|decide|simp) (ax (zt (v:=.sl _ _) rfl rfl) ak (by first|decide|simp) (af ?_));refine ab (aF (az ?_));refine ab (bF (jq (l:=[(1,.pt (bR p q f)),(3,.sl (dR R.a8) n),(4,nA R.re),(5,cr (iy f.blocks))]) eH) (ac' (aM (aF ?_))));refine bG ?_
 refine ab (cJ (λs=>(range n).all (tY f.blocks R)=true) (gl (α:=Nat×Nat)
  (λk=>⟨ay [(1,.pt (bR p q f)),(3,.sl (dR R.a8) n),(4,nA R.re),(5,cr (iy f.blocks)),(25,fA f.blocks),(26,I n),(27,I k.1)],λ_=>none,k.2⟩)
  (λk=>k.1<=n/\(range k.1).all (tY f.blocks R)=true) (λk=>n - k.1) (0,1) (jq ⟨rfl,rfl,rfl,rfl,rfl,congrArg (λk:Nat=>I k) hn,rfl,aa⟩) ⟨Nat.zero_le _,rfl⟩ ?_) ?_)
 .rintro⟨k,N⟩ ⟨hk,cb⟩;dsimp only at hk cb ⊢;refine SS ?_;refine ab ⟨_,rfl,λh=>?_,λh=>?_⟩
  .have al:k<n:=tn h
   have hx:f.blocks[k]? =some f.blocks[k]:=aV oG;have eF:f.blocks[k]∈f.blocks:=dG _;generalize f.blocks[k]=x at hx eF;have lf:=hb x eF;have vt:=Cd k x hx;have hw:R.a8[k]? =some R.a8[k]:=aV oG;have rQ:R.re[k]? =some R.re[k]:=aV oG;have o8:=mn _ (dG (h:=by omega):R.a8[k]∈R.a8)
   have O:tY f.blocks R k=(!R.re[k]||((lj x R.a8[k]).2&&(x.ins.takeWhile cP).all (yr f.blocks R k))):=by
    rw[tY,getD_some hw,getD_some rQ,getD_some hx]
   generalize R.a8[k]=w at hw o8 O;generalize R.re[k]=b at rQ O;refine aF (cB ?_);refine ab (bF (r7 (i:=N) (l:=[(1,.pt (bR p q f)),(3,.sl (dR R.a8) n),(4,nA R.re),(5,cr (iy f.blocks)),(6,I k),(7,.pt (bq x)),(25,fA f.blocks),(26,I n),(27,I k)]) s3 ⟨rfl,rfl,rfl,rfl,rfl,mC,rfl,rfl,rfl,aa⟩) (aM (aj ?_)));refine bG ?_;refine ab (cG rfl (λh=>tU (D3 ?_)) λh=>dn (aM (xx iB ?_)))
   .have AS:b=false:=tn h
    subst AS;refine af ?_;refine ab (bA (k+1,N+1) (jq eH) ⟨oM,nq cb (by rw[O];rfl)⟩ oM)
   have SZ:b=true:=tn h
   subst SZ;have qt:=qt o8 lf.len lf.ins lf.fin lf.rl lf.rf;have yL:=MR x w;rw[o8] at yL;generalize lj x w=th at qt O yL;let⟨w1,ok⟩:=th;dsimp only at qt O yL;refine az ?_;refine ax (Yb rfl rfl V.h V.h oN oN) ak (Yc V.h oN oN oG) (ax (nC rfl V.h V.h (VV oN)) ak (nD V.h V.h oP) (eD ?_));refine bU bX (bF (jq (l:=[(1,.pt (bR p q f)),(3,.sl (dR R.a8) n),(4,nA R.re),(5,cr (iy f.blocks)),(6,I k),(7,.pt (bq x)),(9,B ok),(25,fA f.blocks),(26,I n),(27,I k)]) eH) (aM (aj ?_)));refine af ?_;refine ab (cG rfl (λh=>?_) λh=>dn (aF ?_))
   .have c6:ok=false:=tn h
    subst c6;refine aM (aj (SS ?_));refine ab (dX (dd (bc (OI (aD (d:=B false) rfl ?_)))));rw[qN al (by rw[O];rfl)]
   have c6:ok=true:=tn h
   subst c6;have O:tY f.blocks R k=(x.ins.takeWhile cP).all (yr f.blocks R k):=O;refine aX ?_;have kX:=lf.len
   refine ab (gl (α:=Nat×Nat)
    (λj=>⟨ay [(1,.pt (bR p q f)),(3,.sl (dR R.a8) n),(4,nA R.re),(5,cr (iy f.blocks)),(6,I k),(25,fA f.blocks),(26,I n),(27,I k),(49,eV x.ins),(50,I x.ins.length),(51,I j.1)],λ_=>none,j.2⟩)
    (λj=>j.1<=x.ins.length/\(∀ y∈x.ins.take j.1,cP y=true)/\(x.ins.take j.1).all (yr f.blocks R k)=true) (λj=>x.ins.length - j.1) (0,_) (jq eH) ⟨Nat.zero_le _,oS,oS⟩ ?_)
   rintro⟨j,N⟩ ⟨hj,ER,HU⟩;dsimp only at hj ER HU ⊢;refine SS ?_;refine ab ⟨_,rfl,λh=>?_,λh=>?_⟩
   .have dx:j<x.ins.length:=tn h
    have hy:x.ins[j]? =some x.ins[j]:=aV dx;have Ix:x.ins[j]∈x.ins:=dG dx;generalize x.ins[j]=y at hy Ix;refine aF (aX ?_);refine ab (bF (r7 (i:=N) (l:=[(1,.pt (bR p q f)),(3,.sl (dR R.a8) n),(4,nA R.re),(5,cr (iy f.blocks)),(6,I k),(11,.pt (aI y)),(25,fA f.blocks),(26,I n),(27,I k),(49,eV x.ins),(50,I x.ins.length),(51,I j)]) s3 ⟨rfl,rfl,rfl,rfl,rfl,mC,rfl,rfl,rfl,rfl,rfl,rfl,aa⟩) (aM (aj ?_)));refine az ?_;refine ab (cG rfl (λh=>tU (ajY oC oC (D3 ?_))) λh=>dn (aF ?_))
    .have bC:y.op≠19:=tn h
     refine af ?_;refine ab (bA (k+1,_) (jq eH) ⟨oM,nq cb ?_⟩ oM);rw[O,takeWhile_eq ER (λy' h'=>by rw[hy] at h';cases h';simpa[cP] using bC)];exact HU
    have dm:y.op=19:=tn h
    let⟨zd,S4⟩:=vt y Ix dm;have hA:=Nq hn al
    have vq:∀ p∈cA f.blocks n k,∃ C:Nat,p=C/\C<n:=λp hp=>by
     let⟨b,h1,h2,_⟩:=Gb.1 hp;exact⟨b,h1,h2⟩
    have S5:yr f.blocks R k y=(range (cA f.blocks n k).length).all (vI f.blocks R k y):=by rw[yr,hn]
    have J:∀ i,vI f.blocks R k y i=(!(R.re.getD ((cA f.blocks n k).getD i 0).toNat false)||mH (jd (f.blocks.getD ((cA f.blocks n k).getD i 0).toNat jx).fin k (lj (f.blocks.getD ((cA f.blocks n k).getD i 0).toNat jx) (R.a8.getD ((cA f.blocks n k).getD i 0).toNat [])).1) (y.args.getD i 0).toNat):=λi=>by rw[vI,hn]
    have IC:=Gc (λb h=>Nat.le_trans (hb b h).fin.wh oC) n k;generalize cA f.blocks n k=A at zd hA vq S5 J IC
    have ajr:∀ i,i<A.length->vI f.blocks R k y i=false->(range n).all (tY f.blocks R)=false:=λi hi he=>by
     apply qN al;rw[O];refine Bool.eq_false_iff.2 λht=>?_
     have apx:y∈x.ins.takeWhile cP:=by
      have:x.ins.take (j+1)=x.ins.take j++[y]:=by rw[take_add_one,hy];rfl
      have h2:x.ins=x.ins.take (j+1)++x.ins.drop (j+1):=(take_append_drop _ _).symm;rw[h2,this,takeWhile_append_of_pos]
      .simp
      .intro z hz;rcases mem_append.1 hz with h|h
       .exact ER z h
       .rw[mem_singleton.1 h];simp[cP,dm]
     have:=cm.1 ht y apx;rw[S5,qN hi he] at this;cases this
    refine cB ?_
    refine ab (gl (α:=Nat×Nat)
     (λi=>⟨ay [(1,.pt (bR p q f)),(3,.sl (dR R.a8) n),(4,nA R.re),(5,cr (iy f.blocks)),(6,I k),(11,.pt (aI y)),(25,fA f.blocks),(26,I n),(27,I k),(49,eV x.ins),(50,I x.ins.length),(51,I j),(61,av A),(62,I A.length),(63,I i.1)],λ_=>none,i.2⟩)
     (λi=>i.1<=A.length/\(range i.1).all (vI f.blocks R k y)=true) (λi=>A.length - i.1) (0,_) (jq eH) ⟨Nat.zero_le _,rfl⟩ ?_)
    rintro⟨i,N⟩ ⟨hi,Qr⟩;dsimp only at hi Qr ⊢;refine SS ?_;refine ab ⟨_,rfl,λh=>?_,λh=>?_⟩
    .have pL:i<A.length:=tn h
     have hpi:A[i]? =some A[i]:=aV pL;let⟨C,IG,jn⟩:=vq _ (dG pL);rw[IG] at hpi;clear IG;have xh:f.blocks[C]? =some f.blocks[C]:=aV oG;have sL:f.blocks[C]∈f.blocks:=dG _;have hwp:R.a8[C]? =some R.a8[C]:=aV oG;have hbp:R.re[C]? =some R.re[C]:=aV oG;have RK:=mn _ (dG (h:=by omega):R.a8[C]∈R.a8);have FE:y.args[i]? =some y.args[i]:=aV oG;have A3:=S4 _ (dG (h:=by omega):y.args[i]∈y.args);have J:=J i;rw[getD_some hpi,eC,getD_some xh,getD_some hwp,getD_some hbp,getD_some FE] at J;generalize f.blocks[C]=xp at xh sL J;generalize R.a8[C]=wp at hwp RK J;generalize R.re[C]=rb at hbp J;generalize y.args[i]=r at FE A3 J;obtain⟨rn,rfl⟩:=fc A3.1;rw[eC] at J;have X:=hb xp sL;have qt:=Go.Abs.qt RK X.len X.ins X.fin X.rl X.rf;have HV:=MR xp wp;rw[RK] at HV;generalize lj xp wp=tp at qt J HV;let⟨w2,ok2⟩:=tp;dsimp only at qt J HV;have Av:=Av (x:=xp.fin) (b:=(k:Int)) (w:=w2) HV (by have:=X.fin.wh;omega) (by have:=X.fin.wr;omega);have ko:=UR xp.fin k w2;rw[HV] at ko;generalize jd xp.fin k w2=w3 at Av ko J;have nU:=nU (w:=w3) (m:=rn) ko oG;refine ws (bG ?_);refine ab (xx iB ?_);refine cF ?_;refine ax (Yb rfl rfl V.h V.h oN oN) ak (Yc V.h oN oN oG) (ax (nC rfl V.h V.h (VV oN)) ak (nD V.h V.h oP) (eD ?_));refine bU bX (bF (r7 (i:=N) (l:=[(1,.pt (bR p q f)),(3,.sl (dR R.a8) n),(4,nA R.re),(5,cr (iy f.blocks)),(6,I k),(11,.pt (aI y)),(12,I i),(13,I C),(14,.pt (w2.map dH)),(25,fA f.blocks),(26,I n),(27,I k),(49,eV x.ins),(50,I x.ins.length),(51,I j),(61,av A),(62,I A.length),(63,I i)]) s3 ⟨rfl,rfl,rfl,rfl,rfl,rfl,rfl,rfl,mC,rfl,rfl,rfl,rfl,rfl,rfl,rfl,rfl,rfl,aa⟩) (eJ (ij [(14,15),(14,16),(14,18),(14,19)]) ?_))
     have rk:∀ v:Bool,v=vI f.blocks R k y i->(v=false->(range n).all (tY f.blocks R)=false)/\(v=true->(range (i+1)).all (vI f.blocks R k y)=true):=λv hv=>by
      subst hv;exact⟨ajr i pL,λh=>nq Qr h⟩
     cases rb with
     |false=>
      let⟨_,U⟩:=rk true J.symm;have U:=U rfl;refine bg ?_;refine cq rfl rfl (zL rfl rfl V.h V.h (Du) oN) (λhc=>⟨ak,(zM V.h (Du) oN)⟩) (az ?_);refine cq rfl rfl (nC rfl V.h V.h (Yd cd)) (λhc=>⟨ak,(nD V.h V.h cd)⟩) (bg ?_);refine bU bX (au rfl (λh=>oH) λh=>eQ ?_);refine af ?_;refine ab (bA (i+1,_) (jq eH) ⟨oM,U⟩ oM)
     |true=>
      let⟨yW,U⟩:=rk (mH w3 rn) J.symm;generalize mH w3 rn=hv at nU yW U;refine bg ?_;refine cq rfl rfl (zL rfl rfl V.h V.h (Du) oN) (λhc=>⟨ak,(zM V.h (Du) oN)⟩) (az ?_);refine cq rfl rfl (nC rfl V.h V.h (Yd cd)) (λhc=>⟨ak,(nD V.h V.h cd)⟩) (bg ?_);refine bU bX (au rfl (λh=>?_) λh=>eQ ?_)
      .have hf:hv=false:=tn h
       refine ws (SS ?_);refine ab (bD (dd (dd (dd (bc (OI (aD (d:=B false) rfl ?_)))))));rw[yW hf]
      .have ht:hv=true:=tn h
       have U:=U ht;refine af ?_;refine ab (bA (i+1,_) (jq eH) ⟨oM,U⟩ oM)
    .have bJ:¬ i<A.length:=tn h
     have hiA:i=A.length:=by omega
     subst hiA;show aJ _ _ _ _ _ _ _ _ _;refine af ?_;refine ab (bA (j+1,_) (jq eH) ⟨oM,λz hz=>?_,?_⟩ oM)
     .dsimp only at hz;rw[take_add_one,hy] at hz;rcases mem_append.1 hz with h|h
      .exact ER z h
      .rw[mem_singleton.1 h];simp[cP,dm]
     .dsimp only;rw[take_add_one,hy,all_append,HU];simpa[S5] using Qr
   .have bJ:¬ j<x.ins.length:=tn h
    have Ie:j=x.ins.length:=by omega
    subst Ie;show aJ _ _ _ _ _ _ _ _ _;refine af ?_;refine ab (bA (k+1,_) (jq eH) ⟨oM,nq cb ?_⟩ oM);rw[take_length] at ER HU;rw[O,takeWhile_eq (j:=x.ins.length) (by rw[take_length];exact ER) (λy h=>by simp at h),take_length];exact HU
  .have bJ:¬ k<n:=tn h
   have:k=n:=by omega
   subst this;exact cb
 .rintro⟨env,m,nx⟩ cb;refine⟨_,.refl _,aj ?_⟩;refine SS ?_;refine ab (OI (aD (d:=B true) rfl ?_));rw[cb]
section
def pU(f:aO):Bool:=decide (f.result=1)||(decide (f.result=2)||(decide (f.result=0)&& !f.iter))
def pq(f:aO):Bool:=
 nM f.name&&(dz f.args 0 (if(f.ag.length:Int)<6 then(f.ag.length:Int) else 6)&&(pU f&&(!decide ((1200:Int)<f.ag.length)&&(!decide ((60:Int)<f.aU.length)&&dz f.blocks.length 1 1200))))
def r9(f:aO):Bool:=
 gm f.ag 3&&(gm (f.ag.take f.args.toNat) 2&&(gm f.aU 2&&(!decide ((6:Int)<f.signals.length)&& !f.signals.any λs=> !isName s)))
def vJ(l:List ByteArray)(i:Nat):Bool:=Op.bytesLess (l.getD i .empty).toList (l.getD (i+1) .empty).toList
def pZ(f:aO):Bool:=(range (f.signals.length - 1)).all (vJ f.signals)
def nG(bs:List bH)(k:Nat):List Int:=((bs.take k).filter λx=>x.fin.kind==7).map λx=>x.fin.a
def lU(f:aO)(k:Nat):Bool:=
 let x:=f.blocks.getD k jx
 jJ f x.fin&&(!decide ((200:Int)<x.ins.length)&& !(x.fin.kind==7&&(nG f.blocks k).any (·==x.fin.a)))
def xF(f:aO)(b:Nat)(l:List Ins)(j:Nat):Bool:=ky f b (l.getD j fM) ((l.take (j+1)).all cP) (cA f.blocks f.blocks.length b).length
def tZ(f:aO)(b:Nat):Bool:=(range (f.blocks.getD b jx).ins.length).all (xF f b (f.blocks.getD b jx).ins)
def ou(f:aO):Bool:=
 pq f&&(r9 f&&(pZ f&&((range f.blocks.length).all (lU f)&&(range f.blocks.length).all (tZ f))))
def fL(f:aO):Int:=if ou f=true then(if zC f.blocks f.args.toNat=true then 0 else 81) else 80
def iK(l:List Int)(r:Int):Prop:=0<=r/\r<l.length
def ll{l:List Int}{r:Int}(h:cV l r≠0):iK l r:=Classical.byContradiction λhn=>h (NS hn)
variable{l:List Int}
def om{r:Int}(h:fB l r=true):iK l r:=by
 refine ll λe=>?_;simp[fB,e] at h
def xC{l rs:List Int}(h:iX l rs=true):∀ r∈rs,iK l r:=λr hr=>om (cm.1 h r hr)
def Oo{r want of:Int}(h:oz l r want of=true)(C:want≠0):iK l r:=by
 rw[oz,ai C] at h;split at h
 .refine ll λe=>?_;simp[e] at h
 .split at h
  .refine ll λe=>?_;simp[e] at h
  .split at h
   .exact om h
   .refine ll λe=>?_;simp[e] at h
structure RL(l:List Int)(x:Ins)(s:Shape):Prop where
 to:s.to≠0->iK l x.to
 a:s.a≠0->iK l x.a
 b:s.b≠0->iK l x.b
 args:s.args=5\/s.args=6->x.args.length<=6/\∀ r∈x.args,iK l r
variable{s:Shape}
def Gk{x:Ins}(h:p6 l x s=true):RL l x s:=by
 unfold p6 at h;simp[aH] at h;let⟨h1,h2,J,C,_⟩:=h;refine⟨Oo h1,Oo h2,Oo J,λhs=>?_⟩;unfold rY at C;rcases hs with hs|hs
 .rw[bi hs,aH] at C;have:=jF.1 C.1;exact⟨oG,xC C.2⟩
 .rw[ai oG,bi hs,aH] at C;have:(x.args.length:Int)=1:=tn C.1
  exact⟨oG,xC C.2⟩
def F5{l:List (Int×Shape)}{op:Int}(h:dO l op=some s):(op,s)∈l:=by
 rw[dO,eg] at h;obtain⟨⟨o,s'⟩,h1,rfl⟩:=h;have h2:=find?_some h1;have C:=mem_of_find?_eq_some h1;have:o=op:=tn h2
 subst this;exact C
def Nb{x:Ins}(hl:l.length<=1200)(hm:(x.op,s)∈gW\/(x.op,s)∈fX)(h:RL l x s):tw x:=by
 let⟨h1,h2,O,J⟩:=h;unfold iK at h1 h2 O J;have hr:∀ {r:Int},0<=r/\r<l.length->0<=r/\r<1200:=λh=>by omega
 have U:∀ {r:Int},0<=r/\r<l.length-> -1000000<=r/\r<1200:=λh=>by omega
 let⟨op,to,a,b,n,args⟩:=x;dsimp only at h1 h2 O J hm;simp[gW,fX,mem_cons,cO,not_mem_nil,or_false] at hm;rcases hm with hm|hm
 .rcases hm with hm|hm|hm|hm|hm|hm|hm|hm|hm|hm|hm|hm|hm|hm|hm<;>obtain⟨rfl,rfl⟩:=hm<;>refine⟨λr C=>?_,λh=>?_,?_,λh=>?_⟩<;>
   simp_all[cN,dt,aC,my,ow,lk,mu]<;>first|omega|(rcases C with rfl|rfl<;>omega)|(have:=J.2 r C;omega)
 .rcases hm with hm|hm|hm|hm|hm|hm|hm|hm|hm<;>obtain⟨rfl,rfl⟩:=hm<;>refine⟨λr C=>?_,λh=>?_,?_,λh=>?_⟩<;>
   simp_all[cN,dt,aC,my,ow,lk,mu]<;>first|omega|(rcases C with rfl|rfl<;>omega)|(rcases C with rfl|rfl|C<;>first|omega|(have:=J.2 r C;omega))
end
def jr{a b:Int}:aZ a b=true↔a=b:=by simp[aZ]
theorem GG{l aU:List Int}{r n:Int}(hs:∀ k∈aU,k≠0)(h:oK l aU r n=true):iK l r/\0<=n/\n<aU.length:=by
 rw[oK,aH,jF] at h;let⟨⟨h1,h2⟩,C⟩:=h
 have J:cV aU n≠0:=by
  obtain⟨k,rfl⟩:=fc h1;have hk:k<aU.length:=by omega
  rw[vH (aV hk)];exact hs _ (dG hk)
 refine⟨ll ?_,h1,oG⟩;rw[show cV l r=cV aU n by simpa using C];exact J
def Nc{f:aO}{b ahead:Int}{x:Ins}{phis:Bool}(hl:f.ag.length<=1200)(hs:∀ k∈f.aU,k≠0)(kE:f.aU.length<=60)(h:ky f b x phis ahead=true):
 tw x/\(x.op=19->(x.args.length:Int)=ahead/\phis=true/\0<b/\iK f.ag x.to/\∀ r∈x.args,cV f.ag r=cV f.ag x.to/\iK f.ag r):=by
 unfold ky at h;split at h
 .rename_i U;simp only[aH,jr] at h;have hr:=ll (l:=f.ag) (r:=x.a) oG;unfold iK at hr;refine⟨⟨λr h'=>?_,λh'=>by omega,?_,λh'=>by omega⟩,λh'=>by omega⟩
  .simp[cN,aC,my,U] at h';omega
  .simp[dt,aC,lk,mu,U]
 .rename_i U;split at h
  .rename_i O;simp only[aH,jr] at h;let⟨h1,h2,h3⟩:=GG hs h.2.2.2;unfold iK at h1;refine⟨⟨λr h'=>?_,λh'=>by omega,?_,λh'=>by omega⟩,λh'=>by omega⟩
   .simp[cN,aC,my,ow,O] at h'
   .simp[dt,aC,lk,O];omega
  .rename_i O;split at h
   .rename_i J;simp only[aH,jr] at h;let⟨h1,h2,h3⟩:=GG hs h.2.2.2;unfold iK at h1;refine⟨⟨λr h'=>?_,λh'=>by omega,?_,λh'=>by omega⟩,λh'=>by omega⟩
    .simp[cN,aC,my,J] at h';omega
    .simp[dt,aC,lk,mu,J]
   .rename_i J;split at h
    .rename_i C;simp only[aH,jr,decide_eq_true_eq] at h;let⟨g1,g2,X,g4,g5,g6,g7,g8⟩:=h;have hr:=om X;have hk:cV f.ag x.to≠0:=λe=>by simp[fB,e] at X
     refine⟨⟨λr h'=>?_,λh'=>by omega,?_,λh'=>by omega⟩,λ_=>⟨g7,g1,g2,hr,λr fR=>?_⟩⟩
     .simp[cN,aC,my,ow,C] at h'
     .unfold iK at hr;simp[dt,aC,lk,C];omega
     .have:aZ (cV f.ag r) (cV f.ag x.to)=true:=by
       simp only[Bool.not_eq_true',any_eq_false] at g8;simpa using g8 r fR
      rw[jr] at this;exact⟨this,ll (by rw[this];exact hk)⟩
    .rename_i C;rw[aH] at h;cases hs:dO gW x.op with
     |none=>rw[hs] at h;simp at h
     |some s=>
      rw[hs] at h;exact⟨Nb hl (.inl (F5 hs)) (Gk h.2),λh'=>absurd h' C⟩
structure Li(f:aO)(x:End):Prop where
 fin:Hj x
 wh:x.aA.length<=7
 to:∀ t∈dI x,0<=t/\t<f.blocks.length
def Nt{f:aO}{x:End}(h:pk f x=true):x.aA.length<=7/\(∀ w∈x.aA,0<=w.to/\w.to<f.blocks.length)/\(0<=x.others->x.others<f.blocks.length):=by
 rw[pk,aH,aH] at h;let⟨h1,h2,C⟩:=h;have h2:(x.aA.length:Int)<=7:=tn h2
 refine⟨oG,λw J=>?_,λh0=>?_⟩
 .let⟨i,hi⟩:=dW J;have hm:(w,i)∈x.aA.zipIdx:=mem_zipIdx_iff_getElem?.2 hi;have:=cm.1 h1 _ hm;simp[ry,aH,cS,jF] at this;omega
 .rw[Bool.or_eq_true] at C;rcases C with C|C
  .have:x.others= -1:=tn C
   omega
  .rw[cS,jF] at C;omega
def JW{x:End}(h:BX x=true):x.kind=0/\x.a=0/\x.b=0/\x.to=0/\x.cz=0/\x.others= -1/\x.args.length=0/\x.aA.length=0:=by
 simp only[BX,aH,decide_eq_true_eq] at h;omega
def Oq{f:aO}{x:End}(hl:f.ag.length<=1200)(hr:pU f=true)(h:jJ f x=true):Li f x:=by
 have jZ:∀ {r:Int},iK f.ag r->0<=r/\r<1200:=λh=>by unfold iK at h;omega
 rw[jJ,aH] at h;let⟨h,hb⟩:=h;have hb:=JW hb;have X:∀ {t:Int},cS f t=true->0<=t/\t<f.blocks.length:=λh=>by rw[cS,jF] at h;omega
 let⟨kind,a,b,to,cz,name,ins,args,aA,others⟩:=x;simp only[gZ] at h hb;by_cases h1:kind=1
 .subst h1;simp only[if_true] at h hb;have J:=X h;have C:aA=[]:=length_eq_zero_iff.1 hb.2.2.2.2.2.2.2;subst C;refine⟨⟨λr h'=>?_,?_,oS,oS,oS⟩,oS,λt ht=>?_⟩
  .simp[dB,aC] at h'
  .simp[fI,aC]
  .simp[dI,jD,aC] at ht;subst ht;exact J
 by_cases h2:kind=2
 .subst h2;simp only[Int.reduceEq,if_false,if_true,aH,jr] at h hb;have C:aA=[]:=length_eq_zero_iff.1 hb.2.2.2.2.2.2.2;subst C;have FT:=jZ (ll (l:=f.ag) (r:=a) oG);have J:=X h.2.1;have IH:=X h.2.2;refine⟨⟨λr h'=>?_,?_,oS,oS,oS⟩,oS,λt ht=>?_⟩
  .simp[dB,aC] at h';subst h';exact FT
  .simp[fI,aC]
  .simp[dI,jD,aC] at ht;rcases ht with rfl|rfl
   .exact J
   .exact IH
 by_cases h3:kind=3
 .subst h3;simp only[Int.reduceEq,if_false,if_true] at h hb;have C:aA=[]:=length_eq_zero_iff.1 hb.2.2.2.2.2.2.2;subst C;refine⟨⟨λr h'=>?_,?_,oS,oS,oS⟩,oS,λt ht=>?_⟩
  .simp[dB,aC] at h';obtain⟨h1,rfl⟩:=h';split at h
   .rename_i hc;rw[jr] at h;exact jZ (ll (by rw[h];exact hc.1))
   .rw[jr] at h;exact absurd h h1
  .simp[fI,aC]
  .simp[dI,aC] at ht
 by_cases h4:kind=4
 .subst h4;simp only[Int.reduceEq,if_false,if_true] at h hb;have C:aA=[]:=length_eq_zero_iff.1 hb.2.2.2.2.2.2.2;subst C;refine⟨⟨λr h'=>?_,?_,oS,oS,oS⟩,oS,λt ht=>?_⟩
  .simp[dB,aC] at h'
  .simp[fI,aC]
  .simp[dI,aC] at ht
 by_cases h5:kind=5
 .subst h5;simp only[Int.reduceEq,if_false,if_true,aH] at h hb;let⟨g1,g2,U,O⟩:=h;let⟨xj,II,IJ⟩:=Nt O;have J:=X U
  have hi:tw ins:=by
   cases hs:dO fX ins.op with
   |none=>rw[hs] at g1;simp at g1
   |some s=>rw[hs] at g2;exact Nb hl (.inr (F5 hs)) (Gk g2)
  refine⟨⟨λr h'=>?_,?_,?_,λ_=>hi.ar,oS⟩,xj,λt ht=>?_⟩
  .simp[dB,aC] at h';exact hi.rd r h'
  .simp only[fI,if_true];exact hi.wr
  .dsimp only at xj ⊢;omega
  .simp[dI,jD,aC] at ht;rcases ht with rfl|⟨w,C,rfl⟩|⟨h0,rfl⟩
   .exact J
   .exact II w C
   .exact⟨h0,IJ h0⟩
 by_cases h6:kind=6
 .subst h6;simp only[Int.reduceEq,if_false,if_true,aH,Bool.or_eq_true,jr,decide_eq_true_eq] at h hb;let⟨g1,g2,U,O,g5,g6⟩:=h;let⟨xj,II,IJ⟩:=Nt g6;have J:=X g5;have hv:=xC U;refine⟨⟨λr h'=>?_,?_,?_,oS,λ_=>?_⟩,xj,λt ht=>?_⟩
  .simp[dB,aC] at h';exact jZ (hv r h')
  .simp only[fI,aC];rcases O with O|O
   .simp[O]
   .have:=jZ (om O);simp;omega
  .dsimp only at xj ⊢;omega
  .dsimp only;omega
  .simp[dI,jD,aC] at ht;rcases ht with rfl|⟨w,C,rfl⟩|⟨h0,rfl⟩
   .exact J
   .exact II w C
   .exact⟨h0,IJ h0⟩
 by_cases h7:kind=7
 .subst h7;simp only[Int.reduceEq,if_false,if_true,aH,jr,decide_eq_true_eq] at h hb;let⟨g1,g2,U,O,g5⟩:=h;have C:aA=[]:=length_eq_zero_iff.1 hb.2.2.2.2.2.2.2;subst C;have J:=X g5;have hv:=xC U;have FT:=jZ (ll (l:=f.ag) (r:=a) oG);refine⟨⟨λr h'=>?_,?_,oS,oS,λ_=>?_⟩,oS,λt ht=>?_⟩
  .simp[dB,aC] at h';exact jZ (hv r h')
  .simp only[fI,aC];simp;omega
  .dsimp only;omega
  .simp[dI,jD,aC] at ht;subst ht;exact J
 by_cases h8:kind=8
 .subst h8;simp only[Int.reduceEq,if_false,if_true,aH,jr] at h hb;let⟨g1,g2,U,O,g5⟩:=h;let⟨xj,II,IJ⟩:=Nt g5;have J:=X U;have IH:=X O;have FT:=jZ (ll (l:=f.ag) (r:=a) oG);have wZ:=jZ (om g2);refine⟨⟨λr h'=>?_,?_,?_,oS,oS⟩,xj,λt ht=>?_⟩
  .simp[dB,aC] at h';subst h';exact FT
  .simp[fI,aC];omega
  .dsimp only at xj ⊢;omega
  .simp[dI,jD,aC] at ht;rcases ht with rfl|rfl|⟨w,C,rfl⟩|⟨h0,rfl⟩
   .exact J
   .exact IH
   .exact II w C
   .exact⟨h0,IJ h0⟩
 by_cases h9:kind=9
 .subst h9;simp only[Int.reduceEq,if_false,if_true,aH,jr] at h hb;let⟨g1,g2,U⟩:=h;have C:aA=[]:=length_eq_zero_iff.1 hb.2.2.2.2.2.2.2;subst C;have J:=X U
  have FT:=jZ (ll (l:=f.ag) (r:=a) (by
   rw[g2];intro e
   simp[pU,e,g1] at hr))
  refine⟨⟨λr h'=>?_,?_,oS,oS,oS⟩,oS,λt ht=>?_⟩
  .simp[dB,aC] at h';subst h';exact FT
  .simp[fI,aC]
  .simp[dI,jD,aC] at ht;subst ht;exact J
 .simp[h1,h2,h3,h4,h5,h6,h7,h8,h9] at h
section
variable{P:Program}{env:Env}{m:Mem}{nx:Nat}{x y:Operand}{t e:TypeId}{k:IntKind}
def ag0{α:Type}{f:α->D}{l:List α}{b:Int}(hx:(opd env x).core=.sl (l.map f) l.length)(he:aK P t=e)(hs:P.cellsOf e=1)(hb:(opd env y).core=.s (.int .i64 b))(hc:bE P t=true)(C:0<=b/\b<=l.length):
 Ef P (.slice t x none (some y) none) env m nx ⟨True,.sl ((l.take b.toNat).map f) (l.take b.toNat).length,[],[],0⟩:=by
 have h:=DK (P:=P) (env:=env) (m:=m) (nx:=nx) (t:=t) (lo:=none) (hi:=some y) (a:=0) (b:=b) (es':=(l.take b.toNat).map f) hx he hs (by simp[gd]) (by simp[gd,hb,D.int?]) (by simp[map_take])
 have h2:(bE P t=true/\(0:Int)<=0/\(0:Int)<=b/\b<=(l.length:Int))=True:=by
  apply propext;constructor
  .exact λ_=>trivial
  .exact λ_=>⟨hc,oG,C.1,C.2⟩
 have J:(b - 0).toNat=(l.take b.toNat).length:=by rw[length_take];omega
 rw[h2,J] at h;exact h
def DI{i j sz:Nat}{C:List D}{r:Row}(J:j≠i)(hm:m j=some r)(h:Row.sub (cZ i C sz) r=r):(if j=i then none else(m j).map (Row.sub (cZ i C sz)))=some r:=by
 rw[ai J,hm];exact congrArg some h
def pf{i:Nat}{cs:List D}{l:List (Nat×D)}{ml:List (Nat×Row)}(hm:m i=some (.cells cs e))(hl:p8 l λt=>sub (cZ i cs (P.cellsOf e)) (env t))(C:G0 ml λj=>if j=i then none else(m j).map (Row.sub (cZ i cs (P.cellsOf e)))):aL P ⟨env,m,nx⟩ ⟨ay l,b8 ml,nx⟩:=
 (aL.freeze env m nx i cs e hm).trans (a6 hl C)
end
section
def hd6:∀ b1 b2 b3 b4 b5 b6:Bool,(if(if(if(if(if(!b1)=true then true else !b2)=true then true else !b3)=true then true else b4)=true then true else b5)=true then true else !b6)= !(b1&&(b2&&(b3&&(!b4&&(!b5&&b6))))):=by decide
def hd5:∀ b1 b2 b3 b4 b5:Bool,(if(if(if(if(!b1)=true then true else !b2)=true then true else !b3)=true then true else b4)=true then true else b5)= !(b1&&(b2&&(b3&&(!b4&& !b5)))):=by decide
def AQ:∀ b1 b2 b3 b4:Bool,(if(if b1=true then true else b2)=true then true else if b3=true then !b4 else false)=(b1||(b2||(b3&& !b4))):=by decide
def pO(l:List Int):List (Value×D):=l.map λa=>(.int .i64 a,B true)
def O2(a:Int):∀ l:List Int,(gM (.int .i64 a) (pO l)).map (·.2)=if(l.any (·==a))=true then some (B true) else none
 |[]=>rfl
 |b::l=>by
  have ih:=O2 a l;unfold pO at ih ⊢;simp only[map_cons,gM,wN,tA,any_cons,beq_self_eq_true,Bool.true_and] at ih ⊢;by_cases h:b=a
  .subst h;simp
  .have hb:(b==a)=false:=tn h
   simp only[hb,Bool.false_eq_true,if_false,Option.map_map,Bool.false_or];exact ih
variable{P:Program}
def ajs{t:TypeId}(hz:rh P (uy P t)=B false)(a:Int)(l:List Int):jM P t false (gM (.int .i64 a) (pO l))=B (l.any (·==a)):=by
 have h:=O2 a l;cases h1:gM (.int .i64 a) (pO l) with
 |none=>
  rw[h1] at h;cases h2:l.any (·==a) with
  |true=>rw[h2] at h;simp at h
  |false=>simp[jM,hz]
 |some x=>
  rw[h1] at h;cases h2:l.any (·==a) with
  |false=>rw[h2] at h;simp at h
  |true=>rw[h2] at h;simp at h;simp[jM,h]
def ajt{a:Int}{l:List Int}(h:l.any (·==a)=false):oU (.int .i64 a) (B true) (pO l)=pO (l++[a]):=by
 have h1:=O2 a l;rw[h] at h1;unfold oU;cases h2:gM (.int .i64 a) (pO l) with
 |none=>simp[pO]
 |some x=>rw[h2] at h1;simp at h1
variable{kt:TypeId}
def W0(hk:P.underlying kt=some (.int .i64))(l:List Int):(pO l).all (λe=>eN P kt e.1)=true:=by
 refine cm.2 λx hx=>?_;obtain⟨y,_,rfl⟩:=mem_map.1 hx;simp[eN,hk]
def Ye(hk:P.underlying kt=some (.int .i64))(a:Int):eN P kt (.int .i64 a)=true:=by simp[eN,hk]
def ait{i sz:Nat}{C:List D}(l:List Int):Row.sub (cZ i C sz) (.map (pO l))=.map (pO l):=by
 show Row.map ((pO l).map _)=_;rw[pO,map_map];rfl
def acQ{bs:List bH}{k:Nat}{x:bH}(hx:bs[k]? =some x):nG bs (k+1)=if(x.fin.kind==7)=true then nG bs k++[x.fin.a] else nG bs k:=by
 unfold nG;rw[List.take_add_one,hx];by_cases h:(x.fin.kind==7)=true
 .simp[h]
 .simp[h]
end
def MB:prog.underlying 3=some (.int .i64):=kr
def amf:rh prog (uy prog 193)=B false:=kr
def S6{f:aO}:aE prog 61 [.agg (aG f)] (B (ou f)):=by
 have bB:∀ a∈[D.agg (aG f)],Tr a:=.cons (.agg (jG f)) .nil;refine bN (fo f61) bB (.s _) ?_;refine aF (af ?_);refine ab (bF (r7 (i:=0) (l:=[(1,.pt (aG f))]) rfl eH) (aF ?_));have RM:=RM (f:=f);refine SS ?_;refine cl RM ?_;refine SS ?_;refine bT (eK (cs':=bR _ _ _) rfl rfl rfl rfl) ak (bW V.h V.h bk (by rfl)) (ab (bF (r7 (i:=1) (l:=[(1,.pt (aG f)),(3,.pt (bR P0 Q0 f))]) rfl eH) (aF ?_)));refine bg ?_;refine cF ?_;refine af ?_;refine ab (bF (jq (l:=[(1,.pt (aG f)),(3,.pt (bR P0 Q0 f)),(4,B (pU f))]) ⟨rfl,rfl,congrArg B (AQ (f.result==1) (f.result==2) (f.result==0) f.iter),aa⟩) (aM (aj ?_)));have QZ:ou f=(pq f&&(r9 f&&(pZ f&&((range f.blocks.length).all (lU f)&&(range f.blocks.length).all (tZ f))))):=rfl;rw[QZ];have O:pq f=(nM f.name&&(dz f.args 0 (if(f.ag.length:Int)<6 then(f.ag.length:Int) else 6)&&(pU f&&(!decide ((1200:Int)<f.ag.length)&&(!decide ((60:Int)<f.aU.length)&&dz f.blocks.length 1 1200))))):=rfl;generalize pC:pU f=res at O ⊢;refine af ?_;refine cl uH ?_;refine eD ?_;refine cq rfl rfl (YA rfl rfl) (λhc=>⟨ak,rfl⟩) (gc la ?_);refine bg ?_;refine bg ?_;refine aX ?_;refine gc la ?_;refine af ?_;refine ab (cG rfl (λh=>?_) λh=>dn (aM (aj ?_)))
 .have h:=(hd6 _ _ _ _ _ _).symm.trans h;rw[<- O] at h;have h:pq f=false:=by simpa using h
  refine aM (aj (SS ?_));refine ab (dX (aD (d:=B false) rfl ?_));rw[h];rfl
 have h:=(hd6 _ _ _ _ _ _).symm.trans h;rw[<- O] at h;have hh:pq f=true:=by simpa using h
 rw[hh,Bool.true_and];rw[O] at hh;simp only[aH,jF,Bool.not_eq_true',decide_eq_false_iff_not] at hh;let⟨_,ha,hr,qE,U,gS⟩:=hh;subst hr;clear h O
 have uY:0<=f.args/\f.args<=f.ag.length/\f.args<=6:=by
  split at ha<;>omega
 have hK:r9 f=(gm f.ag 3&&(gm (f.ag.take f.args.toNat) 2&&(gm f.aU 2&&(!decide ((6:Int)<f.signals.length)&& !f.signals.any λs=> !isName s)))):=rfl;have LC:=LC (l:=f.signals) (g:=140) (fs:=[]) (cs:=[]) (p:=λs=> !isName s) (.fn oS oS) (λx _=>apt);have MC:0<=f.args/\f.args<=f.ag.length:=⟨uY.1,uY.2.1⟩
 refine af ?_;refine cl RJ ?_;refine cB ?_;refine cq rfl rfl (ag0 rfl SB c5 rfl HM MC) (λhc=>⟨(by repeat' (first|exact trivial|exact hc|exact rfl|refine And.intro ?_ ?_)),aa⟩) ?_;refine gc RJ ?_;refine bG ?_;refine gc RJ ?_;refine bg ?_;refine af ?_;refine gc LC ?_;refine SS ?_;refine ab (cG rfl (λh=>?_) λh=>dn (aM (aF ?_)))
 .have h:=(hd5 _ _ _ _ _).symm.trans h;rw[<- hK] at h;have h:r9 f=false:=by simpa using h
  refine aM (aj (SS ?_));refine ab (dX (aD (d:=B false) rfl ?_));rw[h];rfl
 have h:=(hd5 _ _ _ _ _).symm.trans h;rw[<- hK] at h;have hh:r9 f=true:=by simpa using h
 rw[hh,Bool.true_and];rw[hK] at hh;simp only[aH,Bool.not_eq_true',decide_eq_false_iff_not] at hh;let⟨_,_,AL,hsg,_⟩:=hh;clear h hK LC;have hS:pZ f=(range (f.signals.length - 1)).all (vJ f.signals):=rfl;rw[hS];have tK:f.signals.length<=6:=by omega
 refine SS ?_;refine ab (cJ (λs=>aL prog s ⟨ay [(1,.pt (aG f)),(3,.pt (bR P0 Q0 f))],λ_=>none,2⟩/\(range (f.signals.length - 1)).all (vJ f.signals)=true) (dS (α:=Nat) (λk=>⟨ay [(1,.pt (aG f)),(3,.pt (bR P0 Q0 f)),(5,I (k+1:Nat))],λ_=>none,2⟩) (λk=>k<=f.signals.length - 1/\(range k).all (vJ f.signals)=true) (λk=>f.signals.length - k) 0 (jq eH) ⟨Nat.zero_le _,rfl⟩ ?_) ?_)
 .rintro k ⟨hk,C⟩;refine bG ?_;refine ab ⟨_,rfl,λh=>?_,λh=>?_⟩
  .have al:k+1<f.signals.length:=by have:((k+1:Nat):Int)<f.signals.length:=by simpa using h
                                    omega
   have h1:f.signals[k]? =some f.signals[k]:=aV oG;have h2:f.signals[k+1]? =some f.signals[k+1]:=aV oG;have U:vJ f.signals k=Op.bytesLess f.signals[k].toList f.signals[k+1].toList:=by rw[vJ,getD_some h1,getD_some h2]
   generalize f.signals[k]=s1 at h1 U;generalize f.signals[k+1]=s2 at h2 U;have Ap:((k+1:Nat):Int) - 1=(k:Int)/\ -9223372036854775808<=(k:Int)/\(k:Int)<=9223372036854775807:=by omega
   refine eJ iB (bg ?_);refine af ?_;refine ax (Xm rfl rfl) ak aa (bU bX (au rfl (λh=>?_) λh=>eQ ?_))
   .have hf:vJ f.signals k=false:=by rw[U];simpa using h
    refine ws (SS ?_);refine ab (bD (dd (bc (aD (d:=B false) rfl ?_))));rw[qN oG hf];rfl
   .have ht:vJ f.signals k=true:=by rw[U];simpa using h
    refine az ?_;exact ab (bA (k+1) (jq eH) ⟨oG,nq C ht⟩ oG)
  .have bJ:¬ k+1<f.signals.length:=by intro hh;simp at h;omega
   have:k=f.signals.length - 1:=by omega
   subst this;exact⟨jq eH,C⟩
 rintro s ⟨hg,C⟩;rw[C,Bool.true_and];clear C hS;refine⟨_,hg,aF ?_⟩;refine af ?_;refine ab (bF (a6 (l:=[(1,.pt (aG f)),(3,.pt (bR P0 Q0 f)),(6,.mp 2)]) (ml:=[(2,.map (pO []))]) eH eH) (aM (aF ?_)));refine aX ?_;generalize hn:f.blocks.length=n at gS ⊢;refine ab (cJ (λs=>∃ N,aL prog s ⟨ay [(1,.pt (aG f)),(3,.pt (bR P0 Q0 f))],λ_=>none,N⟩/\(range n).all (lU f)=true) (gl (α:=Nat×Nat) (λk=>⟨ay [(1,.pt (aG f)),(3,.pt (bR P0 Q0 f)),(6,.mp 2),(123,fA f.blocks),(124,I n),(125,I k.1)],b8 [(2,.map (pO (nG f.blocks k.1)))],k.2⟩) (λk=>k.1<=n/\(range k.1).all (lU f)=true/\3<=k.2) (λk=>n - k.1) (0,3) (a6 eH eH) ⟨Nat.zero_le _,rfl,bK _⟩ ?_) ?_)
 .rintro⟨k,N⟩ ⟨hk,C,hN⟩;dsimp only at hk C hN ⊢;refine SS ?_;refine ab ⟨_,rfl,λh=>?_,λh=>?_⟩
  .have al:k<n:=by simpa using h
   have hx:f.blocks[k]? =some f.blocks[k]:=aV oG;generalize f.blocks[k]=x at hx;have J:lU f k=(jJ f x.fin&&(!decide ((200:Int)<x.ins.length)&& !(x.fin.kind==7&&(nG f.blocks k).any (·==x.fin.a)))):=by rw[lU,getD_some hx]
   have fO:=acQ hx;have LO:=LO (f:=f) (x:=x.fin);generalize nG f.blocks k=l at J fO;refine aF (aX ?_);refine ab (bF (pf (i:=N) (l:=[(1,.pt (aG f)),(3,.pt (bR P0 Q0 f)),(6,.mp 2),(8,.pt (bq x)),(123,fA f.blocks),(124,I n),(125,I k)]) (ml:=[(2,.map (pO l))]) s3 ⟨rfl,rfl,rfl,mC,rfl,rfl,rfl,aa⟩ ⟨DI oG (aq oG (aq oG rfl)) (ait l),aa⟩) (aM (aj ?_)));generalize jJ f x.fin=e at LO J;refine az ?_;refine cl LO ?_;refine eD ?_;refine ab (cG rfl (λh=>?_) λh=>dn (aj ?_))
   .have hf:lU f k=false:=by
     rw[J];cases e with
     |false=>rfl
     |true=>have:decide ((200:Int)<x.ins.length)=true:=by simpa using h
            rw[this];rfl
    refine aM (aj (SS ?_));refine ab (dX (dd (bc (aD (d:=B false) rfl ?_))));rw[qN al hf];rfl
   have J:lU f k= !(x.fin.kind==7&&l.any (·==x.fin.a)):=by
    rw[J];cases e with
    |false=>simp at h
    |true=>have:decide ((200:Int)<x.ins.length)=false:=by simpa using h
           rw[this];rfl
   refine aX ?_;refine ab (au rfl (λh7=>?_) λh7=>eQ ?_)
   .rw[h7] at J fO;refine aM (aj (aX ?_));refine ax (afY rfl rfl rfl Qs (ajs amf _ _)) aB ⟨Qt,Ye MB _,W0 MB _⟩ (ab (cG rfl (λh=>?_) λh=>dn (gE ?_)))
    .have hf:lU f k=false:=by rw[J,h];rfl
     refine aM (aj (SS ?_));refine ab (dX (dd (bc (aD (d:=B false) rfl ?_))));rw[qN al hf];rfl
    .have ht:lU f k=true:=by rw[J,h];rfl
     refine aX ?_;refine bT (ai0 rfl rfl rfl rfl Qs) aB ⟨Qt,Ye MB _,W0 MB _⟩ (ab (af ?_));refine ab (bA (k+1,_) (a6 eH ⟨?_,aa⟩) ⟨oM,nq C ht,oM⟩ oM);dsimp only;rw[fO,bi rfl, <- ajt h];exact ap _ _ _
   .rw[h7] at J fO;refine af ?_;refine ab (bA (k+1,_) (a6 eH ⟨?_,aa⟩) ⟨oM,nq C J,oM⟩ oM);dsimp only;rw[fO,ai oS];rfl
  .have bJ:¬ k<n:=by simpa using h
   have:k=n:=by omega
   subst this;exact⟨N,jq eH,C⟩
 rintro s ⟨N,hg,C⟩;rw[C,Bool.true_and]
 have hE:∀ x∈f.blocks,Li f x.fin:=λx hx=>by
  let⟨k,hk⟩:=dW hx;have al:k<n:=by rw[<- hn];exact(bO.1 hk).1
  have:=cm.1 C k (by simpa using al);rw[lU,getD_some hk] at this;simp only[aH] at this;exact Oq oG pC this.1
 have xd:=xd (f:=f) oL oO rfl rfl hn oG (λb h=>by have:=(hE b h).wh;omega) (λb h t ht=>hn▸(hE b h).to t (Nd.1 ht));refine⟨_,hg,aj ?_⟩;refine SS ?_;refine cl xd ?_;refine SS ?_;refine ab (aM (aF (aX ?_)));refine ab (cJ (λs=>(range n).all (tZ f)=true) (gl (α:=Nat×Nat) (λk=>⟨ay [(1,.pt (aG f)),(3,.pt (bR P0 Q0 f)),(9,cr (iy f.blocks)),(157,fA f.blocks),(158,I n),(159,I k.1)],λ_=>none,k.2⟩) (λk=>k.1<=n/\(range k.1).all (tZ f)=true) (λk=>n - k.1) (0,N) (jq ⟨rfl,rfl,rfl,rfl,congrArg (λk:Nat=>I k) hn,rfl,aa⟩) ⟨Nat.zero_le _,rfl⟩ ?_) ?_)
 .rintro⟨k,N⟩ ⟨hk,C⟩;dsimp only at hk C ⊢;refine SS ?_;refine ab ⟨_,rfl,λh=>?_,λh=>?_⟩
  .have al:k<n:=by simpa using h
   have hx:f.blocks[k]? =some f.blocks[k]:=aV oG;have eF:f.blocks[k]∈f.blocks:=dG _;generalize f.blocks[k]=x at hx eF;have hA:=Nq hn al;have rR:tZ f k=(range x.ins.length).all (xF f k x.ins):=by rw[tZ,getD_some hx]
   have X:∀ j,xF f k x.ins j=ky f k (x.ins.getD j fM) ((x.ins.take (j+1)).all cP) (cA f.blocks n k).length:=λj=>by rw[xF,hn]
   generalize cA f.blocks n k=A at hA X;refine aF (cB ?_);refine ab (bF (r7 (i:=N) (l:=[(1,.pt (aG f)),(3,.pt (bR P0 Q0 f)),(9,cr (iy f.blocks)),(10,I k),(11,.pt (bq x)),(157,fA f.blocks),(158,I n),(159,I k)]) s3 ⟨rfl,rfl,rfl,rfl,mC,rfl,rfl,rfl,aa⟩) (aj ?_));refine SS ?_;refine ab (aF (aX ?_))
   have iJ:x.ins.length<=200:=by
    have:=cm.1 ‹(range n).all (lU f)=true› k (by simpa using al);rw[lU,getD_some hx] at this;simp only[aH,Bool.not_eq_true',decide_eq_false_iff_not] at this;omega
   refine ab (gl (α:=Nat×Nat) (λj=>⟨ay [(1,.pt (aG f)),(3,.pt (bR P0 Q0 f)),(9,cr (iy f.blocks)),(10,I k),(12,B ((x.ins.take j.1).all cP)),(157,fA f.blocks),(158,I n),(159,I k),(165,eV x.ins),(166,I x.ins.length),(167,I j.1)],λ_=>none,j.2⟩) (λj=>j.1<=x.ins.length/\(range j.1).all (xF f k x.ins)=true) (λj=>x.ins.length - j.1) (0,N+1) (jq eH) ⟨Nat.zero_le _,rfl⟩ ?_);rintro⟨j,N⟩ ⟨hj,Qu⟩;dsimp only at hj Qu ⊢;refine SS ?_;refine ab ⟨_,rfl,λh=>?_,λh=>?_⟩
   .have dx:j<x.ins.length:=by simpa using h
    have hy:x.ins[j]? =some x.ins[j]:=aV dx;generalize x.ins[j]=y at hy;have gi:(x.ins.take (j+1)).all cP=((x.ins.take j).all cP&&cP y):=by rw[take_add_one,hy,all_append];simp
    have X:=X j;rw[getD_some hy] at X;generalize (x.ins.take j).all cP=ph at gi;refine aF (aX ?_);refine ab (bF (r7 (i:=N) (l:=[(1,.pt (aG f)),(3,.pt (bR P0 Q0 f)),(9,cr (iy f.blocks)),(10,I k),(12,B ph),(14,.pt (aI y)),(157,fA f.blocks),(158,I n),(159,I k),(165,eV x.ins),(166,I x.ins.length),(167,I j)]) s3 ⟨rfl,rfl,rfl,rfl,rfl,mC,rfl,rfl,rfl,rfl,rfl,rfl,aa⟩) (aF ?_));refine eD ?_;refine ab (bF (jq (l:=[(1,.pt (aG f)),(3,.pt (bR P0 Q0 f)),(9,cr (iy f.blocks)),(10,I k),(12,B ((x.ins.take (j+1)).all cP)),(14,.pt (aI y)),(157,fA f.blocks),(158,I n),(159,I k),(165,eV x.ins),(166,I x.ins.length),(167,I j)]) ⟨rfl,rfl,rfl,rfl,?_,rfl,rfl,rfl,rfl,rfl,rfl,rfl,aa⟩) (eJ iB ?_))
    .rw[gi];cases ph<;>rfl
    have LP:=LP (f:=f) (b:=(k:Int)) (ahead:=(A.length:Int)) (x:=y) (phis:=(x.ins.take (j+1)).all cP);rw[<- X] at LP;refine bg ?_;refine cl LP ?_;refine SS ?_;refine bU bX (au rfl (λh=>?_) λh=>eQ ?_)
    .have hf:xF f k x.ins j=false:=by simpa using h
     refine ws (SS ?_);refine ab (bD (dd (dd (bc (aD (d:=B false) rfl ?_)))));rw[qN al (by rw[rR];exact qN dx hf)]
    .have ht:xF f k x.ins j=true:=by simpa using h
     refine af ?_;exact ab (bA (j+1,_) (jq eH) ⟨oM,nq Qu ht⟩ oM)
   .have bJ:¬ j<x.ins.length:=by simpa using h
    have Ie:j=x.ins.length:=by omega
    subst Ie;show aJ _ _ _ _ _ _ _ _ _;refine af ?_;exact ab (bA (k+1,_) (jq eH) ⟨oM,nq oN (rR.trans Qu)⟩ oM)
  .have bJ:¬ k<n:=by simpa using h
   have:k=n:=by omega
   subst this;show(range k).all (tZ f)=true
   assumption
 .rintro⟨env,m,nx⟩ C;refine⟨_,.refl _,aj ?_⟩;refine SS ?_;refine ab (aD (d:=B true) rfl ?_);rw[C]
def ag1(a b:Int):fv (CX a b):=by
 unfold CX ns fv;simp only;rw[wrap_u64 (n:=(BitVec.ofInt IntKind.u64.bits a||| BitVec.ofInt IntKind.u64.bits b).toNat) (BitVec.isLt (w:=64) _)];have h:(BitVec.ofInt IntKind.u64.bits a||| BitVec.ofInt IntKind.u64.bits b).toNat<18446744073709551616:=BitVec.isLt (w:=64) _;exact⟨Int.natCast_nonneg _,Int.ofNat_lt.2 h⟩
def Ug{w:List Int}{n:Int}(h:∀ u∈w,fv u):∀ u∈iq w n,fv u:=λu hu=>by
 unfold iq at hu;split at hu
 .unfold yp at hu;rcases mem_or_eq_of_mem_set hu with h1|h1
  .exact h u h1
  .rw[h1];exact ag1 _ _
 .exact h u hu
def Jc:∀ k,∀ u∈kz k,fv u
 |0,u,hu=>by
  rw[eq_of_mem_replicate hu];simp[fv]
 |k+1,u,hu=>Ug (Jc k) u hu
def tw.rl{x:Ins}(h:tw x):(cN x).length<=100000:=by
 unfold cN;split
 .simp
 .split
  .simp
  .split
   .rename_i J;have:=h.ar (.inl J);omega
   .split
    .rename_i C;have:=h.ar (.inr C);simp;omega
    .simp
def Hj.rf{x:End}(h:Hj x)(hi:x.kind=5->tw x.ins):(dB x).length<=100000:=by
 unfold dB;split
 .simp
 .split
  .split<;>simp
  .split
   .rename_i J;exact(hi J).rl
   .split
    .rename_i C;have:=h.a2 (by simpa[aC] using C);omega
    .simp
structure D8(f:aO):Prop where
 pos:0<f.blocks.length
 lim:f.blocks.length<=1200
 ag:f.ag.length<=1200
 args:0<=f.args/\f.args<=6
 blk:∀ b∈f.blocks,wl f.blocks.length b
 ends:∀ b∈f.blocks,Li f b.fin
 right:∀ (b:Nat) x,f.blocks[b]? =some x->∀ (j:Nat) y,x.ins[j]? =some y->ky f b y ((x.ins.take (j+1)).all cP) (cA f.blocks f.blocks.length b).length=true
 aU:(∀ k∈f.aU,k≠0)/\f.aU.length<=60
 apA:∀ b∈f.blocks,b.fin.kind=5->tw b.fin.ins
def VX{l:List Int}{m:Int}(h:gm l m=true):∀ k∈l,k≠0:=λk hk e=>by
 subst e;simp[gm,Bool.not_eq_true',any_eq_false] at h;have:=h 0 hk;simp[pj] at this
def aiu{f:aO}{x:End}(hl:f.ag.length<=1200)(h:jJ f x=true)(O:x.kind=5):tw x.ins:=by
 rw[jJ,aH] at h;have h:=h.1;unfold gZ at h;simp[O,Int.reduceEq,if_false,if_true,aH] at h;let⟨C,J,_⟩:=h;cases hs:dO fX x.ins.op with
 |none=>rw[hs] at C;simp at C
 |some s=>rw[hs] at J;exact Nb hl (.inr (F5 hs)) (Gk J)
def KK{f:aO}(h:ou f=true):D8 f:=by
 unfold ou at h;simp only[aH] at h;let⟨X,hK,_,hE,hR⟩:=h;unfold pq at X;simp only[aH,jF,Bool.not_eq_true',decide_eq_false_iff_not] at X;let⟨_,ha,hr,qE,kE,gS⟩:=X;unfold r9 at hK;simp only[aH,Bool.not_eq_true',decide_eq_false_iff_not] at hK;let⟨_,_,AL,_,_⟩:=hK;have J:f.ag.length<=1200:=by omega
 have w8:∀ x∈f.blocks,jJ f x.fin=true/\x.ins.length<=200:=λx hx=>by
  let⟨k,hk⟩:=dW hx;have al:k<f.blocks.length:=(bO.1 hk).1;have:=cm.1 hE k (tn al);rw[lU,getD_some hk] at this;simp only[aH,Bool.not_eq_true',decide_eq_false_iff_not] at this;exact⟨this.1,oG⟩
 have O:∀ x∈f.blocks,Li f x.fin:=λx hx=>Oq J hr (w8 x hx).1
 have C:∀ (b:Nat) x,f.blocks[b]? =some x->∀ (j:Nat) y,x.ins[j]? =some y->ky f b y ((x.ins.take (j+1)).all cP) (cA f.blocks f.blocks.length b).length=true:=λb x hx j y hy=>by
  have al:b<f.blocks.length:=(bO.1 hx).1;have:=cm.1 hR b (tn al);rw[tZ,getD_some hx] at this;have:=cm.1 this j (by simpa using(bO.1 hy).1);rw[xF,getD_some hy] at this;exact this
 have U:∀ b∈f.blocks,b.fin.kind=5->tw b.fin.ins:=λb hb U=>aiu J (w8 b hb).1 U
 have ES:∀ b∈f.blocks,∀ x∈b.ins,tw x:=λb hb x hx=>by
  let⟨k,hk⟩:=dW hb;let⟨j,hj⟩:=dW hx;exact(Nc J (VX AL) oG (C k b hk j x hj)).1
 refine⟨oG,oG,J,⟨ha.1,by have:=ha.2;split at this<;>omega⟩,λb hb=>⟨by have:=(w8 b hb).2;omega,ES b hb,(O b hb).fin,λx hx=>(ES b hb x hx).rl,(O b hb).fin.rf (U b hb),λt ht=>(O b hb).to t (Nd.1 ht)⟩,O,C,⟨VX AL,oG⟩,U⟩
def D8.AZ{f:aO}(h:D8 f){b:Nat}{x:bH}(hx:f.blocks[b]? =some x){y:Ins}(hy:y∈x.ins)(C:y.op=19):y.args.length=(cA f.blocks f.blocks.length b).length/\∀ r∈y.args,0<=r/\r<1280:=by
 let⟨j,hj⟩:=dW hy;let⟨h1,_,_,_,h2⟩:=(Nc h.ag h.aU.1 h.aU.2 (h.right b x hx j y hj)).2 C;refine⟨oG,λr hr=>?_⟩;have:=(h2 r hr).2;unfold iK at this;have:=h.ag;omega
def rM{f:aO}:aE prog 16 [.agg (aG f)] (I (fL f)):=by
 have O:∀ a∈[D.agg (aG f)],Tr a:=.cons (.agg (jG f)) .nil;refine bN (fo f16) O (.s _) ?_;have S6:=S6 (f:=f);refine aF (af ?_);refine ab (bF (r7 (i:=0) (l:=[(1,.pt (aG f))]) rfl eH) (pQ (aj ?_)));refine aX ?_;refine ab (au rfl (λh=>aj ?_) λh=>aj ?_)
 .have hf:ou f=false:=tn h
  refine SS ?_;refine ab (bD (cu (bc (aD (d:=I 80) rfl ?_))));rw[fL,ai (by simp[hf])]
 .have hf:ou f=true:=tn h
  have C:=KK hf;let⟨args,ha⟩:=fc C.args.1;have X:=C.args.2;have MA:=MA (p:=.s (.map none)) (q:=.s (.map none)) (f:=f) (.s _) (.s _) rfl rfl rfl C.pos (by have:=C.lim;omega) ha oG (Jc args) C.blk (λb x hx y hy U=>C.AZ hx hy U);have J:fL f=if zC f.blocks args=true then 0 else 81:=by rw[fL,bi hf,ha,eC]
  generalize zC f.blocks args=r at MA J;refine bG ?_;refine ab (au rfl (λh=>aj ?_) λh=>pw (aj ?_))
  .have hr:r=false:=tn h
   refine SS ?_;refine ab (bD (cu (bc (aD (d:=I 81) rfl ?_))));rw[J,hr];rfl
  .have hr:r=true:=tn h
   refine SS ?_;refine ab (bD (aD (d:=I 0) rfl ?_));rw[J,hr];rfl
abbrev tG:List D:=[U8 0,I 0,I 0,I 0,I 0,.z]
def bf(to:List Int)(r:Int):Int:=to.getD r.toNat 0
def qm(x:Ins):Shape:=
 let s:=(dO gW x.op).getD ((dO fX x.op).getD nE)
 if x.op=16\/x.op=18 then { s with a:=3 } else if x.op=17 then { s with to:=3 } else if x.op=19 then { s with to:=3,args:=5 } else s
def jY(to:List Int)(x:Ins):Ins:={ x with to:=if(qm x).to≠0 then bf to x.to else x.to,a:=if(qm x).a≠0 then bf to x.a else x.a,b:=if(qm x).b≠0 then bf to x.b else x.b,args:=x.args.map (bf to) }
structure Hg(n:Nat)(x:Ins):Prop where
 to:(qm x).to≠0->0<=x.to/\x.to<n
 a:(qm x).a≠0->0<=x.a/\x.a<n
 b:(qm x).b≠0->0<=x.b/\x.b<n
 args:∀ r∈x.args,0<=r/\r<n
 len:x.args.length<=100000
def aif{P:Program}{t:TypeId}{C:D}(hz:rh P (uy P t)=C)(op:Int)(l:List (Int×Shape))(J:C=.agg (iW nE)):jM P t false (gM (.int .u8 op) (pG l))=.agg (iW ((dO l op).getD nE)):=by
 have h:=OV op l;cases h1:gM (.int .u8 op) (pG l) with
 |none=>
  rw[h1] at h;have:dO l op=none:=tn h.symm
  simp[jM,this,hz,J]
 |some x=>
  rw[h1] at h;cases h2:dO l op with
  |none=>rw[h2] at h;simp at h
  |some s=>
   rw[h2] at h;let⟨i,d⟩:=x;simp[Option.map_some,aY] at h;subst h;simp[jM]
def aoB{r:Int}{to:List Int}(h:0<=r/\r<to.length):aE prog 107 [I r,.pt [av to]] (I (bf to r)):=by
 obtain⟨k,rfl⟩:=fc h.1;let⟨v,hv⟩:=tS to k oG
 have e:bf to k=v:=by simp[bf,dF,hv]
 rw[e];refine bN (fo f107) (.cons (.s _) (.cons (.pt (.cons (cR _) .nil)) .nil)) (Tr.s _) ?_;refine ws (SS ?_);refine er (bG ?_);exact ab (aD rfl rfl)
def aoC{r:Int}{to:List Int}(h:0<=r/\r<to.length):aE prog 181 [I r,.pt [av to]] (I (bf to r)):=by
 obtain⟨k,rfl⟩:=fc h.1;let⟨v,hv⟩:=tS to k oG
 have e:bf to k=v:=by simp[bf,dF,hv]
 rw[e];refine bN (fo f181) (.cons (.s _) (.cons (.pt (.cons (cR _) .nil)) .nil)) (Tr.s _) ?_;refine ws (SS ?_);refine er (bG ?_);exact ab (aD rfl rfl)
def EK{x:Ins}{to:List Int}(hx:Hg to.length x):aE prog 105 [.agg (aI x),av to] (.agg (aI (jY to x))):=by
 have nZ:∀ {r:Int},0<=r/\r<to.length->∃ k:Nat,∃ v,r=k/\to[k]? =some v/\bf to r=v:=λ{r} h=>by
  obtain⟨k,rfl⟩:=fc h.1;exact⟨k,_,rfl,aV oG,by simp[bf,dF,aV (show k<to.length by omega)]⟩
 refine bN (fo f105) (.cons (.agg (jP _)) (.cons (cR _) .nil)) (.agg (jP _)) ?_;refine aF (az ?_);refine ab ⟨_,pf (i:=1) (cs:=[av to]) (e:=35) rfl (l:=[(2,.rp 0 0),(3,.pt [av to]),(4,.rp 2 0)]) eH (ml:=[(0,.cells (aI x) 45),(2,.cells tG 45)]) eH,aj ?_⟩;refine cl aah ?_;refine bG ?_;apply er;have kg:jM prog 91 true (gM (.int .u8 x.op) (pG gW))=.bu [.agg (iW ((dO gW x.op).getD nE)),.s (.bool (dO gW x.op).isSome)]:=PG rfl _ _ (by rw[HJ];rw[rh,HK,HL];rfl);have Iw:=JT (P:=prog) (kt:=5) u5 gW;refine cF ?_;refine af ?_;refine ab (cI (λs=>aL prog s ⟨ay [(2,.rp 0 0),(3,.pt [av to]),(4,.rp 2 0),(7,.rp 3 0)],b8 [(0,.cells (aI x) 45),(2,.cells tG 45),(3,.cells (iW ((dO gW x.op).getD ((dO fX x.op).getD nE))) 235)],4⟩) ?_ ?_)
 .refine ws ?_;refine af ?_;refine ab (au rfl (λhp=>eI ?_) λhp=>bd ?_)
  .have hn:dO gW x.op=none:=tn hp
   have kg:jM prog 91 false (gM (.int .u8 x.op) (pG fX))=.agg (iW ((dO fX x.op).getD nE)):=aif rfl _ _ (by rw[HJ];rw[rh,HK,HL];rfl);have Iw:=JT (P:=prog) (kt:=5) u5 fX;rw[hn];refine bG ?_;exact ab (a6 eH eH)
  .obtain⟨s,hs⟩:∃ s,dO gW x.op=some s:=Option.isSome_iff_exists.1 (tn hp);rw[hs];exact a6 eH eH
 rintro s C;refine⟨_,C,?_⟩;clear C kg Iw;refine cI (λs=>aL prog s ⟨ay [(2,.rp 0 0),(3,.pt [av to]),(4,.rp 2 0),(7,.rp 3 0)],b8 [(0,.cells (aI x) 45),(2,.cells tG 45),(3,.cells (iW (qm x)) 235)],4⟩) ?_ ?_
 .refine ws (af ?_);refine ab (qQ (aM (aj (af ?_))));unfold qm;generalize (dO gW x.op).getD ((dO fX x.op).getD nE)=s;refine ab (cG rfl (λU=>?_) λU=>?_)
  .have U:x.op=16:=tn U
   rw[bi (.inl U)];refine dn (au rfl (λ_=>lS ?_) λh=>by simp[U] at h);refine af ?_;exact ab (a6 eH eH)
  have U:¬ x.op=16:=tn U
  refine ws (af ?_);refine ab (au rfl (λX=>lS ?_) λX=>?_)
  .have X:x.op=18:=tn X
   rw[bi (.inr X)];refine af ?_;exact ab (a6 eH eH)
  have X:¬ x.op=18:=tn X
  rw[ai oG];refine ws (af ?_);refine ab (au rfl (λO=>lS ?_) λO=>?_)
  .have O:x.op=17:=tn O
   rw[bi O];refine af ?_;exact ab (a6 eH eH)
  have O:¬ x.op=17:=tn O
  rw[ai O];refine ws (af ?_);refine ab (au rfl (λJ=>lS ?_) λJ=>zy ?_)
  .have J:x.op=19:=tn J
   rw[bi J];refine aX ?_;exact ab (a6 eH eH)
  have J:¬ x.op=19:=tn J
  rw[ai J];exact a6 eH eH
 rintro s C;refine⟨_,C,?_⟩;clear C;let⟨h1,h2,h3,h4,h5⟩:=hx;unfold jY;generalize qm x=s at*
 let⟨op,CM,xa,xb,xn,oF⟩:=x;dsimp only at h1 h2 h3 h4 h5 ⊢;refine cI (λq=>aL prog q ⟨ay [(2,.rp 0 0),(3,.pt [av to]),(4,.rp 2 0),(7,.rp 3 0)],b8 [(0,.cells (aI ⟨op,if s.to≠0 then bf to CM else CM,xa,xb,xn,oF⟩) 45),(2,.cells tG 45),(3,.cells (iW s) 235)],4⟩) ?_ ?_
 .refine ws (az ?_);refine ab (au rfl (λhp=>eI ?_) λhp=>bd ?_)
  .have hp:s.to≠0:=tn hp
   obtain⟨k,v,rfl,hv,e⟩:=nZ (h1 hp);rw[bi hp,e];refine eD ?_;exact ab (a6 eH eH)
  .have hp:¬ s.to≠0:=tn hp
   rw[ai hp];exact a6 eH eH
 rintro q C;refine⟨_,C,?_⟩;clear C;generalize (if s.to≠0 then bf to CM else CM)=y1;refine cI (λq=>aL prog q ⟨ay [(2,.rp 0 0),(3,.pt [av to]),(4,.rp 2 0),(7,.rp 3 0)],b8 [(0,.cells (aI ⟨op,y1,if s.a≠0 then bf to xa else xa,xb,xn,oF⟩) 45),(2,.cells tG 45),(3,.cells (iW s) 235)],4⟩) ?_ ?_
 .refine ws (az ?_);refine ab (au rfl (λhp=>eI ?_) λhp=>bd ?_)
  .have hp:s.a≠0:=tn hp
   obtain⟨k,v,rfl,hv,e⟩:=nZ (h2 hp);rw[bi hp,e];refine eD ?_;exact ab (a6 eH eH)
  .have hp:¬ s.a≠0:=tn hp
   rw[ai hp];exact a6 eH eH
 rintro q C;refine⟨_,C,?_⟩;clear C;generalize (if s.a≠0 then bf to xa else xa)=y2;refine cI (λq=>aL prog q ⟨ay [(2,.rp 0 0),(3,.pt [av to]),(4,.rp 2 0),(7,.rp 3 0)],b8 [(0,.cells (aI ⟨op,y1,y2,if s.b≠0 then bf to xb else xb,xn,oF⟩) 45),(2,.cells tG 45),(3,.cells (iW s) 235)],4⟩) ?_ ?_
 .refine ws (az ?_);refine ab (au rfl (λhp=>eI ?_) λhp=>bd ?_)
  .have hp:s.b≠0:=tn hp
   obtain⟨k,v,rfl,hv,e⟩:=nZ (h3 hp);rw[bi hp,e];refine eD ?_;exact ab (a6 eH eH)
  .have hp:¬ s.b≠0:=tn hp
   rw[ai hp];exact a6 eH eH
 rintro q C;refine⟨_,C,?_⟩;clear C;generalize (if s.b≠0 then bf to xb else xb)=y3;have wG:=wG (l:=oF) (g:=181) (fs:=[]) (cs:=[.pt [av to]]) (p:=bf to) oG (.fn oS (.cons (.pt (.cons (cR _) .nil)) .nil)) (λr hr=>aoC (h4 r hr));refine ws (cB ?_);refine er (af ?_);exact ab (jR (fT (cs:=aI ⟨op,y1,y2,y3,xn,oF.map (bf to)⟩) (vs:=aI ⟨op,y1,y2,y3,xn,oF.map (bf to)⟩) rfl rfl a45 kG rfl t45 (aP rfl)) rfl)
def aoD{x:Ins}{to:List Int}(hx:Hg to.length x):aE prog 104 [.agg (aI x),.pt [av to]] (.agg (aI (jY to x))):=by
 have EK:=EK hx;refine bN (fo f104) (.cons (.agg (jP _)) (.cons (.pt (.cons (cR _) .nil)) .nil)) (.agg (jP _)) ?_;refine ws (af ?_);refine er (aX ?_);exact ab (jR (fT (cs:=aI (jY to x)) (vs:=aI (jY to x)) rfl rfl a45 kG rfl t45 (aP rfl)) rfl)
def dP{l:List Int}{n c:Int}(h:(n==c)=true)(hm:c∈l):B (n==c)=B (aC l n):=by
 have:aC l n=true:=any_eq_true.2 ⟨c,hm,h⟩;rw[h,this]
def pM{x:Ins}:aE prog 28 [.agg (aI x)] (I (dt x)):=by
 refine bN (fo f28) (.cons (.agg (jP x)) .nil) (Tr.s _) ?_;refine aF (af ?_);refine ab (bF (cE [(0,aI x,45)] eH (l:=[(1,.pt (aI x))]) eH) (aM (aj ?_)));refine af ?_;refine ab (pQ ?_)
 have J:dt x=if aC (lk++mu) x.op=true then x.to else -1:=by
  unfold dt;have:aC (lk++mu) x.op=(aC lk x.op||aC mu x.op):=any_append;rw[this];cases aC lk x.op<;>cases aC mu x.op<;>rfl
 refine cI (λs=>aL prog s ⟨ay [(1,.pt (aI x)),(4,U8 x.op),(5,B (aC (lk++mu) x.op))],λ_=>none,1⟩) (aj ?_) λs hg=>⟨_,hg,?_⟩
 . (iterate 20 refine af ?_;refine ab (au rfl (λh=>bd (ao ⟨rfl,rfl,dP h oC,aa⟩)) λ_=>aj ?_));refine af ?_;refine ab (au rfl (λh=>bd (ao ⟨rfl,rfl,dP h oC,aa⟩)) λTc=>eI ?_);refine af ?_;refine ab (ao ⟨rfl,rfl,?_,aa⟩);show D.s (.bool (x.op==37))=_;simp[aC,lk,mu,cons_append,nil_append,any_cons,any_nil,Tc,Bool.false_or,Bool.or_false, *]
 refine au rfl (λh1=>aj ?_) λh1=>pw (aj ?_)
 .refine az ?_;refine ab (bD (cu (bc (aD rfl ?_))));rw[J,bi h1];rfl
 .refine SS ?_;refine ab (aD rfl ?_);rw[J,ai (by simp[h1])];rfl
def ME{x:Abs.End}:aE prog 32 [.agg (aR x)] (I (fI x)):=by
 have J:∀ a∈[D.agg (aR x)],Tr a:=.cons (.agg (ot x)) .nil;have pM:=pM (x:=x.ins);refine bN (fo f32) J (Tr.s _) ?_;refine aF (af ?_);refine ab (bF (cE [(0,aR x,48)] eH (l:=[(1,.pt (aR x))]) eH) (aM (aj ?_)));refine af ?_;refine ab (pQ (aj (af ?_)));refine ab (au rfl (λh1=>?_) λh1=>?_)
 .have h1:x.kind=5:=tn h1
  refine ws (aX ?_);refine ab (bD (cu (bc (aD (d:=I (dt x.ins)) rfl ?_))));simp[fI,h1]
 have h1:¬ x.kind=5:=tn h1
 refine cI (λs=>aL prog s ⟨ay [(1,.pt (aR x)),(4,U8 x.kind),(10,B (aC [6,7] x.kind))],λ_=>none,1⟩) (aj ?_) λs hg=>⟨_,hg,?_⟩
 .refine af ?_;refine ab (au rfl (λh=>bd (ao ⟨rfl,rfl,dP h oC,aa⟩)) λe6=>eI ?_);refine af ?_;refine ab (ao ⟨rfl,rfl,?_,aa⟩);show D.s (.bool (x.kind==7))=_;simp[aC,e6]
 refine au rfl (λh2=>?_) λh2=>?_
 .refine ws (az ?_);refine ab (bD (cu (bc (aD (d:=I x.a) rfl ?_))));simp[fI,h1,h2]
 refine ws (af ?_);refine ab (au rfl (λC=>?_) λC=>?_)
 .have C:x.kind=8:=tn C
  refine ws (az ?_);refine ab (bD (cu (bc (aD (d:=I x.b) rfl ?_))));simp[fI,h2,C];simp[aC]
 have C:¬ x.kind=8:=tn C
 refine pw (aj (SS ?_));refine ab (aD (d:=I (-1)) rfl ?_);simp[fI,h1,h2,C]
def rO{x:Ins}(hx:x.op=10\/x.op=38->x.args.length<=1000):aE prog 26 [.agg (aI x)] (av (cN x)):=by
 have bB:∀ a∈[D.agg (aI x)],Tr a:=.cons (.agg (jP x)) .nil;refine bN (fo f26) bB (cR _) ?_;refine aF (af ?_);refine ab (bF (cE [(0,aI x,45)] eH (l:=[(1,.pt (aI x))]) eH) (aM (aj ?_)));refine af ?_;refine ab (pQ (cI (λs=>aL prog s ⟨ay [(1,.pt (aI x)),(4,U8 x.op),(5,B (aC my x.op))],λ_=>none,1⟩) (aj ?_) λs hg=>⟨_,hg,?_⟩))
 . (iterate 7 refine af ?_;refine ab (au rfl (λh=>bd (ao ⟨rfl,rfl,dP h oC,aa⟩)) λ_=>aj ?_));refine af ?_;refine ab (au rfl (λh=>bd (ao ⟨rfl,rfl,dP h oC,aa⟩)) λTd=>eI ?_);refine af ?_;refine ab (ao ⟨rfl,rfl,?_,aa⟩);show D.s (.bool (x.op==36))=_;simp[aC,my,Td, *]
 refine au rfl (λh1=>?_) λh1=>?_
 .refine aF (aX ?_);refine ab (bF (cE [(1,([x.a]).map I,3)] eH (l:=[(2,av ([x.a]))]) ⟨kN c3 rfl,aa⟩) (bD (cu (bc (aD (d:=av ([x.a])) rfl ?_)))));exact congrArg av (by rw[cN,bi h1])
 refine cI (λs=>aL prog s ⟨ay [(1,.pt (aI x)),(4,U8 x.op),(18,B (aC ow x.op))],λ_=>none,1⟩) (aj ?_) λs hg=>⟨_,hg,?_⟩
 . (iterate 11 refine af ?_;refine ab (au rfl (λh=>bd (ao ⟨rfl,rfl,dP h oC,aa⟩)) λ_=>aj ?_));refine af ?_;refine ab (au rfl (λh=>bd (ao ⟨rfl,rfl,dP h oC,aa⟩)) λdC=>eI ?_);refine af ?_;refine ab (ao ⟨rfl,rfl,?_,aa⟩);show D.s (.bool (x.op==37))=_;simp[aC,ow,dC, *]
 refine au rfl (λh2=>?_) λh2=>?_
 .refine aF (cB ?_);refine ab (bF (cE [(1,([x.a,x.b]).map I,3)] eH (l:=[(2,av ([x.a,x.b]))]) ⟨kN c3 rfl,aa⟩) (bD (cu (bc (aD (d:=av ([x.a,x.b])) rfl ?_)))));exact congrArg av (by rw[cN,ai (by simp[h1]),bi h2])
 refine ws (af ?_);refine ab (au rfl (λC=>?_) λC=>?_)
 .have C:x.op=10:=tn C
  have hl:=hx (.inl C);have O:(x.args.map I).take (x.args.length*1)=x.args.map I:=cW oS;apply aF
  refine SS ?_
  refine SS ?_
  refine SS ?_
  refine SS ?_
  refine SS ?_
  refine ab (bF (cE [(2,x.args.map I,3)] eH (l:=[(2,av x.args)]) ⟨?_,aa⟩) (bD (cu (bc (aD (d:=av x.args) rfl ?_)))))
  .show uX _ [(2,_,3)] (.rs 2 0 (0+x.args.length))=_;refine(kN c3 (es:=x.args.map I) (cW oS)).trans ?_;rw[Nat.zero_add]
  exact congrArg av (by rw[cN,ai (by simp[h1]),ai (by simp[h2]),bi C])
 have C:¬ x.op=10:=tn C
 refine ws (af ?_);refine ab (au rfl (λJ=>?_) λJ=>?_)
 .have J:x.op=38:=tn J
  have hl:=hx (.inr J);have O:(x.args.map I).take (x.args.length*1)=x.args.map I:=cW oS;apply aF
  refine SS ?_
  refine SS ?_
  refine SS ?_
  refine SS ?_
  refine SS ?_
  refine SS ?_
  refine SS ?_
  refine SS ?_
  refine SS ?_
  refine ab (bF (cE [(2,(x.a::x.b::x.args).map I,3)] eH (l:=[(2,av (x.a::x.b::x.args))]) ⟨?_,aa⟩) (bD (cu (bc (aD (d:=av (x.a::x.b::x.args)) rfl ?_)))))
  .show uX _ [(2,_,3)] (.rs 2 0 (2+x.args.length))=_;refine(kN c3 (es:=(x.a::x.b::x.args).map I) (cW oP)).trans ?_;rw[Nat.add_comm];rfl
  .exact congrArg av (by rw[cN,ai (by simp[h1]),ai (by simp[h2]),ai C,bi J])
 have J:¬ x.op=38:=tn J
 refine pw (aF (SS ?_));refine ab (bF (Bg (n0:=2) rfl) (aD (d:=av []) rfl ?_));exact congrArg av (by rw[cN,ai (by simp[h1]),ai (by simp[h2]),ai C,ai J])
def MF{x:Abs.End}(hx:x.kind=5->x.ins.op=10\/x.ins.op=38->x.ins.args.length<=1000)(hy:x.kind=6\/x.kind=7->x.args.length<=1000):aE prog 30 [.agg (aR x)] (av (dB x)):=by
 have U:∀ a∈[D.agg (aR x)],Tr a:=.cons (.agg (ot x)) .nil;refine bN (fo f30) U (cR _) ?_;refine aF (af ?_);refine ab (bF (cE [(0,aR x,48)] eH (l:=[(1,.pt (aR x))]) eH) (aM (aj ?_)));refine af ?_;refine ab (pQ (cI (λs=>aL prog s ⟨ay [(1,.pt (aR x)),(4,U8 x.kind),(5,B (aC [2,8,9] x.kind))],λ_=>none,1⟩) (aj ?_) λs hg=>⟨_,hg,?_⟩))
 .refine af ?_;refine ab (au rfl (λh=>bd (ao ⟨rfl,rfl,dP h oC,aa⟩)) λe2=>aj ?_);refine af ?_;refine ab (au rfl (λh=>bd (ao ⟨rfl,rfl,dP h oC,aa⟩)) λe8=>eI ?_);refine af ?_;refine ab (ao ⟨rfl,rfl,?_,aa⟩);show D.s (.bool (x.kind==9))=_;simp[aC,e2,e8]
 refine au rfl (λh1=>?_) λh1=>?_
 .refine aF (aX ?_);refine ab (bF (cE [(1,([x.a]).map I,3)] eH (l:=[(2,av ([x.a]))]) ⟨kN c3 rfl,aa⟩) (bD (cu (bc (aD (d:=av ([x.a])) rfl ?_)))));exact congrArg av (by rw[dB,bi h1])
 refine ws (af ?_);refine ab (au rfl (λh2=>?_) λh2=>?_)
 .have h2:x.kind=3:=tn h2
  refine aM (aj (az ?_));refine ab (cG rfl (λC=>?_) λC=>dn (aF ?_))
  .have C:x.a= -1:=tn C
   refine aM (aF (SS ?_));refine ab (bF (Bg (n0:=2) rfl) (dX (cu (bc (aD (d:=av []) rfl ?_)))));exact congrArg av (by rw[dB,ai (by simp[h1]),bi h2,ai (by simp[C])])
  .have C:¬ x.a= -1:=tn C
   refine aX ?_;refine ab (bF (cE [(1,([x.a]).map I,3)] eH (l:=[(2,av ([x.a]))]) ⟨kN c3 rfl,aa⟩) (bD (cu (bc (aD (d:=av ([x.a])) rfl ?_)))));exact congrArg av (by rw[dB,ai (by simp[h1]),bi h2,bi C])
 have h2:¬ x.kind=3:=tn h2
 refine ws (af ?_);refine ab (au rfl (λC=>?_) λC=>?_)
 .have C:x.kind=5:=tn C
  have rO:=rO (x:=x.ins) (hx C);refine ws (aX ?_);refine ab (bD (cu (bc (aD (d:=av (cN x.ins)) rfl ?_))));exact congrArg av (by rw[dB,ai (by simp[h1]),ai h2,bi C])
 have C:¬ x.kind=5:=tn C
 refine cI (λs=>aL prog s ⟨ay [(1,.pt (aR x)),(4,U8 x.kind),(25,B (aC [6,7] x.kind))],λ_=>none,1⟩) (aj ?_) λs hg=>⟨_,hg,?_⟩
 .refine af ?_;refine ab (au rfl (λh=>bd (ao ⟨rfl,rfl,dP h oC,aa⟩)) λe6=>eI ?_);refine af ?_;refine ab (ao ⟨rfl,rfl,?_,aa⟩);show D.s (.bool (x.kind==7))=_;simp[aC,e6]
 refine au rfl (λJ=>?_) λJ=>?_
 .have X:x.kind=6\/x.kind=7:=by simpa[aC] using J
  have hl:=hy X;have O:(x.args.map I).take (x.args.length*1)=x.args.map I:=cW oS;apply aF
  refine SS ?_
  refine SS ?_
  refine SS ?_
  refine SS ?_
  refine SS ?_
  refine ab (bF (cE [(2,x.args.map I,3)] eH (l:=[(2,av x.args)]) ⟨?_,aa⟩) (bD (cu (bc (aD (d:=av x.args) rfl ?_)))))
  .show uX _ [(2,_,3)] (.rs 2 0 (0+x.args.length))=_;refine(kN c3 (es:=x.args.map I) (cW oS)).trans ?_;rw[Nat.zero_add]
  exact congrArg av (by rw[dB,ai (by simp[h1]),ai h2,ai C,bi J])
 refine pw (aF ?_)
 refine SS ?_
 refine ab (bF (Bg (n0:=2) rfl) (aD (d:=av []) rfl ?_));exact congrArg av (by rw[dB,ai (by simp[h1]),ai h2,ai C,ai (by simp[J])])
def tu{l:List Int}{i:Nat}{x:Int}(h:l[i]? =some x):l.getD i 0=x:=by simp[h]
def KI{n i:Nat}{p:Nat->Bool}(hi:i<n)(h:p i=false):(range n).all p=false:=by
 rw[all_eq_false];exact⟨i,tn hi,by simp[h]⟩
def WQ{i:Nat}{p:Nat->Bool}(h:(range i).all p=true)(hp:p i=true):(range (i+1)).all p=true:=by
 rw[range_succ,all_append,h];simp[hp]
def px(to:List Int)(n fixed:Int)(i:Nat):Bool:=dz (to.getD i 0) 0 (n - 1)&&(!aC (to.take i) (to.getD i 0)&& !(decide ((i:Int)<fixed)&&to.getD i 0 !=i))
def lX(to:List Int)(n fixed:Int):Bool:=(range to.length).all (px to n fixed)&&(to.length:Int)==n
def pH(to:List Int)(k N:Nat):List Bool:=(range N).map λ(v:Nat)=>aC (to.take k) (v:Int)
def X3(to:List Int)(N:Nat):(pH to 0 N).map B=dp N [B false]:=by
 rw[DQ];congr 1;refine ext_getElem (by simp[pH]) λi h1 h2=>?_;simp[pH,aC]
def VJ(to:List Int)(k N:Nat):(pH to k N).length=N:=by simp[pH]
def VK{to:List Int}{k N v:Nat}(h:v<N):(pH to k N)[v]? =some (aC (to.take k) v):=by simp[pH,h]
def VL{to:List Int}{k N v:Nat}(hx:to[k]? =some (v:Int))(hv:v<N):(pH to k N).set v true=pH to (k+1) N:=by
 refine ext_getElem (by simp[pH]) λi h1 h2=>?_;have hi:i<N:=by simpa[pH] using h2
 rw[List.getElem_set];simp only[pH,getElem_map,List.getElem_range,take_add_one,hx,Option.toList_some];by_cases e:v=i
 .subst e;simp[aC]
 .rw[ai e];have:((i:Int)==(v:Int))=false:=by simp;omega
  simp[aC,this]
def Aq{to:List Int}{N:Nat}{fixed:Int}(hN:N<=100000)(hl:to.length<=100000):aE prog 101 [av to,I N,I fixed] (B (lX to N fixed)):=by
 refine bN (fo f101) (.cons (cR to) (.cons (.s _) fl)) (Tr.s _) ?_;refine ws (SS ?_);refine er (az ?_);refine ab (aM (aF (az ?_)));unfold lX
 refine ab (cJ (λs=>∃ m nx,aL prog s ⟨ay [(0,av to),(1,I N)],m,nx⟩/\(range to.length).all (px to N fixed)=true) (gl (α:=Nat)
  (λk=>⟨ay [(1,I N),(0,av to),(2,I fixed),(7,.rs 0 0 N),(12,av to),(13,I to.length),(14,I k)],b8 [(0,.cells ((pH to k N).map B) 4)],1⟩)
  (λk=>k<=to.length/\(range k).all (px to N fixed)=true) (λk=>to.length - k) 0
  (a6 eH ⟨by rw[X3];rfl,aa⟩) ⟨Nat.zero_le _,rfl⟩ ?_) ?_)
 .rintro k ⟨hk,O⟩;refine SS ?_;refine ab ⟨_,rfl,λh=>?_,λh=>?_⟩
  .have al:k<to.length:=tn h
   clear h;let⟨x,hx⟩:=tS to k al
   have J:px to N fixed k=(dz x 0 (N - 1)&&(!aC (to.take k) x&& !(decide ((k:Int)<fixed)&&x !=k))):=by rw[px,tu hx]
   have la:=la (n:=x) (a:=0) (b:=N - 1);refine ws (bG ?_);refine ab (aM (aj ?_));cases C:dz x 0 (N - 1) with
   |false=>
    rw[C] at la;refine cB ?_;(iterate 4 refine z λ_ _=>?_);refine cB ?_;(iterate 4 refine z λ_ _=>?_);refine SS ?_;refine ab (cG rfl (λ_=>?_) λh=>by simp at h);rw[KI al (J.trans (by rw[C];rfl))];refine aM (aj (SS ?_));exact ab (dX (dd (bc (aD rfl rfl))))
   |true=>
    rw[C] at la J;obtain⟨v,rfl⟩:=fc (jF.1 C).1;have hv:v<N:=by have:=(jF.1 C).2;omega
    have hg:=VK (to:=to) (k:=k) hv;have hlen:=VJ to k N;have U:=VL hx hv;generalize aC (to.take k) v=c at hg J;generalize pH to k N=q at*
    have kd:=nv (f:=B) hg;refine cF ?_;refine cq rfl rfl (pY rfl rfl rfl V.h V.h) (λhc=>⟨ak,⟨V.h,oG⟩⟩) (cq rfl rfl (fe rfl rfl kd V.h) (λhc=>⟨ak,(fh V.h V.h kd)⟩) (bg ?_));refine af ?_;refine ab (cG rfl (λh=>?_) λh=>dn ?_)
    .have h:(range to.length).all (px to N fixed)=false:=KI al (J.trans (by revert h;cases c<;>cases decide ((k:Int)<fixed)<;>simp));rw[h];refine aM (aj (SS ?_));exact ab (dX (dd (bc (aD rfl rfl))))
    .have h:px to N fixed k=true:=J.trans (by revert h;cases c<;>cases decide ((k:Int)<fixed)<;>simp);refine gE (aX ?_);refine ab (af ?_);exact ab (bA (k+1) (a6 eH ⟨by rw[<- U,map_set];rfl,aa⟩) ⟨oG,WQ O h⟩ oG)
  .have bJ:¬ k<to.length:=tn h
   have:k=to.length:=by omega
   subst this;exact⟨_,_,ao eH,O⟩
 .rintro s ⟨m,nx,X,O⟩;rw[O];refine⟨_,X,aj ?_⟩;refine bG ?_;exact ab (aD rfl rfl)
def ef:List D:=[S ⟨#[]⟩,B false,I 0,U8 0,.z,.z,.z,.z]
end Go.Abs
end
