/- Part 4. -/
import Derived.Test.YtnagfmlifobdiaaGreatDoorTells3
import Derived.Lib.ItoaNum
import Derived.Lib.Join
set_option linter.all false
set_option maxHeartbeats 8000000
set_option maxRecDepth 10000
open List(range)
open List(replicate)
section
open Go Go.Abs Go.Proofs Go.Argus
namespace Go.Argus
open Go.Proofs.Tryz.K (nextR)
structure CS where
 wsq:List (List Int)
 re:List Bool
 ch:Bool
def gy(x:End)(w:List Int)(s:CS)(n:Int):CS:=
 if s.re.getD n.toNat false=false\/mB (s.wsq.getD n.toNat []) (iq x n w)≠s.wsq.getD n.toNat [] then⟨s.wsq.set n.toNat (mB (s.wsq.getD n.toNat []) (iq x n w)),s.re.set n.toNat true,true⟩ else s
def iG(bs:List bI)(s:CS)(k:Nat):CS:=match bs[k]? with
 |none=>s
 |some x=>if s.re.getD k false=true then(nextR x.fin).foldl (gy x.fin (mq x (s.wsq.getD k [])).1) s else s
def pC(bs:List bI)(s:CS):CS:=(range bs.length).foldl (iG bs) ⟨s.wsq,s.re,false⟩
def qN(bs:List bI):Nat->CS->CS
 |0,s=>s
 |k+1,s=>if(pC bs s).ch=true then qN bs k (pC bs s) else pC bs s
def nO:Int:=18446744073709551615
def lS:Nat->List Int
 |0=>replicate 20 0
 |k+1=>qZ (lS k) k
@[simp] theorem Pv : ∀ k, (lS k).length = 20
 |0=>rfl
 |k+1=>by simp[lS,Pv k]
def vg(n args:Nat):CS:=⟨(replicate n (replicate 20 nO)).set 0 (lS args),(replicate n false).set 0 true,true⟩
def kE(u:Int):Prop:=0<=u/\u<18446744073709551616
structure l9(n:Nat)(s:CS):Prop where
 lw:s.wsq.length=n
 lr:s.re.length=n
 mi:∀ w∈s.wsq,w.length=20
 rg:∀ w∈s.wsq,∀ u∈w,kE u
def mL(w:List Int):Nat:=(w.map Int.toNat).sum
def wT(s:CS):Nat:=(s.wsq.map mL).sum+s.re.count false
def qz(s:CS):Nat:=wT s+if s.ch=true then 1 else 0
theorem RD{l:List Nat}{k x y:Nat}(h:l[k]? =some x):(l.set k y).sum+x=l.sum+y:=by
 induction l generalizing k with
 |nil=>simp at h
 |cons a l ih=>cases k with
  |zero=>simp at h;subst h;simp;omega
  |succ k=>have:=ih (k:=k) (by simpa using h);simp;omega
theorem abh{l:List Int}{k:Nat}{x y:Int}(h:l[k]? =some x):mL (l.set k y)+x.toNat=mL l+y.toNat:=by
 unfold mL;rw[List.map_set];exact RD (by simp[h])
theorem ZE{a b:Int}(h:kE a):kE (wu a b)/\wu a b<=a:=by
 have:=acB (b:=b) h;exact⟨⟨this.1,by unfold kE at h;omega⟩,this.2⟩
theorem abi{α:Type}{l:List α}{k:Nat}{x:α}(h:l[k]? =some x):l.set k x=l:=by
 apply List.ext_getElem?;intro i;rw[List.getElem?_set];split
 .rename_i e;subst e;rw[if_pos (bM.1 h).1,h]
 .rfl
theorem Qz{w v:List Int}(J:∀ u∈w,kE u):∀ k,k<=w.length->(∀ u∈gU w v k,kE u)/\mL (gU w v k)<=mL w/\(gU w v k≠w->mL (gU w v k)<mL w)
 |0,_=>⟨J,bc _,fun h=>absurd rfl h⟩
 |k+1,hk=>by
  obtain⟨h1,h2,M⟩:=Qz (v:=v) J k oG;have hl:k<(gU w v k).length:=by simp;omega
  have hx:(gU w v k)[k]? =some (gU w v k)[k]:=a8 hl;have hg:(gU w v k).getD k 0=(gU w v k)[k]:=by simp[du,hx]
  have hm:=h1 _ (gi hl);simp only[gU,hg];generalize (gU w v k)[k]=a at hx hm;obtain⟨r1,r2⟩:=ZE (b:=v.getD k 0) hm;generalize wu a (v.getD k 0)=y at r1 r2;have hs:=abh (y:=y) hx;unfold kE at r1 hm;refine⟨fun u hu=>?_,oG,fun C=>?_⟩
  .rcases List.mem_or_eq_of_mem_set hu with h|h
   .exact h1 u h
   .subst h;exact r1
  .by_cases e:y=a
   .subst e;have:(gU w v k).set k y=gU w v k:=abi hx;rw[this] at C ⊢;exact M C
   .omega
theorem abj{l:List (List Int)}{k:Nat}{w v:List Int}(h:l[k]? =some w):((l.set k v).map mL).sum+mL w=(l.map mL).sum+mL v:=by
 rw[List.map_set];exact RD (by simp[h])
theorem count_set{l:List Bool}{k:Nat}{b:Bool}(h:l[k]? =some b):(l.set k true).count false+(if b=true then 0 else 1)=l.count false:=by
 induction l generalizing k with
 |nil=>simp at h
 |cons a l ih=>cases k with
  |zero=>simp at h;subst h;cases a<;>simp
  |succ k=>have:=ih (k:=k) (by simpa using h);simp only[List.set_cons_succ,List.count_cons];omega
theorem OU{x:End}{w:List Int}{s:CS}{n:Nat}{t:Int}(hs:l9 n s)(ht:0<=t/\t<n):l9 n (gy x w s t)/\qz (gy x w s t)<=qz s:=by
 obtain⟨lw,lr,mi,rg⟩:=hs;obtain⟨k,rfl⟩:=iQ ht.1;have hk:k<n:=by omega
 have hx:s.wsq[k]? =some s.wsq[k]:=a8 oG;have hb:s.re[k]? =some s.re[k]:=a8 oG;have X:s.wsq.getD k []=s.wsq[k]:=by simp[du,hx]
 have U:s.re.getD k false=s.re[k]:=by simp[du,hb]
 have hm:s.wsq[k]∈s.wsq:=gi _;unfold gy;simp only[iv,X,U];generalize s.wsq[k]=v at hx hm;generalize s.re[k]=b at hb;have v20:=mi v hm;obtain⟨C,M,J⟩:=Qz (v:=iq x k w) (rg v hm) 20 oG;have hl:=Pw v (iq x k w)
 change (∀ u∈mB v (iq x k w),kE u) at C
 change mL (mB v (iq x k w))<=mL v at M
 change mB v (iq x k w)≠v->mL (mB v (iq x k w))<mL v at J
 generalize mB v (iq x k w)=u at C M J hl;split
 .rename_i hc;refine⟨⟨by simp[lw],by simp[lr],JX mi oG,fun y hy=>?_⟩,?_⟩
  .rcases List.mem_or_eq_of_mem_set hy with h|h
   .exact rg y h
   .subst h;exact C
  .have h1:=abj (v:=u) hx;have h2:=count_set hb;unfold qz wT;simp only[if_true];rcases hc with hc|hc
   .subst hc;simp only[Bool.false_eq_true,if_false] at h2;omega
   .have:=J hc;omega
 .exact⟨⟨lw,lr,mi,rg⟩,bc _⟩
theorem EP{α β:Type}{f:β->α->β}{J:β->Prop}{φ:β->Nat}{l:List α}(h:∀ x∈l,∀ s,J s->J (f s x)/\φ (f s x)<=φ s){s:β}(hs:J s):J (l.foldl f s)/\φ (l.foldl f s)<=φ s:=by
 induction l generalizing s with
 |nil=>exact⟨hs,bc _⟩
 |cons x l ih=>
  obtain⟨h1,h2⟩:=h x oS s hs;obtain⟨C,M⟩:=ih (fun y hy=>h y (by simp[hy])) h1;exact⟨C,Nat.le_trans M h2⟩
theorem I0(x:End):(nextR x).length<=x.aU.length+3:=by
 have h1:=RB (d:=nB (eu x)) (nB (eu x)).length;have h2:=JS x;rw[Pr] at h1;exact Nat.le_trans (by simpa[nextR,zZ,ng] using h1) h2
structure yf(n:Nat)(b:bI):Prop where
 len:b.ins.length<=100000
 ins:∀ x∈b.ins,pY x
 fin:Df b.fin
 rl:∀ x∈b.ins,(ea x).length<=100000
 rf:(dU b.fin).length<=100000
 to:∀ t∈nextR b.fin,0<=t/\t<n
theorem QA{bs:List bI}{s:CS}{n k:Nat}(hb:∀ b∈bs,yf n b)(hs:l9 n s):l9 n (iG bs s k)/\qz (iG bs s k)<=qz s:=by
 unfold iG;split
 .exact⟨hs,bc _⟩
 .rename_i x hx;split
  .exact EP (J:=l9 n) (φ:=qz) (fun t ht s hs=>OU hs ((hb x (bz hx)).to t ht)) hs
  .exact⟨hs,bc _⟩
theorem Im{bs:List bI}{s:CS}{n:Nat}(hb:∀ b∈bs,yf n b)(hs:l9 n s):l9 n (pC bs s)/\qz (pC bs s)<=wT s:=by
 have:=EP (J:=l9 n) (φ:=qz) (f:=iG bs) (l:=range bs.length) (fun k _ s hs=>QA hb hs) (s:=⟨s.wsq,s.re,false⟩) ⟨hs.lw,hs.lr,hs.mi,hs.rg⟩;exact this
def pf(bs:List bI)(args:Nat):CS:=qN bs (wT (vg bs.length args)+1) (vg bs.length args)
theorem getD_some{α:Type}{l:List α}{k:Nat}{x d:α}(h:l[k]? =some x):l.getD k d=x:=by simp[du,h]
theorem acC{α:Type}{n k:Nat}{x y:α}(hk:k<n):(replicate k x++replicate (n - k) y).set k x=replicate (k+1) x++replicate (n - (k+1)) y:=by
 rw[show n - k=n - (k+1)+1 by omega,List.replicate_succ,List.replicate_succ',List.append_assoc,List.singleton_append];rw[List.set_append];simp
theorem abk{α:Type}{a b:Nat}{x y z:α}(h:z∈replicate a x++replicate b y):z=x\/z=y:=by
 rcases List.mem_append.1 h with h|h
 .exact .inl (List.eq_of_mem_replicate h)
 .exact .inr (List.eq_of_mem_replicate h)
theorem Xm{x:End}{w v:List Int}{s:CS}{k:Nat}{b:Bool}(hx:s.wsq[k]? =some v)(hb:s.re[k]? =some b)(h:b=false\/mB v (iq x k w)≠v):gy x w s k=⟨s.wsq.set k (mB v (iq x k w)),s.re.set k true,true⟩:=by
 unfold gy;rw[iv,getD_some hx,getD_some hb,if_pos h]
theorem Yb{x:End}{w v:List Int}{s:CS}{k:Nat}{b:Bool}(hx:s.wsq[k]? =some v)(hb:s.re[k]? =some b)(h:¬ (b=false\/mB v (iq x k w)≠v)):gy x w s k=s:=by
 unfold gy;rw[iv,getD_some hx,getD_some hb,if_neg h]
theorem Oi{n args:Nat}(ha:∀ u∈lS args,kE u):l9 n (vg n args):=by
 refine⟨by simp[vg],by simp[vg],JX (fun w C=>by rw[List.eq_of_mem_replicate C];simp) oS,fun w C u hu=>?_⟩;rcases List.mem_or_eq_of_mem_set C with h|h
 .rw[List.eq_of_mem_replicate h] at hu;rw[List.eq_of_mem_replicate hu];simp[kE,nO]
 .rw[h] at hu;exact ha u hu
end Go.Argus
namespace Go.Proofs.Tryz.K
theorem A6{p q:D}{f:au}{n args:Nat}(hp:Tr p)(hq:Tr q)(eE:p.one=true)(bN:q.one=true)(hn:f.blocks.length=n)(y5:0<n)(y6:n<=100000)(ha:f.args=args)(yW:args<=1000)(zd:∀ u∈lS args,kE u)(hb:∀ b∈f.blocks,yf n b):
 aD prog 132 [.agg (a6 p q f)] (.aM [.sl (cT (pf f.blocks args).wsq) n,.sl ((pf f.blocks args).re.map B) n]):=by
 have bf:∀ a∈[D.agg (a6 p q f)],Tr a:=.cons (kf hp hq f) .nil;refine bj afP bf (.aM (.cons (.sl (adE _)) (.cons (.sl (.map fun _=>.s _)) .nil))) ?_;rw[afQ];refine az ?_;refine ay ?_;refine af (bJ (dE [(0,a6 p q f,113)] eH (l:=[(1,.pt (a6 p q f))]) eH) (BL ZF ?_));refine aV ?_;refine eC (B7 rfl rfl V.h V.h) ak ⟨oG,rfl,oG,by rw[UA];omega,V.h⟩ ?_;refine aV ?_;refine eC (B7 rfl rfl V.h V.h) ak ⟨oG,rfl,oG,by rw[b4];omega,V.h⟩ ?_;refine ag ?_;have ic:((f.blocks.length:Nat):Int).toNat=n:=hn;refine cu cE (bJ (cq (l:=[(1,.pt (a6 p q f)),(4,.rs 1 0 n),(5,.rs 2 0 n)]) (ml:=[(1,.cells (cT (replicate n (replicate 20 0))) 201),(2,.cells ((replicate n false).map B) 4)]) ⟨rfl,?_,?_,trivial⟩ ⟨?_,?_,trivial⟩) (aC (az ?_)))
 .exact congrArg (fun k=>D.rs 1 0 k) ic
 .exact congrArg (fun k=>D.rs 2 0 k) ic
 .exact congrArg (fun c=>some (Row.cells c 201)) ((congrArg (fun k=>dz k ((replicate 20 (0:Int)).map cP)) ic).trans (abf n (replicate 20 0)))
 .exact congrArg (fun c=>some (Row.cells c 4)) ((congrArg (fun k=>dz k [B false]) ic).trans (acz n false))
 refine SS ?_;refine ax (F9 rfl rfl) ak V.h ?_;refine SS ?_
 refine af (cz (fun s=>aL prog s ⟨aA [(1,.pt (a6 p q f)),(4,.rs 1 0 n),(5,.rs 2 0 n)],bu [(1,.cells (cT (replicate n (replicate 20 nO))) 201),(2,.cells ((replicate n false).map B) 4)],3⟩) (cy (α:=Nat)
  (fun k=>⟨aA [(1,.pt (a6 p q f)),(4,.rs 1 0 n),(5,.rs 2 0 n),(27,I n),(28,I k)],bu [(1,.cells (cT (replicate k (replicate 20 nO)++replicate (n - k) (replicate 20 0))) 201),(2,.cells ((replicate n false).map B) 4)],3⟩)
  (fun k=>k<=n) (fun k=>n - k) 0 (cq eH eH) oG ?_) ?_)
 .intro k hk;refine SS ?_;refine af ⟨_,rfl,fun h=>?_,fun h=>?_⟩
  .have ah:k<n:=by simpa using h
   have ajN:=acC (x:=replicate 20 nO) (y:=replicate 20 (0:Int)) ah
   have hi:(replicate k (replicate 20 nO)++replicate (n - k) (replicate 20 (0:Int)))[k]? =some (replicate 20 0):=by
    rw[List.getElem?_append_right oS,List.length_replicate,Nat.sub_self,show n - k=n - (k+1)+1 by omega,List.replicate_succ];rfl
   have wR:∀ w∈replicate k (replicate 20 nO)++replicate (n - k) (replicate 20 (0:Int)),w.length=20:=fun w U=>by
    rcases abk U with h|h<;>(rw[h];simp)
   have LH:aD prog 178 [] (gp (replicate 20 nO)):=LH;refine ws ?_;refine ag ?_;refine af (fF ?_);refine ag ?_;refine cl LH ?_;refine ag ?_;refine af ?_;refine ag ?_;refine af (bh (k+1) (cq eH ⟨?_,rfl,trivial⟩) oG oG);rw[<- ajN];rfl
  .have bq:¬ k<n:=by simpa using h
   have:k=n:=by omega
   subst this;refine cq eH ⟨?_,rfl,trivial⟩;show some (Row.cells (cT (_++replicate (k - k) _)) _)=_;rw[Nat.sub_self,List.replicate_zero,List.append_nil]
 rintro s hg;refine⟨_,hg,az ?_⟩;have hi:(replicate n (replicate 20 nO))[0]? =some (replicate 20 nO):=by simp[y5]
 have wR:∀ w∈replicate n (replicate 20 nO),w.length=20:=fun w U=>by rw[List.eq_of_mem_replicate U];simp
 refine ag ?_;refine ax (abg ajM rfl afM) ak ⟨V.h,V.h⟩ ?_;refine ag ?_;refine ax (mr rfl rfl rfl V.h V.h) ak ⟨V.h,oG⟩ ?_;refine bL (eF (d:=.s (.bool _)) (cs':=_) rfl rfl rfl rfl rfl) ak (bY V.h V.h (by first|(simp;done)|exact⟨rfl,bF rfl⟩|(simp;omega)) rfl) ?_;refine af (bJ (cq (l:=[(1,.pt (a6 p q f)),(4,.rs 1 0 n),(5,.rs 2 0 n)]) (ml:=[(1,.cells (cT ((replicate n (replicate 20 nO)).set 0 (lS 0))) 201),(2,.cells (((replicate n false).set 0 true).map B) 4)]) eH ⟨rfl,?_,trivial⟩) (aC (az ?_)))
 .rw[List.map_set];rfl
 clear hi;refine aV ?_
 refine af (cz (fun s=>aL prog s ⟨aA [(1,.pt (a6 p q f)),(4,.rs 1 0 n),(5,.rs 2 0 n)],bu [(1,.cells (cT ((replicate n (replicate 20 nO)).set 0 (lS args))) 201),(2,.cells (((replicate n false).set 0 true).map B) 4)],3⟩) (cy (α:=Nat)
  (fun k=>⟨aA [(1,.pt (a6 p q f)),(4,.rs 1 0 n),(5,.rs 2 0 n),(43,I args),(44,I k)],bu [(1,.cells (cT ((replicate n (replicate 20 nO)).set 0 (lS k))) 201),(2,.cells (((replicate n false).set 0 true).map B) 4)],3⟩)
  (fun k=>k<=args) (fun k=>args - k) 0 (cq ⟨rfl,rfl,rfl,congrArg I ha,rfl,trivial⟩ eH) oG ?_) ?_)
 .intro k hk;refine SS ?_;refine af ⟨_,rfl,fun h=>?_,fun h=>?_⟩
  .have ah:k<args:=by simpa using h
   have hi:((replicate n (replicate 20 nO)).set 0 (lS k))[0]? =some (lS k):=by simp[y5]
   have wR:=JX (i:=0) wR (Pv k);have qd:=qd (w:=lS k) (n:=(k:Int)) oS oG;refine ws ?_;refine ag ?_;refine af (fF ?_);refine ay ?_;refine ax (ff rfl rfl V.h V.h (GS oN oN)) ak (fh V.h V.h (xW oN oN)) ?_;refine SS ?_;refine cl qd ?_;refine ag ?_;refine af ?_;refine ag ?_;refine af (bh (k+1) (cq eH ⟨?_,rfl,trivial⟩) oG oG);show some (Row.cells (cT ((List.set _ 0 (lS k)).set 0 (lS (k+1)))) _)=_;rw[List.set_set]
  .have bq:¬ k<args:=by simpa using h
   have:k=args:=by omega
   subst this;exact aw eH
 clear wR;rintro s hg;refine⟨_,hg,aC (az ?_)⟩;refine SS ?_;have hi0:=Oi (n:=n) zd;have hR:pf f.blocks args=qN f.blocks (wT (vg n args)+1) (vg n args):=by rw[pf,hn]
 generalize pf f.blocks args=R at hR ⊢
 refine af (cz (fun s=>∃ n',aL prog s ⟨aA [(4,.rs 1 0 n),(5,.rs 2 0 n)],bu [(1,.cells (cT R.wsq) 201),(2,.cells (R.re.map B) 4)],n'⟩/\l9 n R) (abY (α:=CS×Nat)
  (fun s=>⟨aA [(1,.pt (a6 p q f)),(4,.rs 1 0 n),(5,.rs 2 0 n),(8,B s.1.ch)],bu [(1,.cells (cT s.1.wsq) 201),(2,.cells (s.1.re.map B) 4)],s.2⟩)
  (fun s=>l9 n s.1/\3<=s.2/\(s.1.ch=true->∃ k,wT s.1<k/\qN f.blocks k s.1=R)/\(s.1.ch=false->s.1=R)) (fun s=>2*wT s.1+if s.1.ch=true then 1 else 0) (vg n args,3)
  (cq eH eH) ⟨hi0,bc _,fun _=>⟨_,Nat.lt_succ_self _,hR.symm⟩,fun h=>by cases h⟩ ?_) ?_)
 .rintro⟨C,N0⟩ ⟨yz,VD,VE,UB⟩;dsimp only at yz VD VE UB ⊢;refine SS ?_;refine af ⟨_,rfl,fun h0=>?_,fun h=>?_⟩
  .obtain⟨ed,amo,Tv⟩:=VE h0;obtain⟨ed,rfl⟩:∃ j,ed=j+1:=⟨ed - 1,oG⟩
   have Tw:=Im hb yz;refine ws ?_;refine SS ?_;refine af (az ?_);refine bA ?_
   refine af (cy (α:=Nat×Nat)
    (fun k=>⟨aA [(1,.pt (a6 p q f)),(4,.rs 1 0 n),(5,.rs 2 0 n),(8,B ((range k.1).foldl (iG f.blocks) ⟨C.wsq,C.re,false⟩).ch),(58,cL f.blocks),(59,I n),(60,I k.1)],bu [(1,.cells (cT ((range k.1).foldl (iG f.blocks) ⟨C.wsq,C.re,false⟩).wsq) 201),(2,.cells (((range k.1).foldl (iG f.blocks) ⟨C.wsq,C.re,false⟩).re.map B) 4)],k.2⟩)
    (fun k=>k.1<=n/\3<=k.2) (fun k=>n - k.1) (0,N0) (cq ⟨rfl,rfl,rfl,rfl,rfl,congrArg (fun k:Nat=>I k) hn,rfl,trivial⟩ eH) ⟨Nat.zero_le _,VD⟩ ?_)
   rintro⟨k,N⟩ ⟨hk,hN⟩;dsimp only at hk hN ⊢;have bK:=(EP (J:=l9 n) (φ:=qz) (f:=iG f.blocks) (l:=range k) (fun k _ s hs=>QA hb hs) (s:=⟨C.wsq,C.re,false⟩) ⟨yz.lw,yz.lr,yz.mi,yz.rg⟩).1;have fW:(range (k+1)).foldl (iG f.blocks) ⟨C.wsq,C.re,false⟩=iG f.blocks ((range k).foldl (iG f.blocks) ⟨C.wsq,C.re,false⟩) k:=by rw[List.range_succ,List.foldl_append];rfl
   have Tx:k=n->(range k).foldl (iG f.blocks) ⟨C.wsq,C.re,false⟩=pC f.blocks C:=fun e=>by rw[e,pC,hn]
   generalize (range k).foldl (iG f.blocks) ⟨C.wsq,C.re,false⟩=u at bK fW Tx;refine SS ?_;refine af ⟨_,rfl,fun h=>?_,fun h=>?_⟩
   .have ah:k<n:=by simpa using h
    have hx:f.blocks[k]? =some f.blocks[k]:=a8 oG;have j6:f.blocks[k]∈f.blocks:=gi _;generalize f.blocks[k]=x at hx j6;have iY:=hb x j6;have M:iG f.blocks u k=if u.re.getD k false=true then(nextR x.fin).foldl (gy x.fin (mq x (u.wsq.getD k [])).1) u else u:=by rw[iG,hx]
    have lw:=bK.lw;have lr:=bK.lr;have mi:=bK.mi;have U:u.wsq[k]? =some u.wsq[k]:=a8 oG;have mW:u.re[k]? =some u.re[k]:=a8 oG;rw[getD_some U,getD_some mW] at M;have zu:=mi _ (gi (h:=by omega):u.wsq[k]∈u.wsq);generalize u.wsq[k]=w at U M zu;generalize u.re[k]=b at mW M;have kd:=na (f:=B) mW;refine ws ?_;refine cm ?_;refine af (aC (aj ?_));refine ag ?_;refine ax (mr rfl rfl (ai oG (ai oG rfl)) V.h V.h) ak ⟨V.h,oG⟩ ?_;refine ax (j9 rfl (ai oG (ai oG rfl)) kd V.h) ak (ka V.h V.h kd) ?_;refine SS ?_;refine af (ct rfl (fun h=>tm (Ge ?_)) fun h=>bX (BL Yc ?_))
    .have Ns:b=false:=by simpa using h
     subst Ns;have M:iG f.blocks u k=u:=M;refine ag ?_;refine af (bh (k+1,N+1) (cq ⟨rfl,rfl,rfl,?_,rfl,rfl,rfl,trivial⟩ ⟨?_,?_,trivial⟩) ⟨oM,oM⟩ oM)
     .dsimp only;rw[fW,M];rfl
     .dsimp only;rw[fW,M];exact ai oG (ai oG rfl)
     .dsimp only;rw[fW,M];exact ai oG (ai oG rfl)
    have Nt:b=true:=by simpa using h
    subst Nt;have M:iG f.blocks u k=(nextR x.fin).foldl (gy x.fin (mq x w).1) u:=M;have nN:=nN zu iY.len iY.ins iY.fin iY.rl iY.rf;have uA:=Ii x w;rw[zu] at uA;generalize VC:mq x w=th at nN uA M;obtain⟨w',Nr⟩:=th;dsimp only at uA nN M;clear kd;refine ax (ff (vs:=bS _) rfl (al _ _ _) V.h V.h rfl) ak (fh V.h V.h (by first|(simp;done)|omega|exact bF rfl)) ?_;refine ag ?_;refine ax (Cl rfl rfl (ai oG (ai oG (al _ _ _))) V.h V.h) ak ⟨V.h,oG⟩ ?_;refine ax (ff rfl (ai oG (ai oG (al _ _ _))) V.h V.h (GS oN oN)) ak (fh V.h V.h (xW oN oN)) ?_;refine cl nN ?_;refine cm ?_;refine cu cE (bJ (tw (l:=[(1,.pt (a6 p q f)),(4,.rs 1 0 n),(5,.rs 2 0 n),(8,B u.ch),(10,.rp N 0),(11,.rp (N+1) 0),(58,cL f.blocks),(59,I n),(60,I k)]) (m':=up (up (bu [(1,.cells (cT u.wsq) 201),(2,.cells (u.re.map B) 4)]) N (some (.cells (bS x) 59))) (N+1) (some (.cells (w'.map cP) 201))) eH (by rw[uh,uh])) (az ?_));have uw:=uw (x:=x.fin);have uz:=Sr (x:=x.fin) iY.fin.wh
    change aD _ _ _ (aQ (nextR x.fin)) at uz
    have iX:=iY.to;have me:=I0 x.fin;have hwh:=iY.fin.wh;generalize nextR x.fin=l at uz M iX me;refine ax (rQ rfl (ai oG (al _ _ _)) V.h) ak (pV V.h) ?_;refine ax (ff (vs:=bE _) rfl (ai oG (al _ _ _)) V.h V.h rfl) ak (fh V.h V.h (by first|(simp;done)|omega|exact bF rfl)) ?_;refine cl uw ?_;refine cl uz ?_;refine ag ?_;have LK:iG f.blocks u k=l.foldl (gy x.fin w') u:=M
    refine af (cy (α:=Nat×Nat)
     (fun j=>⟨aA [(1,.pt (a6 p q f)),(4,.rs 1 0 n),(5,.rs 2 0 n),(8,B ((l.take j.1).foldl (gy x.fin w') u).ch),(10,.rp N 0),(11,.rp (N+1) 0),(58,cL f.blocks),(59,I n),(60,I k),(82,aQ l),(83,I l.length),(84,I j.1)],up (up (bu [(1,.cells (cT ((l.take j.1).foldl (gy x.fin w') u).wsq) 201),(2,.cells (((l.take j.1).foldl (gy x.fin w') u).re.map B) 4)]) N (some (.cells (bS x) 59))) (N+1) (some (.cells (w'.map cP) 201)),j.2⟩)
     (fun j=>j.1<=l.length/\N+2<=j.2) (fun j=>l.length - j.1) (0,N+2) (tw eH rfl) ⟨Nat.zero_le _,bc _⟩ ?_)
    rintro⟨j,N'⟩ ⟨hj,hN'⟩;dsimp only at hj hN' ⊢;have H7:=(EP (J:=l9 n) (φ:=qz) (f:=gy x.fin w') (l:=l.take j) (fun t ht s hs=>OU hs (iX t (List.mem_of_mem_take ht))) bK).1;have X:∀ t,l[j]? =some t->(l.take (j+1)).foldl (gy x.fin w') u=gy x.fin w' ((l.take j).foldl (gy x.fin w') u) t:=fun t ht=>BV ht;have Dg:j=l.length->(l.take j).foldl (gy x.fin w') u=iG f.blocks u k:=fun e=>by rw[LK,dv oG]
    generalize (l.take j).foldl (gy x.fin w') u=v at H7 X Dg;clear lw lr mi U mW;have lw:=H7.lw;have lr:=H7.lr;have mi:=H7.mi;refine SS ?_;refine af ⟨_,rfl,fun h=>?_,fun h=>?_⟩
    .have dw:j<l.length:=by simpa using h
     have ht:l[j]? =some l[j]:=a8 dw;have Ei:=iX _ (gi dw);generalize l[j]=t at ht Ei;obtain⟨i,rfl⟩:=iQ Ei.1;have dq:i<n:=by omega
     have U:v.wsq[i]? =some v.wsq[i]:=a8 oG;have mW:v.re[i]? =some v.re[i]:=a8 oG;have Nu:=mi _ (gi (h:=by omega):v.wsq[i]∈v.wsq);generalize v.wsq[i]=y at U Nu;generalize v.re[i]=b at mW;have kd:=na (f:=B) mW;have wq:=wq (x:=x.fin) (b:=(i:Int)) (w:=w') uA (by have:=iY.fin.wh;omega) (by have:=iY.fin.wr;omega);have VF:=Pt x.fin i w';rw[uA] at VF;have Ha:=Ha Nu VF;have DJ:=Pw y (iq x.fin i w');rw[Nu] at DJ;have yes:=Xm (x:=x.fin) (w:=w') U mW;have no:=Yb (x:=x.fin) (w:=w') U mW;generalize mB y (iq x.fin i w')=z at Ha DJ yes no;refine ws ?_;refine ay ?_;refine af (BL Ye ?_);refine ag ?_;refine ax (Cl rfl rfl (ai oG (ai oG (al _ _ _))) V.h V.h) ak ⟨V.h,oG⟩ ?_;refine ax (ff rfl (ai oG (ai oG (al _ _ _))) V.h V.h (GS oN oN)) ak (fh V.h V.h (xW oN oN)) ?_;refine ax (rQ rfl (ai oG (al _ _ _)) V.h) ak (pV V.h) ?_;refine ax (ff (vs:=bE _) rfl (ai oG (al _ _ _)) V.h V.h rfl) ak (fh V.h V.h (by first|(simp;done)|omega|exact bF rfl)) ?_;refine SS ?_;refine ax (ff rfl (al _ _ _) V.h V.h (nw (by first|rfl|exact bF rfl|(simp;done)|(simp;omega)|omega))) ak (fh V.h V.h (by first|rfl|exact bF rfl|(simp;done)|(simp;omega)|omega)) ?_;refine cl wq ?_;refine cl Ha ?_;refine ag ?_;refine cu cE (bJ (tw (l:=[(1,.pt (a6 p q f)),(4,.rs 1 0 n),(5,.rs 2 0 n),(8,B v.ch),(10,.rp N 0),(11,.rp (N+1) 0),(14,I i),(15,.rp N' 0),(58,cL f.blocks),(59,I n),(60,I k),(82,aQ l),(83,I l.length),(84,I j)]) (m':=up (up (up (bu [(1,.cells (cT v.wsq) 201),(2,.cells (v.re.map B) 4)]) N (some (.cells (bS x) 59))) (N+1) (some (.cells (w'.map cP) 201))) N' (some (.cells (z.map cP) 201))) eH (uh _ _ _ _)) (eg Yf ?_));refine ag ?_;refine ax (mr rfl rfl (ai oG (ai oG (ai oG rfl))) V.h V.h) ak ⟨V.h,oG⟩ ?_;refine ax (j9 rfl (ai oG (ai oG (ai oG rfl))) kd V.h) ak (ka V.h V.h kd) ?_;refine ag ?_;refine bw rfl rfl (ff rfl (al _ _ _) V.h V.h (nw (by first|rfl|exact bF rfl|(simp;done)|(simp;omega)|omega))) (fun hc=>⟨ak,(fh V.h V.h (by first|rfl|exact bF rfl|(simp;done)|(simp;omega)|omega))⟩) ?_;refine ag ?_;refine bw rfl rfl (Cl rfl rfl (ai oG (ai oG (ai oG (al _ _ _)))) V.h V.h) (fun hc=>⟨ak,⟨V.h,oG⟩⟩) ?_;refine bw rfl rfl (ff rfl (ai oG (ai oG (ai oG (al _ _ _)))) V.h V.h (GS oN oN)) (fun hc=>⟨ak,(fh V.h V.h (xW oN oN))⟩) ?_;refine bw rfl rfl (afN rfl rfl (by first|assumption|(simp;omega)|omega)) (fun hc=>⟨ak,(afO (by first|assumption|(simp;omega)|omega))⟩) ?_;refine SS ?_;refine cu cE (aR rfl (fun h=>?_) fun h=>?_)
     .have yes:=yes (by
       cases b with
       |false=>exact .inl rfl
       |true=>exact .inr (by simpa using h))
      have X:=(X _ ht).trans yes;clear yes no;refine fF ?_;refine aV ?_;refine ax (ff rfl (al _ _ _) V.h V.h (nw (by first|rfl|exact bF rfl|(simp;done)|(simp;omega)|omega))) ak (fh V.h V.h (by first|rfl|exact bF rfl|(simp;done)|(simp;omega)|omega)) ?_;refine ax (Cl rfl rfl (ai oG (ai oG (ai oG (al _ _ _)))) V.h V.h) ak ⟨V.h,oG⟩ ?_;refine bL (fg rfl rfl (ai oG (ai oG (ai oG (al _ _ _)))) (S0 oC oN oN (by first|assumption|(simp;omega)|(simp;done)))) ak (B8 (by first|(simp;omega)|(simp;done)) (xW oN oN) (nJ _)) ?_;refine ax (mr rfl rfl (ai oG (ai oG (ai oG (ai oG rfl)))) V.h V.h) ak ⟨V.h,oG⟩ ?_;refine bL (eF (d:=.s (.bool _)) (cs':=_) rfl rfl (ai oG (ai oG (ai oG (ai oG rfl)))) rfl rfl) ak (bY V.h V.h (by first|(simp;done)|exact⟨rfl,bF rfl⟩|(simp;omega)) rfl) ?_;refine SS ?_;refine af ?_;refine ag ?_
      refine af (bh (j+1,N'+1) (cq (ml:=[(N+1,.cells (w'.map cP) 201),(N,.cells (bS x) 59),(1,.cells (cT ((l.take (j+1)).foldl (gy x.fin w') u).wsq) 201),(2,.cells (((l.take (j+1)).foldl (gy x.fin w') u).re.map B) 4)]) ⟨rfl,rfl,rfl,?_,rfl,rfl,rfl,rfl,rfl,rfl,rfl,rfl,trivial⟩
       ⟨ai oG (ai oG (ai oG (al _ _ _))),ai oG (ai oG (ai oG (ai oG (al _ _ _)))),ai oG ?_,?_,trivial⟩) ⟨oM,oM⟩ oM)
      .dsimp only;rw[X];rfl
      .rw[X];exact al _ _ _
      .rw[X];dsimp only;rw[List.map_set];exact al _ _ _
     .have no:=no (by
       cases b with
       |false=>simp at h
       |true=>simpa using h)
      have X:=(X _ ht).trans no;refine c7 ?_;refine ag ?_
      refine af (bh (j+1,N'+1) (cq (ml:=[(N+1,.cells (w'.map cP) 201),(N,.cells (bS x) 59),(1,.cells (cT ((l.take (j+1)).foldl (gy x.fin w') u).wsq) 201),(2,.cells (((l.take (j+1)).foldl (gy x.fin w') u).re.map B) 4)]) ⟨rfl,rfl,rfl,?_,rfl,rfl,rfl,rfl,rfl,rfl,rfl,rfl,trivial⟩
       ⟨ai oG (al _ _ _),ai oG (ai oG (al _ _ _)),?_,?_,trivial⟩) ⟨oM,oM⟩ oM)
      .dsimp only;rw[X];rfl
      .rw[X];exact ai oG (ai oG (ai oG rfl))
      .rw[X];exact ai oG (ai oG (ai oG rfl))
    .have bq:¬ j<l.length:=by simpa using h
     have vl:=Dg oG;subst vl;show av _ _ _ _ _ _ _ _ _;refine ag ?_;refine af (bh (k+1,N') (cq ⟨rfl,rfl,rfl,?_,rfl,rfl,rfl,trivial⟩ ⟨?_,?_,trivial⟩) ⟨oM,oM⟩ oM)
     .dsimp only;rw[fW];rfl
     .dsimp only;rw[fW];exact ai oG (ai oG rfl)
     .dsimp only;rw[fW];exact ai oG (ai oG rfl)
   .have bq:¬ k<n:=by simpa using h
    have hl:=Tx oG;subst hl;refine bh (pC f.blocks C,N) (cq eH eH) ⟨bK,hN,fun hc=>?_,fun hc=>?_⟩ ?_
    .refine⟨ed,?_,?_⟩
     .have:=Tw.2;unfold qz at this;show wT (pC f.blocks C)<ed;rw[if_pos hc] at this;omega
     .dsimp only at hc ⊢;rw[<- Tv,qN,if_pos hc]
    .dsimp only at hc ⊢;rw[<- Tv,qN,if_neg (by simp[hc])]
    .have:=Tw.2;unfold qz at this;dsimp only;rw[if_pos h0];split at this<;>rename_i hc
     .rw[if_pos hc];omega
     .rw[if_neg hc];omega
  .have hR':=UB h;subst hR';exact⟨N0,cq eH eH,yz⟩
 .rintro s ⟨n',hg,L3⟩;refine⟨_,hg,az ?_⟩;refine aV ?_;refine af (bJ (dE [(1,cT R.wsq,201),(2,R.re.map B,4)] ⟨rfl,acA oG rfl .map,trivial⟩ (l:=[(2,.sl (cT R.wsq) n),(3,.sl (R.re.map B) n)]) ⟨?_,?_,trivial⟩) (fH rfl rfl rfl))
  .show sub (cJ 2 (R.re.map B) (prog.cellsOf 4)) (sub (cJ 1 (cT R.wsq) (prog.cellsOf 201)) (D.rs 1 0 n))=_;rw[jR (by rw[rj,IY L3.mi,L3.lw]),adF]
  .show sub (cJ 2 (R.re.map B) (prog.cellsOf 4)) (sub (cJ 1 (cT R.wsq) (prog.cellsOf 201)) (D.rs 2 0 n))=_;rw[IZ oG,jR (by rw[c4,List.length_map,L3.lr,Nat.mul_one])]
end Go.Proofs.Tryz.K
namespace Go.Abs
def jc(r:Nat)(l:List D):D:=match l with
 |[]=>.z
 |_=>.rs r 0 l.length
theorem Da{r:Nat}{l:List D}(h:l≠[]):jc r l=.rs r 0 l.length:=by cases l with
 |nil=>exact absurd rfl h
 |cons=>rfl
def nM(ρ:Nat->Nat)(L:Nat->List D)(n:Nat):List D:=(range n).map fun i=>jc (ρ i) (L i)
@[simp] theorem amg (ρ : Nat -> Nat) (L : Nat -> List D) (n : Nat) : (nM ρ L n).length = n := by simp [nM]
theorem Qs{ρ:Nat->Nat}{L:Nat->List D}{n i:Nat}(hi:i<n):∃ cs,(nM ρ L n).drop i=jc (ρ i) (L i)::cs:=
 ⟨_,na (f:=fun i=>jc (ρ i) (L i)) (by simp[hi])⟩
theorem ZG{α:Type}{F:Nat->α}{n i:Nat}{x:α}:((range n).map F).set i x=(range n).map (up F i x):=by
 apply List.ext_getElem?;intro k;rw[List.getElem?_set];simp only[List.length_map,List.length_range,List.getElem?_map];split
 .rename_i e;subst e;split
  .rename_i h;simp[h,al]
  .rename_i h;simp[h]
 .rename_i e;by_cases hk:k<n
  .simp[hk,aB F x (Ne.symm e)]
  .simp[hk]
theorem acD{ρ:Nat->Nat}{L:Nat->List D}{n i r:Nat}{l:List D}(hl:l≠[]):(nM ρ L n).set i (.rs r 0 l.length)=nM (up ρ i r) (up L i l) n:=by
 unfold nM;rw[ZG];refine congrArg (fun F=>(range n).map F) (funext fun k=>?_);simp only[up];split
 .rw[Da hl]
 .rfl
structure jP(m:Mem)(nx j n:Nat)(e et:TypeId)(ρ:Nat->Nat)(L:Nat->List D):Prop where
 row:m j=some (.cells (nM ρ L n) e)
 zj:j<nx
 AY:∀ i,i<n->L i≠[]->m (ρ i)=some (.cells (L i) et)
 lt:∀ i,i<n->L i≠[]->ρ i<nx
 ne:∀ i,i<n->L i≠[]->ρ i≠j
 inj:∀ i k,i<n->k<n->L i≠[]->L k≠[]->ρ i=ρ k->i=k
theorem jP.ext{m m':Mem}{nx C j n:Nat}{e et:TypeId}{ρ:Nat->Nat}{L:Nat->List D}(h:jP m nx j n e et ρ L)(hm:∀ q,q<nx->m' q=m q)(hn:nx<=C):jP m' C j n e et ρ L:=
 ⟨(hm j h.zj).trans h.row,Nat.lt_of_lt_of_le h.zj hn,fun i hi hl=>(hm _ (h.lt i hi hl)).trans (h.AY i hi hl),fun i hi hl=>Nat.lt_of_lt_of_le (h.lt i hi hl) hn,h.ne,h.inj⟩
theorem jP.HS{m m':Mem}{nx ao j n i r:Nat}{e et:TypeId}{ρ:Nat->Nat}{L:Nat->List D}{l:List D}(h:jP m nx j n e et ρ L)(hi:i<n)(hl:l≠[])(hr:nx<=r)(js:r<ao)
 (hj:m' j=some (.cells ((nM ρ L n).set i (.rs r 0 l.length)) e)) (aq:m' r=some (.cells l et)) (hk:∀ q,q<nx->q≠j->(L i≠[]->q≠ρ i)->m' q=m q):jP m' ao j n e et (up ρ i r) (up L i l):=by
 have dw:=h.zj
 have old:∀ k,k<n->k≠i->L k≠[]->m' (ρ k)=some (.cells (L k) et):=fun k M J C=>
  (hk _ (h.lt k M C) (h.ne k M C) fun Lo e=>J (h.inj k i M hi C Lo e)).trans (h.AY k M C)
 refine⟨by rw[hj,acD hl],oG,fun k M C=>?_,fun k M C=>?_,fun k M C=>?_,fun a b ha hb zi py X=>?_⟩
 .by_cases J:k=i
  .subst J;rw[al,al];exact aq
  .rw[aB _ _ J] at C ⊢;rw[aB _ _ J];exact old k M J C
 .by_cases J:k=i
  .subst J;rw[al];exact js
  .rw[aB _ _ J] at C ⊢;have:=h.lt k M C;omega
 .by_cases J:k=i
  .subst J;rw[al];omega
  .rw[aB _ _ J] at C ⊢;exact h.ne k M C
 .by_cases D9:a=i
  .by_cases U:b=i
   .omega
   .subst D9;rw[al,aB _ _ U] at X;rw[aB _ _ U] at py;have:=h.lt b hb py;omega
  .by_cases U:b=i
   .subst U;rw[al,aB _ _ D9] at X;rw[aB _ _ D9] at zi;have:=h.lt a ha zi;omega
   .rw[aB _ _ D9] at zi X;rw[aB _ _ U] at py X;exact h.inj a b ha hb zi py X
theorem abl{m:Mem}{nx j n:Nat}{e et:TypeId}{ρ:Nat->Nat}(hj:j<nx)(hm:m j=some (.cells (replicate n .z) e)):jP m nx j n e et ρ (fun _=>[]):=by
 refine⟨?_,hj,fun _ _ h=>absurd rfl h,fun _ _ h=>absurd rfl h,fun _ _ h=>absurd rfl h,fun _ _ _ _ h=>absurd rfl h⟩;rw[hm];congr 2;unfold nM jc;rw[List.map_const',List.length_range]
theorem acE(n:Nat):dz n [.z]=replicate n D.z:=by
 unfold dz
 induction n with
 |zero=>rfl
 |succ n ih=>rw[List.replicate_succ,List.replicate_succ,List.flatten_cons,ih];rfl
def fJ(X:Nat->Prop)(d:D):Prop:=∀ i cs sz,X i->sub (cJ i cs sz) d=d
def lK(X:Nat->Prop)(r:Row):Prop:=∀ i cs sz,X i->Row.sub (cJ i cs sz) r=r
theorem fJ.s{X:Nat->Prop}(v:Value):fJ X (.s v):=fun _ _ _ _=>rfl
theorem fJ.sl{X:Nat->Prop}(es:List D)(n:Nat):fJ X (.sl es n):=fun _ _ _ _=>rfl
theorem fJ.z{X:Nat->Prop}:fJ X .z:=fun _ _ _ _=>rfl
theorem fJ.u{X:Nat->Prop}:fJ X .u:=fun _ _ _ _=>rfl
theorem fJ.rs{X:Nat->Prop}{j off n:Nat}(h:¬ X j):fJ X (.rs j off n):=fun i cs sz hi=>IZ fun e=>h (e▸hi)
theorem lK.cells{X:Nat->Prop}{cs:List D}{e:TypeId}(h:∀ d∈cs,fJ X d):lK X (.cells cs e):=fun i C sz hi=>by
 show Row.cells (cs.map _) e=_;congr 1
 induction cs with
 |nil=>rfl
 |cons d cs ih=>rw[List.map_cons,h d oS i C sz hi,ih fun d hd=>h d (by simp[hd])]
theorem lK.ajO{X:Nat->Prop}{cs:List D}{e:TypeId}(h:yx cs):lK X (.cells cs e):=lK.cells fun d hd=>by obtain⟨v,rfl⟩:=h d hd;exact .s v
theorem tG(d:D):Wk d d:=fun _ _ _ _ h=>h
theorem AV:Wk .z (.sl [] 0):=fun F β w v hv=>by
 obtain⟨x,rfl⟩:=hv.tY;exact .gg x 0
theorem Yg{X:Nat->Prop}{l:List (Nat×D)}(h:∀ x∈l,fJ X x.2)(t:Nat):fJ X (aA l t):=by
 induction l with
 |nil=>exact .u
 |cons x l ih=>
  obtain⟨k,d⟩:=x;simp only[aA];split
  .exact h (k,d) oS
  .exact ih fun y hy=>h y (by simp[hy])
theorem Yh{X:Nat->Prop}{l:List (Nat×Row)}(h:∀ x∈l,lK X x.2){q:Nat}{r:Row}(hq:bu l q=some r):lK X r:=by
 induction l with
 |nil=>simp[bu] at hq
 |cons x l ih=>
  obtain⟨k,d⟩:=x;simp only[bu] at hq;split at hq
  .cases hq;exact h (k,r) oS
  .exact ih (fun y hy=>h y (by simp[hy])) hq
theorem ZH{l:List (Nat×Row)}{q:Nat}(h:∀ x∈l,x.1≠q):bu l q=none:=by
 induction l with
 |nil=>rfl
 |cons x l ih=>
  obtain⟨k,d⟩:=x;simp only[bu];rw[if_neg fun e=>h (k,d) oS e.symm];exact ih fun y hy=>h y (by simp[hy])
section
variable{P:Program}
open Classical in
noncomputable def j0(ml:List (Nat×Row))(j n k:Nat)(e et:TypeId)(ρ:Nat->Nat)(L:Nat->List D):Mem:=fun q=>
 if q=j then some (.cells ((range n).map fun i=>if i<k then .sl (L i) (L i).length else jc (ρ i) (L i)) e)
 else if h:∃ i,k<=i/\i<n/\L i≠[]/\ρ i=q then some (.cells (L (Classical.choose h)) et)
 else bu ml q
theorem abm{m:Mem}{nx j n k:Nat}{e et:TypeId}{ρ:Nat->Nat}{L:Nat->List D}{l:List (Nat×D)}{ml:List (Nat×Row)}{X:Nat->Prop}(h:jP m nx j n e et ρ L)(hs:∀ i,yx (L i))(het:P.cellsOf et=1)
 (U:∀ i,i<n->L i≠[]->X (ρ i)) (wQ:¬ X j) (hl:∀ x∈l,fJ X x.2) (ig:∀ x∈ml,lK X x.2/\¬ X x.1) (hk:k<n):
 aL P ⟨aA l,j0 ml j n k e et ρ L,nx⟩ ⟨aA l,j0 ml j n (k+1) e et ρ L,nx⟩:=by
 by_cases C:L k=[]
 .refine .nD _ _ _ _ _ (fun t=>tG _) fun q=>?_;by_cases hq:q=j
  .subst hq;right;refine⟨_,_,e,by simp only[j0,if_true];rfl,by simp only[j0,if_true];rfl,oS,fun i d d' hd eZ=>?_⟩;simp only[List.getElem?_map,cU] at hd eZ;obtain⟨a,ha,rfl⟩:=hd;obtain⟨b,hb,rfl⟩:=eZ;rw[ha] at hb;cases hb;by_cases h1:a<k
   .rw[if_pos h1,if_pos oG];exact tG _
   .rw[if_neg h1];by_cases h2:a=k
    .subst h2;rw[if_pos oG,C];exact AV
    .rw[if_neg oG];exact tG _
  .left;simp only[j0,if_neg hq]
   have:(∃ i,k+1<=i/\i<n/\L i≠[]/\ρ i=q)↔(∃ i,k<=i/\i<n/\L i≠[]/\ρ i=q):=by
    constructor
    .rintro⟨i,h1,h2⟩;exact⟨i,oG,h2⟩
    .rintro⟨i,h1,h2,J,M⟩
     exact⟨i,by
      rcases Nat.lt_or_ge k i with g|g
      .exact g
      .have:i=k:=by omega
       subst this;exact absurd C J,h2,J,M⟩
   by_cases hc:∃ i,k<=i/\i<n/\L i≠[]/\ρ i=q
   .rw[dif_pos (this.2 hc),dif_pos hc];have e1:=Classical.choose_spec hc;have e2:=Classical.choose_spec (this.2 hc);have:Classical.choose (this.2 hc)=Classical.choose hc:=h.inj _ _ e2.2.1 e1.2.1 e2.2.2.1 e1.2.2.1 (e2.2.2.2.trans e1.2.2.2.symm);rw[this]
   .rw[dif_neg (fun h=>hc (this.1 h)),dif_neg hc]
 .have VG:ρ k≠j:=h.ne k hk C
  have aq:j0 ml j n k e et ρ L (ρ k)=some (.cells (L k) et):=by
   have hc:∃ i,k<=i/\i<n/\L i≠[]/\ρ i=ρ k:=⟨k,bc _,hk,C,rfl⟩
   simp only[j0,if_neg VG,dif_pos hc];have e1:=Classical.choose_spec hc;have:Classical.choose hc=k:=h.inj _ _ e1.2.1 hk e1.2.2.1 C e1.2.2.2;rw[this]
  have hg:=aL.freeze (P:=P) (aA l) (j0 ml j n k e et ρ L) nx (ρ k) (L k) et aq;have e1:(fun t=>sub (cJ (ρ k) (L k) (P.cellsOf et)) (aA l t))=aA l:=funext fun t=>Yg hl t _ _ _ (U k hk C)
  have e2:(fun q=>if q=ρ k then none else(j0 ml j n k e et ρ L q).map (Row.sub (cJ (ρ k) (L k) (P.cellsOf et))))=j0 ml j n (k+1) e et ρ L:=by
   funext q;by_cases Ek:q=ρ k
   .subst Ek;rw[if_pos rfl]
    have hc:¬ ∃ i,k+1<=i/\i<n/\L i≠[]/\ρ i=ρ k:=by
     rintro⟨i,g1,g2,g3,g4⟩;have:=h.inj _ _ g2 hk g3 C g4;omega
    simp only[j0,if_neg VG,dif_neg hc];exact(ZH fun x hx e=>(ig x hx).2 (e▸U k hk C)).symm
   .rw[if_neg Ek];by_cases uT:q=j
    .subst uT;simp only[j0,if_true,Option.map_some];congr 1;show Row.cells (List.map _ (List.map _ _)) e=_;rw[List.map_map];congr 1;refine List.map_congr_left fun i hi=>?_;have dq:i<n:=by simpa using hi
     simp only[Function.comp_apply];by_cases h1:i<k
     .rw[if_pos h1,if_pos oG];rfl
     .rw[if_neg h1];by_cases h2:i=k
      .subst h2;rw[if_pos oG,Da C,het];exact jR oG
      .rw[if_neg oG];by_cases J:L i=[]
       .rw[J];rfl
       .rw[Da J];exact IZ fun e=>h2 (h.inj _ _ dq hk J C e)
    .simp only[j0,if_neg uT]
     have this:(∃ i,k+1<=i/\i<n/\L i≠[]/\ρ i=q)↔(∃ i,k<=i/\i<n/\L i≠[]/\ρ i=q):=by
      constructor
      .rintro⟨i,h1,h2⟩;exact⟨i,oG,h2⟩
      .rintro⟨i,h1,h2,J,M⟩
       exact⟨i,by
        rcases Nat.lt_or_ge k i with g|g
        .exact g
        .have:i=k:=by omega
         subst this;exact absurd M.symm Ek,h2,J,M⟩
     by_cases hc:∃ i,k<=i/\i<n/\L i≠[]/\ρ i=q
     .rw[dif_pos (this.2 hc),dif_pos hc];have e1:=Classical.choose_spec hc;have e2:=Classical.choose_spec (this.2 hc);have:Classical.choose (this.2 hc)=Classical.choose hc:=h.inj _ _ e2.2.1 e1.2.1 e2.2.2.1 e1.2.2.1 (e2.2.2.2.trans e1.2.2.2.symm);rw[this];exact congrArg some (lK.ajO (X:=X) (hs _) _ _ _ (U k hk C))
     .rw[dif_neg (fun h=>hc (this.1 h)),dif_neg hc];cases hm:bu ml q with
      |none=>rfl
      |some r=>exact congrArg some (Yh (fun x hx=>(ig x hx).1) hm _ _ _ (U k hk C))
  rw[e1,e2] at hg;exact hg
theorem Pp{env:Env}{m:Mem}{nx j n:Nat}{e et:TypeId}{ρ:Nat->Nat}{L:Nat->List D}{l:List (Nat×D)}{ml:List (Nat×Row)}(X:Nat->Prop)(h:jP m nx j n e et ρ L)(hs:∀ i,yx (L i))(C:P.cellsOf et=1)
 (J:∀ i,i<n->L i≠[]->X (ρ i)) (U:¬ X j) (he:kV l env) (hl:∀ x∈l,fJ X x.2) (hm:CD ml m) (M:∀ x∈ml,lK X x.2/\¬ X x.1):
 aL P ⟨env,m,nx⟩ ⟨aA l,bu ((j,.cells ((range n).map fun i=>.sl (L i) (L i).length) e)::ml),nx⟩:=by
 have key:∀ k,k<=n->aL P ⟨aA l,j0 ml j n 0 e et ρ L,nx⟩ ⟨aA l,j0 ml j n k e et ρ L,nx⟩:=fun k=>by
  induction k with
  |zero=>exact fun _=>.refl _
  |succ k ih=>exact fun hk=>(ih oG).trans (abm h hs C J U hl M oG)
 have h0:aL P ⟨env,m,nx⟩ ⟨aA l,j0 ml j n 0 e et ρ L,nx⟩:=by
  refine(aL.forget env _ m nx (pD he)).trans (.drop _ _ _ _ fun q=>?_);by_cases hq:q=j
  .subst hq;left;simp only[j0,if_true,Nat.not_lt_zero,if_false];exact h.row.symm
  .simp only[j0,if_neg hq];by_cases hc:∃ i,0<=i/\i<n/\L i≠[]/\ρ i=q
   .rw[dif_pos hc];have e1:=Classical.choose_spec hc;left;have:=h.AY _ e1.2.1 e1.2.2.1;rw[e1.2.2.2] at this;exact this.symm
   .rw[dif_neg hc];exact JN hm q
 refine h0.trans ((key n (bc _)).trans (.drop _ _ _ _ fun q=>.inl ?_));by_cases hq:q=j
 .subst hq;simp only[bu,j0,if_true];congr 2;exact List.map_congr_left fun i hi=>by rw[if_pos (by simpa using hi)]
 .simp only[bu,if_neg hq,j0];rw[dif_neg];rintro⟨i,g1,g2,_⟩;omega
end
section
variable{P:Program}{env:Env}{m:Mem}{nx:Nat}{x y:Operand}{t e:TypeId}{k:IntKind}
theorem QB{w:List Int}{rest:List D}{sz:Nat}(h:w.length=sz):(w.map cP++rest).take sz=w.map cP:=by
 rw[List.take_append_of_le_length (by simp[h]),dv (by simp[h])]
theorem Ss{sz n i:Nat}{l:List (List Int)}{w:List Int}(hx:(opd env x).core=.sl (cT l) n)(hy:(opd env y).core=.s (.int k i))(he:aF P t=e)(hs:P.cellsOf e=sz)(hl:∀ w∈l,w.length=sz)(hz:l[i]? =some w):
 Ef P (.indexAddr t x y) env m nx ⟨bg P t=true/\0<=(i:Int)/\(i:Int)<n/\((i:Int).toNat+1)*sz<=(cT l).length,.pt (w.map cP++cT (l.drop (i+1))),[],[],0⟩:=
 KH hx hy he hs (by rw[iv];exact JW hl hz)
theorem Su{sz n i:Nat}{l:List (List Int)}{w:List Int}(ht:bg P t=true)(hl:∀ w∈l,w.length=sz)(hz:l[i]? =some w)(hn:i<n):bg P t=true/\0<=(i:Int)/\(i:Int)<n/\((i:Int).toNat+1)*sz<=(cT l).length:=by
 have:=xW hl hz;refine⟨ht,oG,oG,?_⟩;rw[iv,Nat.add_mul,Nat.one_mul];exact this
theorem fv{i:Nat}{cs:List D}{l:List (Nat×D)}(hm:m i=some (.cells cs e))(hl:kV l fun t=>sub (cJ i cs (P.cellsOf e)) (env t)):aL P ⟨env,m,nx⟩ ⟨aA l,fun _=>none,nx⟩:=
 dE [(i,cs,e)] ⟨hm,trivial⟩ hl
theorem fR{l:List (Nat×D)}(hl:kV l env):aL P ⟨env,m,nx⟩ ⟨aA l,fun _=>none,nx⟩:=QC hl fun _=>.inr rfl
end
section
variable{P:Program}{env:Env}{m:Mem}{nx:Nat}{x y:Operand}{t e:TypeId}{k:IntKind}
theorem abp{α:Type}{f:α->D}{l:List α}{b:Int}(hx:(opd env x).core=.sl (l.map f) l.length)(he:aF P t=e)(hs:P.cellsOf e=1)(hb:(opd env y).core=.s (.int .i64 b))(hc:bg P t=true)(C:0<=b/\b<=l.length):
 Ef P (.slice t x none (some y) none) env m nx ⟨True,.sl ((l.take b.toNat).map f) (l.take b.toNat).length,[],[],0⟩:=by
 have h:=JB (P:=P) (env:=env) (m:=m) (nx:=nx) (t:=t) (lo:=none) (hi:=some y) (a:=0) (b:=b) (es':=(l.take b.toNat).map f) hx he hs (by simp[dX]) (by simp[dX,hb,D.int?]) (by simp[List.map_take])
 have h2:(bg P t=true/\(0:Int)<=0/\(0:Int)<=b/\b<=(l.length:Int))=True:=by
  apply propext;constructor
  .exact fun _=>trivial
  .exact fun _=>⟨hc,oG,C.1,C.2⟩
 have J:(b - 0).toNat=(l.take b.toNat).length:=by rw[List.length_take];omega
 rw[h2,J] at h;exact h
theorem E3{i j sz:Nat}{C:List D}{r:Row}(J:j≠i)(hm:m j=some r)(h:Row.sub (cJ i C sz) r=r):(if j=i then none else(m j).map (Row.sub (cJ i C sz)))=some r:=by
 rw[if_neg J,hm];exact congrArg some h
theorem qG{i:Nat}{cs:List D}{l:List (Nat×D)}{ml:List (Nat×Row)}(hm:m i=some (.cells cs e))(hl:kV l fun t=>sub (cJ i cs (P.cellsOf e)) (env t))(C:CD ml fun j=>if j=i then none else(m j).map (Row.sub (cJ i cs (P.cellsOf e)))):aL P ⟨env,m,nx⟩ ⟨aA l,bu ml,nx⟩:=
 (aL.freeze env m nx i cs e hm).trans (cq hl C)
end
end Go.Abs
namespace Go.Argus
open Go.Proofs.Tryz.K (nextR)
def jC(b:Nat)(L:Nat->List Int)(t:Int):Nat->List Int:=up L t.toNat (L t.toNat++[(b:Int)])
def pM(bs:List bI)(L:Nat->List Int)(b:Nat):Nat->List Int:=match bs[b]? with
 |none=>L
 |some x=>(nextR x.fin).foldl (jC b) L
def df(bs:List bI)(k:Nat):Nat->List Int:=(range k).foldl (pM bs) fun _=>[]
def kX(bs:List bI):List (List Int):=(range bs.length).map (df bs bs.length)
def bT(L:List (List Int)):D:=.sl (L.map aQ) L.length
theorem qL(L:List (List Int)):Tr (bT L):=.sl (.map fun _=>c6 _)
theorem Qt{F:Nat->List Int}{n:Nat}:(D.sl ((range n).map fun i=>.sl ((F i).map I) ((F i).map I).length) n)=bT ((range n).map F):=by
 unfold bT;rw[List.map_map,List.length_map,List.length_range];congr 1;exact List.map_congr_left fun i _=>by simp[aQ]
theorem OV{b:Nat}{L:Nat->List Int}{t:Int}{c:Nat}(h:∀ i,(L i).length<=c):∀ i,(jC b L t i).length<=c+1:=fun i=>by
 unfold jC;simp only[up];split
 .have:=h t.toNat;simp;omega
 .have:=h i;omega
theorem adG{L:Nat->List Int}{k:Nat}{l:List Int}:(fun i=>(up L k l i).map I)=up (fun i=>(L i).map I) k (l.map I):=by
 funext i;simp only[up];split<;>rfl
theorem qC{P:Nat->Bool}{n k:Nat}(hk:k<n)(h:P k=false):(range n).all P=false:=by
 refine Bool.eq_false_iff.2 fun ht=>?_;have:=bV.1 ht k (by simpa using hk);rw[h] at this;cases this
theorem oV{P:Nat->Bool}{k:Nat}(h:(range k).all P=true)(hk:P k=true):(range (k+1)).all P=true:=by
 rw[List.range_succ,List.all_append,h];simp[hk]
abbrev rS(l:List Bool):D:=.sl (l.map B) l.length
def k8:bI:=⟨[],⟨0,0,0,0,0,.empty,xF,[],[],0⟩⟩
def tL(bs:List bI)(s:CS)(b:Nat)(y:cV)(i:Nat):Bool:=
 let p:=((df bs bs.length b).getD i 0).toNat
 !(s.re.getD p false)||p9 (iq (bs.getD p k8).fin b (mq (bs.getD p k8) (s.wsq.getD p [])).1) (y.args.getD i 0).toNat
def uj(bs:List bI)(s:CS)(b:Nat)(y:cV):Bool:=(range (df bs bs.length b).length).all (tL bs s b y)
def ky(y:cV):Bool:=y.op==19
def rT(bs:List bI)(s:CS)(b:Nat):Bool:=
 !(s.re.getD b false)||((mq (bs.getD b k8) (s.wsq.getD b [])).2&&((bs.getD b k8).ins.takeWhile ky).all (uj bs s b))
def tA(bs:List bI)(args:Nat):Bool:=(range bs.length).all (rT bs (pf bs args))
theorem takeWhile_eq{α:Type}{p:α->Bool}{l:List α}{j:Nat}(h:∀ y∈l.take j,p y=true)(h':∀ y,l[j]? =some y->p y=false):l.takeWhile p=l.take j:=by
 induction l generalizing j with
 |nil=>simp
 |cons a l ih=>cases j with
  |zero=>have:=h' a rfl;simp[this]
  |succ j=>
   have ha:=h a oS;rw[List.takeWhile_cons,if_pos ha,List.take_succ_cons,ih (j:=j) (fun y hy=>h y (by simp[hy])) (fun y hy=>h' y (by simpa using hy))]
theorem OW{b:Nat}{p:Int}:∀ {l:List Int} {L:Nat->List Int} {i:Nat},p∈(l.foldl (jC b) L) i↔p∈L i\/(p=b/\∃ t∈l,t.toNat=i)
 |[],L,i=>by simp
 |t::l,L,i=>by
  rw[List.foldl_cons,OW (l:=l)];unfold jC;simp only[up];by_cases h:i=t.toNat
  .subst h;simp only[if_true,List.mem_append,List.mem_singleton];constructor
   .rintro((h|h)|⟨h,u,h1,h2⟩)
    .exact .inl h
    .exact .inr ⟨h,t,oS,rfl⟩
    .exact .inr ⟨h,u,by simp[h1],h2⟩
   .rintro(h|⟨h,u,h1,h2⟩)
    .exact .inl (.inl h)
    .exact .inl (.inr h)
  .rw[if_neg h];constructor
   .rintro(h'|⟨h',u,h1,h2⟩)
    .exact .inl h'
    .exact .inr ⟨h',u,by simp[h1],h2⟩
   .rintro(h'|⟨h',u,h1,h2⟩)
    .exact .inl h'
    .rcases List.mem_cons.1 h1 with e|e
     .subst e;exact absurd h2.symm h
     .exact .inr ⟨h',u,e,h2⟩
theorem IC{bs:List bI}{p:Int}{i:Nat}:∀ {k:Nat},p∈df bs k i↔∃ b:Nat,p=b/\b<k/\∃ x,bs[b]? =some x/\∃ t∈nextR x.fin,t.toNat=i
 |0=>by simp[df]
 |k+1=>by
  have ih:=IC (bs:=bs) (p:=p) (i:=i) (k:=k);have e:df bs (k+1)=pM bs (df bs k) k:=by rw[df,List.range_succ,List.foldl_append];rfl
  rw[e,pM];cases hx:bs[k]? with
  |none=>
   simp only;rw[ih];constructor
   .rintro⟨b,h1,h2,C⟩;exact⟨b,h1,oG,C⟩
   .rintro⟨b,h1,h2,x,C,J⟩;refine⟨b,h1,?_,x,C,J⟩;rcases Nat.lt_or_ge b k with g|g
    .exact g
    .have:b=k:=by omega
     subst this;rw[hx] at C;cases C
  |some x=>
   simp only;rw[OW,ih];constructor
   .rintro(⟨b,h1,h2,C⟩|⟨h1,h2⟩)
    .exact⟨b,h1,oG,C⟩
    .exact⟨k,h1,oG,x,hx,h2⟩
   .rintro⟨b,h1,h2,M,C,J⟩;rcases Nat.lt_or_ge b k with g|g
    .exact .inl ⟨b,h1,g,M,C,J⟩
    .have:b=k:=by omega
     subst this;rw[hx] at C;cases C;exact .inr ⟨h1,J⟩
theorem Oj{bs:List bI}{n:Nat}(hb:∀ b∈bs,yf n b):∀ (k:Nat) {s:CS},l9 n s->l9 n (qN bs k s)
 |0,_,h=>h
 |k+1,s,h=>by
  rw[qN];split
  .exact Oj hb k (Im hb h).1
  .exact(Im hb h).1
theorem abn{bs:List bI}{args:Nat}(hb:∀ b∈bs,yf bs.length b)(C:∀ u∈lS args,kE u):l9 bs.length (pf bs args):=Oj hb _ (Oi C)
theorem Px{b:Nat}:∀ {l:List Int} {L:Nat->List Int} {c:Nat},(∀ i,(L i).length<=c)->∀ i,((l.foldl (jC b) L) i).length<=c+l.length
 |[],_,_,h,i=>h i
 |t::l,L,c,h,i=>by
  have:=Px (b:=b) (l:=l) (OV (t:=t) (b:=b) h) i;rw[List.foldl_cons,List.length_cons];omega
theorem OX{bs:List bI}(C:∀ b∈bs,b.fin.aU.length<=9):∀ (k i:Nat),(df bs k i).length<=12*k
 |0,_=>by simp[df]
 |k+1,i=>by
  have ih:=OX C k;have e:df bs (k+1)=pM bs (df bs k) k:=by rw[df,List.range_succ,List.foldl_append];rfl
  rw[e,pM];cases hx:bs[k]? with
  |none=>have:=ih i;simp only;omega
  |some x=>
   have h1:=Px (l:=nextR x.fin) (b:=k) ih i;have h2:=I0 x.fin;have J:=C x (bz hx);simp only;omega
theorem OY{bs:List bI}{n k:Nat}(hn:bs.length=n)(hk:k<n):(kX bs)[k]? =some (df bs n k):=by
 subst hn;simp[kX,hk]
def vi(f:au):Bool:=decide (f.result=1)||(decide (f.result=2)||(decide (f.result=0)&& !f.iter))
def tM(f:au):Bool:=
 n9 f.name&&(jw f.args 0 (if(f.aW.length:Int)<6 then(f.aW.length:Int) else 6)&&(vi f&&(!decide ((1200:Int)<f.aW.length)&&(!decide ((60:Int)<f.cr.length)&&jw f.blocks.length 1 1200))))
def xq(f:au):Bool:=
 tK f.aW 3&&(tK (f.aW.take f.args.toNat) 2&&(tK f.cr 2&&(!decide ((6:Int)<f.signals.length)&& !f.signals.any fun s=> !isName s)))
def vq(l:List ByteArray)(i:Nat):Bool:=Op.bytesLess (l.getD i .empty).toList (l.getD (i+1) .empty).toList
def JY(f:au):Bool:=(range (f.signals.length - 1)).all (vq f.signals)
def o2(bs:List bI)(k:Nat):List Int:=((bs.take k).filter fun x=>x.fin.kind==7).map fun x=>x.fin.a
def lF(f:au)(k:Nat):Bool:=
 let x:=f.blocks.getD k k8
 ji f x.fin&&(!decide ((200:Int)<x.ins.length)&& !(x.fin.kind==7&&(o2 f.blocks k).any (·==x.fin.a)))
def qO(f:au)(b:Nat)(l:List cV)(j:Nat):Bool:=kY f b (l.getD j xF) ((l.take (j+1)).all ky) (df f.blocks f.blocks.length b).length
def tB(f:au)(b:Nat):Bool:=(range (f.blocks.getD b k8).ins.length).all (qO f b (f.blocks.getD b k8).ins)
def ni(f:au):Bool:=
 tM f&&(xq f&&(JY f&&((range f.blocks.length).all (lF f)&&(range f.blocks.length).all (tB f))))
def fi(f:au):Int:=if ni f=true then(if tA f.blocks f.args.toNat=true then 0 else 81) else 80
def jn(l:List Int)(r:Int):Prop:=0<=r/\r<l.length
theorem ki{l:List Int}{r:Int}(h:dx l r≠0):jn l r:=Classical.byContradiction fun hn=>h (Py hn)
theorem rU{l:List Int}{r:Int}(h:oa l r=true):jn l r:=by
 refine ki fun e=>?_;simp[oa,e] at h
theorem tx{l rs:List Int}(h:qR l rs=true):∀ r∈rs,jn l r:=fun r hr=>rU (bV.1 h r hr)
theorem E'{l:List Int}{r want of:Int}(h:o7 l r want of=true)(C:want≠0):jn l r:=by
 unfold o7 at h;rw[if_neg C] at h;split at h
 .refine ki fun e=>?_;simp[e] at h
 .split at h
  .refine ki fun e=>?_;simp[e] at h
  .split at h
   .exact rU h
   .refine ki fun e=>?_;simp[e] at h
structure UF(l:List Int)(x:cV)(s:Shape):Prop where
 to:s.to≠0->jn l x.to
 a:s.a≠0->jn l x.a
 b:s.b≠0->jn l x.b
 args:s.args=5\/s.args=6->x.args.length<=6/\∀ r∈x.args,jn l r
theorem I1{l:List Int}{x:cV}{s:Shape}(h:vr l x s=true):UF l x s:=by
 unfold vr at h;simp only[ba] at h;obtain⟨h1,h2,J,C,_⟩:=h;refine⟨E' h1,E' h2,E' J,fun hs=>?_⟩;unfold wZ at C;rcases hs with hs|hs
 .rw[if_pos hs,ba] at C;have:=kP.1 C.1;exact⟨oG,tx C.2⟩
 .rw[if_neg oG,if_pos hs,ba] at C;have:(x.args.length:Int)=1:=by simpa using C.1
  exact⟨oG,tx C.2⟩
theorem BQ{l:List (Int×Shape)}{op:Int}{s:Shape}(h:jA l op=some s):(op,s)∈l:=by
 unfold jA at h;rw[cU] at h;obtain⟨⟨o,s'⟩,h1,rfl⟩:=h;have h2:=List.find?_some h1;have C:=List.mem_of_find?_eq_some h1;have:o=op:=by simpa using h2
 subst this;exact C
theorem Io{l:List Int}{x:cV}{s:Shape}(hl:l.length<=1200)(hm:(x.op,s)∈oc\/(x.op,s)∈np)(h:UF l x s):pY x:=by
 obtain⟨h1,h2,M,J⟩:=h;unfold jn at h1 h2 M J;have hr:∀ {r:Int},0<=r/\r<l.length->0<=r/\r<1200:=fun h=>by omega
 have U:∀ {r:Int},0<=r/\r<l.length-> -1000000<=r/\r<1200:=fun h=>by omega
 obtain⟨op,to,a,b,n,args⟩:=x;dsimp only at h1 h2 M J hm;simp only[oc,np,List.mem_cons,bP,List.not_mem_nil,or_false] at hm;rcases hm with hm|hm
 .rcases hm with hm|hm|hm|hm|hm|hm|hm|hm|hm|hm|hm|hm|hm|hm|hm<;>obtain⟨rfl,rfl⟩:=hm<;>refine⟨fun r C=>?_,fun h=>?_,?_,fun h=>?_⟩<;>
   simp_all[ea,ke,bO,tN,xr,tC,xf]<;>first|omega|(rcases C with rfl|rfl<;>omega)|(have:=J.2 r C;omega)
 .rcases hm with hm|hm|hm|hm|hm|hm|hm|hm|hm<;>obtain⟨rfl,rfl⟩:=hm<;>refine⟨fun r C=>?_,fun h=>?_,?_,fun h=>?_⟩<;>
   simp_all[ea,ke,bO,tN,xr,tC,xf]<;>first|omega|(rcases C with rfl|rfl<;>omega)|(rcases C with rfl|rfl|C<;>first|omega|(have:=J.2 r C;omega))
theorem gQ{a b:Int}:dm a b=true↔a=b:=by simp[dm]
theorem Ft{l cr:List Int}{r n:Int}(hs:∀ k∈cr,k≠0)(h:yg l cr r n=true):jn l r/\0<=n/\n<cr.length:=by
 unfold yg at h;rw[ba,kP] at h;obtain⟨⟨h1,h2⟩,C⟩:=h
 have J:dx cr n≠0:=by
  obtain⟨k,rfl⟩:=iQ h1;have hk:k<cr.length:=by omega
  rw[Js (a8 hk)];exact hs _ (gi hk)
 refine⟨ki ?_,h1,oG⟩;rw[show dx l r=dx cr n by simpa using C];exact J
theorem Ol{f:au}{b ahead:Int}{x:cV}{phis:Bool}(hl:f.aW.length<=1200)(hs:∀ k∈f.cr,k≠0)(mQ:f.cr.length<=60)(h:kY f b x phis ahead=true):
 pY x/\(x.op=19->(x.args.length:Int)=ahead/\phis=true/\0<b/\jn f.aW x.to/\∀ r∈x.args,dx f.aW r=dx f.aW x.to/\jn f.aW r):=by
 unfold kY at h;split at h
 .rename_i J;simp only[ba,gQ] at h;have hr:=ki (l:=f.aW) (r:=x.a) oG;unfold jn at hr;refine⟨⟨fun r h'=>?_,fun h'=>by omega,?_,fun h'=>by omega⟩,fun h'=>by omega⟩
  .simp[ea,bO,tN,J] at h';omega
  .simp[ke,bO,tC,xf,J]
 .rename_i J;split at h
  .rename_i U;simp only[ba,gQ] at h;obtain⟨h1,h2,h3⟩:=Ft hs h.2.2.2;unfold jn at h1;refine⟨⟨fun r h'=>?_,fun h'=>by omega,?_,fun h'=>by omega⟩,fun h'=>by omega⟩
   .simp[ea,bO,tN,xr,U] at h'
   .simp[ke,bO,tC,U];omega
  .rename_i U;split at h
   .rename_i M;simp only[ba,gQ] at h;obtain⟨h1,h2,h3⟩:=Ft hs h.2.2.2;unfold jn at h1;refine⟨⟨fun r h'=>?_,fun h'=>by omega,?_,fun h'=>by omega⟩,fun h'=>by omega⟩
    .simp[ea,bO,tN,M] at h';omega
    .simp[ke,bO,tC,xf,M]
   .rename_i M;split at h
    .rename_i C;simp only[ba,gQ,decide_eq_true_eq] at h;obtain⟨g1,g2,X,g4,g5,g6,g7,g8⟩:=h;have hr:=rU X;have hk:dx f.aW x.to≠0:=fun e=>by simp[oa,e] at X
     refine⟨⟨fun r h'=>?_,fun h'=>by omega,?_,fun h'=>by omega⟩,fun _=>⟨g7,g1,g2,hr,fun r js=>?_⟩⟩
     .simp[ea,bO,tN,xr,C] at h'
     .unfold jn at hr;simp[ke,bO,tC,C];omega
     .have:dm (dx f.aW r) (dx f.aW x.to)=true:=by
       simp only[Bool.not_eq_true',List.any_eq_false] at g8;simpa using g8 r js
      rw[gQ] at this;exact⟨this,ki (by rw[this];exact hk)⟩
    .rename_i C;rw[ba] at h;cases hs:jA oc x.op with
     |none=>rw[hs] at h;simp at h
     |some s=>
      rw[hs] at h;exact⟨Io hl (.inl (BQ hs)) (I1 h.2),fun h'=>absurd h' C⟩
structure GU(f:au)(x:End):Prop where
 fin:Df x
 wh:x.aU.length<=7
 to:∀ t∈eu x,0<=t/\t<f.blocks.length
theorem EC{f:au}{x:End}(h:n2 f x=true):x.aU.length<=7/\(∀ w∈x.aU,0<=w.to/\w.to<f.blocks.length)/\(0<=x.others->x.others<f.blocks.length):=by
 unfold n2 at h;rw[ba,ba] at h;obtain⟨h1,h2,C⟩:=h;have h2:(x.aU.length:Int)<=7:=by simpa using h2
 refine⟨oG,fun w J=>?_,fun h0=>?_⟩
 .obtain⟨i,hi⟩:=ep J;have hm:(w,i)∈x.aU.zipIdx:=List.mem_zipIdx_iff_getElem?.2 hi;have:=bV.1 h1 _ hm;simp only[q7,ba,ei,kP] at this;omega
 .rw[Bool.or_eq_true] at C;rcases C with C|C
  .have:x.others= -1:=by simpa using C
   omega
  .rw[ei,kP] at C;omega
theorem acF{x:End}(h:vV x=true):x.kind=0/\x.a=0/\x.b=0/\x.to=0/\x.gN=0/\x.others= -1/\x.args.length=0/\x.aU.length=0:=by
 simp only[vV,ba,decide_eq_true_eq] at h;omega
theorem QD{f:au}{x:End}(hl:f.aW.length<=1200)(hr:vi f=true)(h:ji f x=true):GU f x:=by
 have kF:∀ {r:Int},jn f.aW r->0<=r/\r<1200:=fun h=>by unfold jn at h;omega
 unfold ji at h;rw[ba] at h;obtain⟨h,hb⟩:=h;have hb:=acF hb;have U:∀ {t:Int},ei f t=true->0<=t/\t<f.blocks.length:=fun h=>by rw[ei,kP] at h;omega
 obtain⟨kind,a,b,to,gN,name,ins,args,aU,others⟩:=x;simp only[eJ] at h hb;by_cases h1:kind=1
 .subst h1;simp only[if_true] at h hb;have J:=U h;have C:aU=[]:=List.length_eq_zero_iff.1 hb.2.2.2.2.2.2.2;subst C;refine⟨⟨fun r h'=>?_,?_,oS,oS,oS⟩,oS,fun t ht=>?_⟩
  .simp[dU,bO] at h'
  .simp[jS,bO]
  .simp[eu,mU,bO] at ht;subst ht;exact J
 by_cases h2:kind=2
 .subst h2;simp only[Int.reduceEq,if_false,if_true,ba,gQ] at h hb;have C:aU=[]:=List.length_eq_zero_iff.1 hb.2.2.2.2.2.2.2;subst C;have BJ:=kF (ki (l:=f.aW) (r:=a) oG);have J:=U h.2.1;have ta:=U h.2.2;refine⟨⟨fun r h'=>?_,?_,oS,oS,oS⟩,oS,fun t ht=>?_⟩
  .simp[dU,bO] at h';subst h';exact BJ
  .simp[jS,bO]
  .simp[eu,mU,bO] at ht;rcases ht with rfl|rfl
   .exact J
   .exact ta
 by_cases h3:kind=3
 .subst h3;simp only[Int.reduceEq,if_false,if_true] at h hb;have C:aU=[]:=List.length_eq_zero_iff.1 hb.2.2.2.2.2.2.2;subst C;refine⟨⟨fun r h'=>?_,?_,oS,oS,oS⟩,oS,fun t ht=>?_⟩
  .simp[dU,bO] at h';obtain⟨h1,rfl⟩:=h';split at h
   .rename_i hc;rw[gQ] at h;exact kF (ki (by rw[h];exact hc.1))
   .rw[gQ] at h;exact absurd h h1
  .simp[jS,bO]
  .simp[eu,bO] at ht
 by_cases h4:kind=4
 .subst h4;simp only[Int.reduceEq,if_false,if_true] at h hb;have C:aU=[]:=List.length_eq_zero_iff.1 hb.2.2.2.2.2.2.2;subst C;refine⟨⟨fun r h'=>?_,?_,oS,oS,oS⟩,oS,fun t ht=>?_⟩
  .simp[dU,bO] at h'
  .simp[jS,bO]
  .simp[eu,bO] at ht
 by_cases h5:kind=5
 .subst h5;simp only[Int.reduceEq,if_false,if_true,ba] at h hb;obtain⟨g1,g2,X,M⟩:=h;obtain⟨wU,El,Em⟩:=EC M;have J:=U X
  have hi:pY ins:=by
   cases hs:jA np ins.op with
   |none=>rw[hs] at g1;simp at g1
   |some s=>rw[hs] at g2;exact Io hl (.inr (BQ hs)) (I1 g2)
  refine⟨⟨fun r h'=>?_,?_,?_,fun _=>hi.ar,oS⟩,wU,fun t ht=>?_⟩
  .simp[dU,bO] at h';exact hi.rd r h'
  .simp only[jS,if_true];exact hi.wr
  .dsimp only at wU ⊢;omega
  .simp[eu,mU,bO] at ht;rcases ht with rfl|⟨w,C,rfl⟩|⟨h0,rfl⟩
   .exact J
   .exact El w C
   .exact⟨h0,Em h0⟩
 by_cases h6:kind=6
 .subst h6;simp only[Int.reduceEq,if_false,if_true,ba,Bool.or_eq_true,gQ,decide_eq_true_eq] at h hb;obtain⟨g1,g2,X,M,g5,g6⟩:=h;obtain⟨wU,El,Em⟩:=EC g6;have J:=U g5;have hv:=tx X;refine⟨⟨fun r h'=>?_,?_,?_,oS,fun _=>?_⟩,wU,fun t ht=>?_⟩
  .simp[dU,bO] at h';exact kF (hv r h')
  .simp only[jS,bO];rcases M with M|M
   .simp[M]
   .have:=kF (rU M);simp;omega
  .dsimp only at wU ⊢;omega
  .dsimp only;omega
  .simp[eu,mU,bO] at ht;rcases ht with rfl|⟨w,C,rfl⟩|⟨h0,rfl⟩
   .exact J
   .exact El w C
   .exact⟨h0,Em h0⟩
 by_cases h7:kind=7
 .subst h7;simp only[Int.reduceEq,if_false,if_true,ba,gQ,decide_eq_true_eq] at h hb;obtain⟨g1,g2,X,M,g5⟩:=h;have C:aU=[]:=List.length_eq_zero_iff.1 hb.2.2.2.2.2.2.2;subst C;have J:=U g5;have hv:=tx X;have BJ:=kF (ki (l:=f.aW) (r:=a) oG);refine⟨⟨fun r h'=>?_,?_,oS,oS,fun _=>?_⟩,oS,fun t ht=>?_⟩
  .simp[dU,bO] at h';exact kF (hv r h')
  .simp only[jS,bO];simp;omega
  .dsimp only;omega
  .simp[eu,mU,bO] at ht;subst ht;exact J
 by_cases h8:kind=8
 .subst h8;simp only[Int.reduceEq,if_false,if_true,ba,gQ] at h hb;obtain⟨g1,g2,X,M,g5⟩:=h;obtain⟨wU,El,Em⟩:=EC g5;have J:=U X;have ta:=U M;have BJ:=kF (ki (l:=f.aW) (r:=a) oG);have hrb:=kF (rU g2);refine⟨⟨fun r h'=>?_,?_,?_,oS,oS⟩,wU,fun t ht=>?_⟩
  .simp[dU,bO] at h';subst h';exact BJ
  .simp[jS,bO];omega
  .dsimp only at wU ⊢;omega
  .simp[eu,mU,bO] at ht;rcases ht with rfl|rfl|⟨w,C,rfl⟩|⟨h0,rfl⟩
   .exact J
   .exact ta
   .exact El w C
   .exact⟨h0,Em h0⟩
 by_cases h9:kind=9
 .subst h9;simp only[Int.reduceEq,if_false,if_true,ba,gQ] at h hb;obtain⟨g1,g2,X⟩:=h;have C:aU=[]:=List.length_eq_zero_iff.1 hb.2.2.2.2.2.2.2;subst C;have J:=U X
  have BJ:=kF (ki (l:=f.aW) (r:=a) (by
   rw[g2];intro e
   simp[vi,e,g1] at hr))
  refine⟨⟨fun r h'=>?_,?_,oS,oS,oS⟩,oS,fun t ht=>?_⟩
  .simp[dU,bO] at h';subst h';exact BJ
  .simp[jS,bO]
  .simp[eu,mU,bO] at ht;subst ht;exact J
 .simp[h1,h2,h3,h4,h5,h6,h7,h8,h9] at h
theorem abq(a b:Int):kE (Nz a b):=by
 unfold Nz lx kE;simp only;rw[wrap_u64 (n:=(BitVec.ofInt IntKind.u64.bits a||| BitVec.ofInt IntKind.u64.bits b).toNat) (BitVec.isLt (w:=64) _)];have h:(BitVec.ofInt IntKind.u64.bits a||| BitVec.ofInt IntKind.u64.bits b).toNat<18446744073709551616:=BitVec.isLt (w:=64) _;exact⟨Int.natCast_nonneg _,Int.ofNat_lt.2 h⟩
theorem Yi{w:List Int}{n:Int}(h:∀ u∈w,kE u):∀ u∈qZ w n,kE u:=fun u hu=>by
 unfold qZ at hu;split at hu
 .unfold CW at hu;rcases List.mem_or_eq_of_mem_set hu with h1|h1
  .exact h u h1
  .rw[h1];exact abq _ _
 .exact h u hu
theorem OZ:∀ k,∀ u∈lS k,kE u
 |0,u,hu=>by
  rw[List.eq_of_mem_replicate hu];simp[kE]
 |k+1,u,hu=>Yi (OZ k) u hu
theorem pY.rl{x:cV}(h:pY x):(ea x).length<=100000:=by
 unfold ea;split
 .simp
 .split
  .simp
  .split
   .rename_i J;have:=h.ar (.inl J);omega
   .split
    .rename_i C;have:=h.ar (.inr C);simp;omega
    .simp
theorem Df.rf{x:End}(h:Df x)(hi:x.kind=5->pY x.ins):(dU x).length<=100000:=by
 unfold dU;split
 .simp
 .split
  .split<;>simp
  .split
   .rename_i J;exact(hi J).rl
   .split
    .rename_i C;have:=h.a2 (by simpa[bO] using C);omega
    .simp
structure Kr(f:au):Prop where
 pos:0<f.blocks.length
 j7:f.blocks.length<=1200
 aW:f.aW.length<=1200
 args:0<=f.args/\f.args<=6
 bG:∀ b∈f.blocks,yf f.blocks.length b
 ends:∀ b∈f.blocks,GU f b.fin
 right:∀ (b:Nat) x,f.blocks[b]? =some x->∀ (j:Nat) y,x.ins[j]? =some y->kY f b y ((x.ins.take (j+1)).all ky) (df f.blocks f.blocks.length b).length=true
 cr:(∀ k∈f.cr,k≠0)/\f.cr.length<=60
 amK:∀ b∈f.blocks,b.fin.kind=5->pY b.fin.ins
theorem QE{l:List Int}{m:Int}(h:tK l m=true):∀ k∈l,k≠0:=fun k hk e=>by
 subst e;simp only[tK,Bool.not_eq_true',List.any_eq_false] at h;have:=h 0 hk;simp[B'] at this
theorem acH{f:au}{x:End}(hl:f.aW.length<=1200)(h:ji f x=true)(M:x.kind=5):pY x.ins:=by
 unfold ji at h;rw[ba] at h;have h:=h.1;unfold eJ at h;simp only[M,Int.reduceEq,if_false,if_true,ba] at h;obtain⟨C,J,_⟩:=h;cases hs:jA np x.ins.op with
 |none=>rw[hs] at C;simp at C
 |some s=>rw[hs] at J;exact Io hl (.inr (BQ hs)) (I1 J)
theorem Ks{f:au}(h:ni f=true):Kr f:=by
 unfold ni at h;simp only[ba] at h;obtain⟨X,hK,_,hE,hR⟩:=h;unfold tM at X;simp only[ba,kP,Bool.not_eq_true',decide_eq_false_iff_not] at X;obtain⟨_,ha,hr,Bn,mQ,dk⟩:=X;unfold xq at hK;simp only[ba,Bool.not_eq_true',decide_eq_false_iff_not] at hK;obtain⟨_,_,qo,_,_⟩:=hK;have J:f.aW.length<=1200:=by omega
 have U:∀ x∈f.blocks,ji f x.fin=true/\x.ins.length<=200:=fun x hx=>by
  obtain⟨k,hk⟩:=ep hx;have ah:k<f.blocks.length:=(bM.1 hk).1;have:=bV.1 hE k (by simpa using ah);rw[lF,getD_some hk] at this;simp only[ba,Bool.not_eq_true',decide_eq_false_iff_not] at this;exact⟨this.1,oG⟩
 have C:∀ x∈f.blocks,GU f x.fin:=fun x hx=>QD J hr (U x hx).1
 have VV:∀ (b:Nat) x,f.blocks[b]? =some x->∀ (j:Nat) y,x.ins[j]? =some y->kY f b y ((x.ins.take (j+1)).all ky) (df f.blocks f.blocks.length b).length=true:=fun b x hx j y hy=>by
  have ah:b<f.blocks.length:=(bM.1 hx).1;have:=bV.1 hR b (by simpa using ah);rw[tB,getD_some hx] at this;have:=bV.1 this j (by simpa using(bM.1 hy).1);rw[qO,getD_some hy] at this;exact this
 have M:∀ b∈f.blocks,b.fin.kind=5->pY b.fin.ins:=fun b hb M=>acH J (U b hb).1 M
 have Hm:∀ b∈f.blocks,∀ x∈b.ins,pY x:=fun b hb x hx=>by
  obtain⟨k,hk⟩:=ep hb;obtain⟨j,hj⟩:=ep hx;exact(Ol J (QE qo) oG (VV k b hk j x hj)).1
 refine⟨oG,oG,J,⟨ha.1,by have:=ha.2;split at this<;>omega⟩,fun b hb=>⟨by have:=(U b hb).2;omega,Hm b hb,(C b hb).fin,fun x hx=>(Hm b hb x hx).rl,(C b hb).fin.rf (M b hb),fun t ht=>(C b hb).to t (Om.1 ht)⟩,C,VV,⟨QE qo,oG⟩,M⟩
theorem Kr.phi{f:au}(h:Kr f){b:Nat}{x:bI}(hx:f.blocks[b]? =some x){y:cV}(hy:y∈x.ins)(C:y.op=19):y.args.length=(df f.blocks f.blocks.length b).length/\∀ r∈y.args,0<=r/\r<1280:=by
 obtain⟨j,hj⟩:=ep hy;obtain⟨h1,_,_,_,h2⟩:=(Ol h.aW h.cr.1 h.cr.2 (h.right b x hx j y hj)).2 C;refine⟨oG,fun r hr=>?_⟩;have:=(h2 r hr).2;unfold jn at this;have:=h.aW;omega
end Go.Argus
namespace Go.Proofs.Tryz.K
theorem A7{p q:D}{f:au}{n:Nat}(hp:Tr p)(hq:Tr q)(eE:p.one=true)(bN:q.one=true)(hn:f.blocks.length=n)(y6:n<=100000)(hw:∀ b∈f.blocks,b.fin.aU.length<=9)(ht:∀ b∈f.blocks,∀ t∈nextR b.fin,0<=t/\t<n):
 aD prog 130 [.agg (a6 p q f)] (bT (kX f.blocks)):=by
 have bf:∀ a∈[D.agg (a6 p q f)],Tr a:=.cons (kf hp hq f) .nil;refine bj afR bf (qL _) ?_;rw[afS];refine az ?_;refine ag ?_;refine af (bJ (dE [(0,a6 p q f,113)] eH (l:=[(1,.pt (a6 p q f))]) eH) (az ?_));refine aV ?_;refine eC (B7 rfl rfl V.h V.h) ak ⟨oG,rfl,oG,by rw[D8];omega,V.h⟩ ?_;refine SS ?_;have ic:((f.blocks.length:Nat):Int).toNat=n:=hn;refine af (bJ (cq (l:=[(1,.pt (a6 p q f)),(3,.rs 1 0 n)]) (ml:=[(1,.cells (replicate n .z) 43)]) ⟨rfl,congrArg (fun k=>D.rs 1 0 k) ic,trivial⟩ ⟨?_,trivial⟩) (aC (az ?_)))
 .exact congrArg (fun c=>some (Row.cells c 43)) ((congrArg (fun k=>dz k [D.z]) ic).trans (acE n))
 refine bA ?_
 refine af (cz (fun s=>∃ m nx ρ,aL prog s ⟨aA [(3,.rs 1 0 n)],m,nx⟩/\jP m nx 1 n 43 3 ρ (fun i=>(df f.blocks n i).map I)) (cy (α:=Nat×Mem×Nat)
  (fun k=>⟨aA [(1,.pt (a6 p q f)),(3,.rs 1 0 n),(15,cL f.blocks),(16,I n),(17,I k.1)],k.2.1,k.2.2⟩)
  (fun k=>k.1<=n/\(∃ ρ,jP k.2.1 k.2.2 1 n 43 3 ρ (fun i=>(df f.blocks k.1 i).map I))/\∀ i,(df f.blocks k.1 i).length<=12*k.1) (fun k=>n - k.1) (0,bu [(1,.cells (replicate n .z) 43)],2)
  (aw ⟨rfl,rfl,rfl,congrArg (fun k:Nat=>I k) hn,rfl,trivial⟩) ⟨Nat.zero_le _,⟨fun _=>0,abl (show 1<2 by decide) rfl⟩,fun _=>bc _⟩ ?_) ?_)
 .rintro⟨k,m,nx⟩ ⟨hk,⟨ρ,C⟩,hlen⟩;dsimp only at hk C hlen ⊢;have aq:=C.row;have dw:=C.zj;refine SS ?_;refine af ⟨_,rfl,fun h=>?_,fun h=>?_⟩
  .have ah:k<n:=by simpa using h
   have hx:f.blocks[k]? =some f.blocks[k]:=a8 oG;have X:f.blocks[k]∈f.blocks:=gi _;generalize f.blocks[k]=x at hx X
   have fW:df f.blocks (k+1)=(nextR x.fin).foldl (jC k) (df f.blocks k):=by
    rw[df,List.range_succ,List.foldl_append];show pM f.blocks _ k=_;rw[pM,hx];rfl
   generalize df f.blocks k=L0 at C hlen aq fW;refine ws ?_;refine cm ?_;have uw:=uw (x:=x.fin);have uz:=Sr (x:=x.fin) (hw x X)
   change aD _ _ _ (aQ (nextR x.fin)) at uz
   have iX:=ht x X;have me:=I0 x.fin;have hwh:=hw x X;generalize nextR x.fin=l at uz iX me fW;refine af (az ?_);refine SS ?_;refine ax (ff (vs:=bE _) rfl (al _ _ _) V.h V.h rfl) ak (fh V.h V.h (by first|(simp;done)|omega|exact bF rfl)) ?_;refine cl uw ?_;refine cl uz ?_;refine ag ?_
   refine af (cy (α:=Nat×Mem×Nat)
    (fun j=>⟨aA [(1,.pt (a6 p q f)),(3,.rs 1 0 n),(4,I k),(15,cL f.blocks),(16,I n),(17,I k),(25,aQ l),(26,I l.length),(27,I j.1)],j.2.1,j.2.2⟩)
    (fun j=>j.1<=l.length/\(∃ ρ,jP j.2.1 j.2.2 1 n 43 3 ρ (fun i=>((l.take j.1).foldl (jC k) L0 i).map I))/\∀ i,((l.take j.1).foldl (jC k) L0 i).length<=12*k+j.1) (fun j=>l.length - j.1) (0,up m nx (some (.cells (bS x) 59)),nx+1)
    (tw eH (uh _ _ _ _)) ⟨Nat.zero_le _,⟨ρ,C.ext (fun q hq=>ai oG rfl) oM⟩,hlen⟩ ?_)
   clear C aq hlen;rintro⟨j,m,nx⟩ ⟨hj,⟨ρ,C⟩,hlen⟩;dsimp only at hj C hlen ⊢;have aq:=C.row;have dw:=C.zj;have U:∀ t,l[j]? =some t->(l.take (j+1)).foldl (jC k) L0=jC k ((l.take j).foldl (jC k) L0) t:=fun t ht=>BV ht;have Dg:j=l.length->(l.take j).foldl (jC k) L0=df f.blocks (k+1):=fun e=>by rw[fW,dv oG]
   generalize (l.take j).foldl (jC k) L0=L at C hlen aq U Dg;refine SS ?_;refine af ⟨_,rfl,fun h=>?_,fun h=>?_⟩
   .have UC:j<l.length:=by simpa using h
    have VH:l[j]? =some l[j]:=a8 UC;have Ei:=iX _ (gi UC);generalize l[j]=t at VH Ei;obtain⟨i,rfl⟩:=iQ Ei.1;have J:i<n:=by omega
    have hL:=hlen i;have U:(l.take (j+1)).foldl (jC k) L0=up L i (L i++[(k:Int)]):=U _ VH
    have CZ:∀ i,((l.take (j+1)).foldl (jC k) L0 i).length<=12*k+(j+1):=fun a=>by
     rw[U];exact OV (t:=(i:Int)) hlen a
    have VJ:(fun a=>((l.take (j+1)).foldl (jC k) L0 a).map I)=up (fun a=>(L a).map I) i ((L i++[(k:Int)]).map I):=by rw[U];exact adG
    obtain⟨cs,kd⟩:=Qs (ρ:=ρ) (L:=fun i=>(L i).map I) J;refine ws ?_;refine ay ?_;refine af (fF ?_);by_cases hz:L i=[]
    .have zl:jc (ρ i) ((L i).map I)=.z:=by rw[hz];rfl
     rw[zl] at kd;refine bt ?_;refine ax (mr rfl rfl (ai oG (ai oG aq)) V.h V.h) ak ⟨V.h,oG⟩ ?_;refine bL (eF (d:=.rs _ _ _) (cs':=_) rfl rfl (ai oG (ai oG aq)) rfl rfl) ak (bY V.h V.h (by first|(simp;done)|exact⟨rfl,bF rfl⟩|(simp;omega)) rfl) ?_;refine af ?_;refine ag ?_;refine af (bh (j+1,up (up (up m nx (some (.cells [I k] 3))) (nx+1) (some (.cells [I k] 3))) 1 (some (.cells ((nM ρ (fun i=>(L i).map I) n).set i (.rs (nx+1) 0 1)) 43)),nx+2) (aw eH) ⟨oM,⟨up ρ i (nx+1),?_⟩,CZ⟩ oM);dsimp only;rw[VJ];refine C.HS J oS oG oG ?_ ?_ (fun q hq uT _=>?_)
     .rw[hz];exact al _ _ _
     .rw[hz];exact ai oG (al _ _ _)
     .exact ai oG (ai oG (ai oG rfl))
    .have M:(L i).map I≠[]:=by simpa using hz
     have zl:jc (ρ i) ((L i).map I)=.rs (ρ i) 0 (L i).length:=by rw[Da M,List.length_map]
     rw[zl] at kd;have gT:=C.AY i J M;have hρn:=C.lt i J M;have hρ1:=C.ne i J M;refine bt ?_;refine ax (mr rfl rfl (ai oG (ai oG (ai oG aq))) V.h V.h) ak ⟨V.h,oG⟩ ?_;refine bL (eF (d:=.rs _ _ _) (cs':=_) rfl rfl (ai oG (ai oG (ai oG aq))) rfl rfl) ak (bY V.h V.h (by first|(simp;done)|exact⟨rfl,bF rfl⟩|(simp;omega)) rfl) ?_;refine af ?_;refine ag ?_;refine af (bh (j+1,up (up (up (up m nx (some (.cells [I k] 3))) (ρ i) none) (nx+1) (some (.cells ((L i).map I++[I k]) 3))) 1 (some (.cells ((nM ρ (fun i=>(L i).map I) n).set i (.rs (nx+1) 0 ((L i).length+1))) 43)),nx+2) (aw eH) ⟨oM,⟨up ρ i (nx+1),?_⟩,CZ⟩ oM);dsimp only;rw[VJ];refine C.HS J oS oG oG ?_ ?_ (fun q hq uT y3=>?_)
     .rw[List.length_map,List.length_append];exact al _ _ _
     .rw[List.map_append];exact ai oG (al _ _ _)
     .have:=y3 M;exact ai oG (ai oG (ai oG (ai oG rfl)))
   .have bq:¬ j<l.length:=by simpa using h
    have vl:=Dg oG;subst vl;show av _ _ _ _ _ _ _ _ _;refine ag ?_;refine af (bh (k+1,m,nx) (aw eH) ⟨oM,⟨ρ,C⟩,fun i=>by have:=hlen i;dsimp only at this ⊢;omega⟩ oM)
  .have bq:¬ k<n:=by simpa using h
   have:k=n:=by omega
   subst this;exact⟨m,nx,ρ,aw eH,C⟩
 .rintro s ⟨m,nx,ρ,hg,C⟩;have wQ:¬ ∃ i,i<n/\(df f.blocks n i).map I≠[]/\ρ i=1:=fun⟨i,h1,h2,h3⟩=>C.ne i h1 h2 h3;refine⟨_,hg.trans (Pp (l:=[(3,.rs 1 0 n)]) (ml:=[]) (fun r=>∃ i,i<n/\(df f.blocks n i).map I≠[]/\ρ i=r) C (fun _=>.map) c3 (fun i h1 h2=>⟨i,h1,h2,rfl⟩) wQ ⟨rfl,trivial⟩ (fun x hx=>?_) trivial (fun x hx=>by cases hx)),az ?_⟩
  .simp at hx;subst hx;exact .rs wQ
  refine ag ?_;refine af (bJ (dE [(1,_,43)] eH (l:=[(2,bT (kX f.blocks))]) ⟨?_,trivial⟩) (aJ rfl rfl));show sub (cJ 1 _ (prog.cellsOf 43)) (D.rs 1 0 n)=_;rw[jR (by rw[s8];simp),Qt,kX,hn]
theorem H8{p q:D}{f:au}{n args:Nat}(hp:Tr p)(hq:Tr q)(eE:p.one=true)(bN:q.one=true)(hn:f.blocks.length=n)(y5:0<n)(y6:n<=100000)(ha:f.args=args)(yW:args<=1000)(zd:∀ u∈lS args,kE u)(hb:∀ b∈f.blocks,yf n b)
 (ajV:∀ b x,f.blocks[b]? =some x->∀ y∈x.ins,y.op=19->y.args.length=(df f.blocks n b).length/\∀ r∈y.args,0<=r/\r<1280):
 aD prog 98 [.agg (a6 p q f)] (B (tA f.blocks args)):=by
 have bf:∀ a∈[D.agg (a6 p q f)],Tr a:=.cons (kf hp hq f) .nil;have A6:=A6 hp hq eE bN hn y5 y6 ha yW zd hb;have A7:=A7 hp hq eE bN hn y6 (fun b h=>(hb b h).fin.wh) (fun b h=>(hb b h).to);have UD:l9 n (pf f.blocks args):=by subst hn;exact abn hb zd
 refine bj ajW bf (.s _) ?_;rw[ajX];refine az ?_;refine ag ?_;refine af (bJ (dE [(0,a6 p q f,113)] eH (l:=[(1,.pt (a6 p q f))]) eH) ?_);have lZ:tA f.blocks args=(range n).all (rT f.blocks (pf f.blocks args)):=by rw[tA,hn]
 rw[lZ];clear lZ;generalize pf f.blocks args=R at A6 UD ⊢;obtain⟨lw,lr,mi,rg⟩:=UD;have A6:aD prog 132 [.agg (a6 p q f)] (.aM [.sl (cT R.wsq) n,rS R.re]):=by unfold rS;rw[lr];exact A6
 show AW _ _ _ _ (Cw _) _;refine ws ?_;refine SS ?_;refine cl A6 ?_;refine bA ?_;refine af (az ?_);refine SS ?_;refine cl A7 ?_;refine SS ?_;refine af (bJ (fR (l:=[(1,.pt (a6 p q f)),(3,.sl (cT R.wsq) n),(4,rS R.re),(5,bT (kX f.blocks))]) eH) (Xf (aC (az ?_))));refine bA ?_
 refine af (cz (fun s=>(range n).all (rT f.blocks R)=true) (cy (α:=Nat×Nat)
  (fun k=>⟨aA [(1,.pt (a6 p q f)),(3,.sl (cT R.wsq) n),(4,rS R.re),(5,bT (kX f.blocks)),(25,cL f.blocks),(26,I n),(27,I k.1)],fun _=>none,k.2⟩)
  (fun k=>k.1<=n/\(range k.1).all (rT f.blocks R)=true) (fun k=>n - k.1) (0,1) (fR ⟨rfl,rfl,rfl,rfl,rfl,congrArg (fun k:Nat=>I k) hn,rfl,trivial⟩) ⟨Nat.zero_le _,rfl⟩ ?_) ?_)
 .rintro⟨k,N⟩ ⟨hk,X⟩;dsimp only at hk X ⊢;refine SS ?_;refine af ⟨_,rfl,fun h=>?_,fun h=>?_⟩
  .have ah:k<n:=by simpa using h
   have hx:f.blocks[k]? =some f.blocks[k]:=a8 oG;have j6:f.blocks[k]∈f.blocks:=gi _;generalize f.blocks[k]=x at hx j6;have iY:=hb x j6;have hph:=ajV k x hx;have hw:R.wsq[k]? =some R.wsq[k]:=a8 oG;have mW:R.re[k]? =some R.re[k]:=a8 oG;have zu:=mi _ (gi (h:=by omega):R.wsq[k]∈R.wsq)
   have M:rT f.blocks R k=(!R.re[k]||((mq x R.wsq[k]).2&&(x.ins.takeWhile ky).all (uj f.blocks R k))):=by
    rw[rT,getD_some hw,getD_some mW,getD_some hx]
   generalize R.wsq[k]=w at hw zu M;generalize R.re[k]=b at mW M;refine az ?_;refine cm ?_;refine af (bJ (fv (i:=N) (l:=[(1,.pt (a6 p q f)),(3,.sl (cT R.wsq) n),(4,rS R.re),(5,bT (kX f.blocks)),(6,I k),(7,.pt (bS x)),(25,cL f.blocks),(26,I n),(27,I k)]) (al _ _ _) ⟨rfl,rfl,rfl,rfl,rfl,lQ,rfl,rfl,rfl,trivial⟩) (aC (aj ?_)));refine bA ?_;refine af (ct rfl (fun h=>tm (Ge ?_)) fun h=>bX (aC (BL abo ?_)))
   .have Ns:b=false:=by simpa using h
    subst Ns;refine ag ?_;refine af (bh (k+1,N+1) (fR eH) ⟨oM,oV X (by rw[M];rfl)⟩ oM)
   have Nt:b=true:=by simpa using h
   subst Nt;have nN:=nN zu iY.len iY.ins iY.fin iY.rl iY.rf;have uA:=Ii x w;rw[zu] at uA;generalize mq x w=th at nN M uA;obtain⟨w1,ok⟩:=th;dsimp only at nN M uA;refine ay ?_;refine ax (Ss rfl rfl V.h V.h oN oN) ak (Su V.h oN oN oG) ?_;refine ax (j8 rfl V.h V.h (QB oN)) ak (kb V.h V.h oP) ?_;refine cl nN ?_;refine cm ?_;refine cu cE (bJ (fR (l:=[(1,.pt (a6 p q f)),(3,.sl (cT R.wsq) n),(4,rS R.re),(5,bT (kX f.blocks)),(6,I k),(7,.pt (bS x)),(9,B ok),(25,cL f.blocks),(26,I n),(27,I k)]) eH) (aC (aj ?_)));refine ag ?_;refine af (ct rfl (fun h=>?_) fun h=>bX (az ?_))
   .have bK:ok=false:=by simpa using h
    subst bK;refine aC (aj ?_);refine SS ?_;refine af (ew (cv (bD (Fp (aJ (d:=B false) rfl ?_)))));rw[qC ah (by rw[M];rfl)]
   have bK:ok=true:=by simpa using h
   subst bK;have M:rT f.blocks R k=(x.ins.takeWhile ky).all (uj f.blocks R k):=M;refine aV ?_;have me:=iY.len
   refine af (cy (α:=Nat×Nat)
    (fun j=>⟨aA [(1,.pt (a6 p q f)),(3,.sl (cT R.wsq) n),(4,rS R.re),(5,bT (kX f.blocks)),(6,I k),(25,cL f.blocks),(26,I n),(27,I k),(49,lD x.ins),(50,I x.ins.length),(51,I j.1)],fun _=>none,j.2⟩)
    (fun j=>j.1<=x.ins.length/\(∀ y∈x.ins.take j.1,ky y=true)/\(x.ins.take j.1).all (uj f.blocks R k)=true) (fun j=>x.ins.length - j.1) (0,_) (fR eH) ⟨Nat.zero_le _,oS,oS⟩ ?_)
   rintro⟨j,N⟩ ⟨hj,A8,DD⟩;dsimp only at hj A8 DD ⊢;refine SS ?_;refine af ⟨_,rfl,fun h=>?_,fun h=>?_⟩
   .have dw:j<x.ins.length:=by simpa using h
    have hy:x.ins[j]? =some x.ins[j]:=a8 dw;have VK:x.ins[j]∈x.ins:=gi dw;generalize x.ins[j]=y at hy VK;refine az ?_;refine aV ?_;refine af (bJ (fv (i:=N) (l:=[(1,.pt (a6 p q f)),(3,.sl (cT R.wsq) n),(4,rS R.re),(5,bT (kX f.blocks)),(6,I k),(11,.pt (cA y)),(25,cL f.blocks),(26,I n),(27,I k),(49,lD x.ins),(50,I x.ins.length),(51,I j)]) (al _ _ _) ⟨rfl,rfl,rfl,rfl,rfl,lQ,rfl,rfl,rfl,rfl,rfl,rfl,trivial⟩) (aC (aj ?_)));refine ay ?_;refine af (ct rfl (fun h=>tm (ad6 oC oC (Ge ?_))) fun h=>bX (az ?_))
    .have aG:y.op≠19:=by simpa using h
     refine ag ?_;refine af (bh (k+1,_) (fR eH) ⟨oM,oV X ?_⟩ oM);rw[M,takeWhile_eq A8 (fun y' h'=>by rw[hy] at h';cases h';simpa[ky] using aG)];exact DD
    have qB:y.op=19:=by simpa using h
    obtain⟨s6,har⟩:=hph y VK qB;have hA:=OY hn ah
    have VL:∀ p∈df f.blocks n k,∃ C:Nat,p=C/\C<n:=fun p hp=>by
     obtain⟨b,h1,h2,_⟩:=IC.1 hp;exact⟨b,h1,h2⟩
    have Nv:uj f.blocks R k y=(range (df f.blocks n k).length).all (tL f.blocks R k y):=by rw[uj,hn]
    have J:∀ i,tL f.blocks R k y i=(!(R.re.getD ((df f.blocks n k).getD i 0).toNat false)||p9 (iq (f.blocks.getD ((df f.blocks n k).getD i 0).toNat k8).fin k (mq (f.blocks.getD ((df f.blocks n k).getD i 0).toNat k8) (R.wsq.getD ((df f.blocks n k).getD i 0).toNat [])).1) (y.args.getD i 0).toNat):=fun i=>by rw[tL,hn]
    have hAl:=OX (fun b h=>(hb b h).fin.wh) n k;generalize df f.blocks n k=A at s6 hA VL Nv J hAl
    have Ko:∀ i,i<A.length->tL f.blocks R k y i=false->(range n).all (rT f.blocks R)=false:=fun i hi he=>by
     refine qC ah ?_;rw[M];refine Bool.eq_false_iff.2 fun ht=>?_
     have ajY:y∈x.ins.takeWhile ky:=by
      have:x.ins.take (j+1)=x.ins.take j++[y]:=by rw[List.take_add_one,hy];rfl
      have h2:x.ins=x.ins.take (j+1)++x.ins.drop (j+1):=(List.take_append_drop _ _).symm;rw[h2,this,List.takeWhile_append_of_pos]
      .simp
      .intro z hz;rcases List.mem_append.1 hz with h|h
       .exact A8 z h
       .rw[List.mem_singleton.1 h];simp[ky,qB]
     have:=bV.1 ht y ajY;rw[Nv,qC hi he] at this;cases this
    refine cm ?_
    refine af (cy (α:=Nat×Nat)
     (fun i=>⟨aA [(1,.pt (a6 p q f)),(3,.sl (cT R.wsq) n),(4,rS R.re),(5,bT (kX f.blocks)),(6,I k),(11,.pt (cA y)),(25,cL f.blocks),(26,I n),(27,I k),(49,lD x.ins),(50,I x.ins.length),(51,I j),(61,aQ A),(62,I A.length),(63,I i.1)],fun _=>none,i.2⟩)
     (fun i=>i.1<=A.length/\(range i.1).all (tL f.blocks R k y)=true) (fun i=>A.length - i.1) (0,_) (fR eH) ⟨Nat.zero_le _,rfl⟩ ?_)
    rintro⟨i,N⟩ ⟨hi,K5⟩;dsimp only at hi K5 ⊢;refine SS ?_;refine af ⟨_,rfl,fun h=>?_,fun h=>?_⟩
    .have eD:i<A.length:=by simpa using h
     have VM:A[i]? =some A[i]:=a8 eD;obtain⟨C,VN,yX⟩:=VL _ (gi eD);rw[VN] at VM;clear VN;have VO:f.blocks[C]? =some f.blocks[C]:=a8 oG;have UE:f.blocks[C]∈f.blocks:=gi _;have VP:R.wsq[C]? =some R.wsq[C]:=a8 oG;have VQ:R.re[C]? =some R.re[C]:=a8 oG;have L5:=mi _ (gi (h:=by omega):R.wsq[C]∈R.wsq);have VR:y.args[i]? =some y.args[i]:=a8 oG;have wS:=har _ (gi (h:=by omega):y.args[i]∈y.args);have J:=J i;rw[getD_some VM,iv,getD_some VO,getD_some VP,getD_some VQ,getD_some VR] at J;generalize f.blocks[C]=xp at VO UE J;generalize R.wsq[C]=wp at VP L5 J;generalize R.re[C]=rb at VQ J;generalize y.args[i]=r at VR wS J;obtain⟨rn,rfl⟩:=iQ wS.1;rw[iv] at J;have yA:=hb xp UE;have nN:=Go.Proofs.Tryz.K.nN L5 yA.len yA.ins yA.fin yA.rl yA.rf;have DE:=Ii xp wp;rw[L5] at DE;generalize mq xp wp=tp at nN J DE;obtain⟨w2,ok2⟩:=tp;dsimp only at nN J DE;have wq:=wq (x:=xp.fin) (b:=(k:Int)) (w:=w2) DE (by have:=yA.fin.wh;omega) (by have:=yA.fin.wr;omega);have mS:=Pt xp.fin k w2;rw[DE] at mS;generalize iq xp.fin k w2=w3 at wq mS J;have lh:=lh (w:=w3) (m:=rn) mS oG;refine ws ?_;refine bA ?_;refine af (BL ZI ?_);refine dM ?_;refine ax (Ss rfl rfl V.h V.h oN oN) ak (Su V.h oN oN oG) ?_;refine ax (j8 rfl V.h V.h (QB oN)) ak (kb V.h V.h oP) ?_;refine cl nN ?_;refine cm ?_;refine cu cE (bJ (fv (i:=N) (l:=[(1,.pt (a6 p q f)),(3,.sl (cT R.wsq) n),(4,rS R.re),(5,bT (kX f.blocks)),(6,I k),(11,.pt (cA y)),(12,I i),(13,I C),(14,.pt (w2.map cP)),(25,cL f.blocks),(26,I n),(27,I k),(49,lD x.ins),(50,I x.ins.length),(51,I j),(61,aQ A),(62,I A.length),(63,I i)]) (al _ _ _) ⟨rfl,rfl,rfl,rfl,rfl,rfl,rfl,rfl,lQ,rfl,rfl,rfl,rfl,rfl,rfl,rfl,rfl,rfl,trivial⟩) (eg ZJ ?_))
     have pW:∀ v:Bool,v=tL f.blocks R k y i->(v=false->(range n).all (rT f.blocks R)=false)/\(v=true->(range (i+1)).all (tL f.blocks R k y)=true):=fun v hv=>by
      subst hv;exact⟨Ko i eD,fun h=>oV K5 h⟩
     cases rb with
     |false=>
      obtain⟨_,U⟩:=pW true J.symm;have U:=U rfl;refine bt ?_;refine bw rfl rfl (sk rfl rfl V.h V.h (u7) oN) (fun hc=>⟨ak,(sq V.h (u7) oN)⟩) ?_;refine ay ?_;refine bw rfl rfl (j8 rfl V.h V.h (Sv (by first|rfl|exact bF rfl|(simp;done)|(simp;omega)|omega))) (fun hc=>⟨ak,(kb V.h V.h (by first|rfl|exact bF rfl|(simp;done)|(simp;omega)|omega))⟩) ?_;refine gc wq ?_;refine bA ?_;refine gc lh ?_;refine ag ?_;refine cu cE (aR rfl (fun h=>oH) fun h=>c7 ?_);refine ag ?_;refine af (bh (i+1,_) (fR eH) ⟨oM,U⟩ oM)
     |true=>
      obtain⟨sZ,U⟩:=pW (p9 w3 rn) J.symm;generalize p9 w3 rn=hv at lh sZ U;refine bt ?_;refine bw rfl rfl (sk rfl rfl V.h V.h (u7) oN) (fun hc=>⟨ak,(sq V.h (u7) oN)⟩) ?_;refine ay ?_;refine bw rfl rfl (j8 rfl V.h V.h (Sv (by first|rfl|exact bF rfl|(simp;done)|(simp;omega)|omega))) (fun hc=>⟨ak,(kb V.h V.h (by first|rfl|exact bF rfl|(simp;done)|(simp;omega)|omega))⟩) ?_;refine gc wq ?_;refine bA ?_;refine gc lh ?_;refine ag ?_;refine cu cE (aR rfl (fun h=>?_) fun h=>c7 ?_)
      .have hf:hv=false:=by simpa using h
       refine ws ?_;refine SS ?_;refine af (bH (cv (cv (cv (bD (Fp (aJ (d:=B false) rfl ?_)))))));rw[sZ hf]
      .have ht:hv=true:=by simpa using h
       have U:=U ht;refine ag ?_;refine af (bh (i+1,_) (fR eH) ⟨oM,U⟩ oM)
    .have bq:¬ i<A.length:=by simpa using h
     have hiA:i=A.length:=by omega
     subst hiA;show av _ _ _ _ _ _ _ _ _;refine ag ?_;refine af (bh (j+1,_) (fR eH) ⟨oM,fun z hz=>?_,?_⟩ oM)
     .dsimp only at hz;rw[List.take_add_one,hy] at hz;rcases List.mem_append.1 hz with h|h
      .exact A8 z h
      .rw[List.mem_singleton.1 h];simp[ky,qB]
     .dsimp only;rw[List.take_add_one,hy,List.all_append,DD];simpa[Nv] using K5
   .have bq:¬ j<x.ins.length:=by simpa using h
    have DW:j=x.ins.length:=by omega
    subst DW;show av _ _ _ _ _ _ _ _ _;refine ag ?_;refine af (bh (k+1,_) (fR eH) ⟨oM,oV X ?_⟩ oM);rw[List.take_length] at A8 DD;rw[M,takeWhile_eq (j:=x.ins.length) (by rw[List.take_length];exact A8) (fun y h=>by simp at h),List.take_length];exact DD
  .have bq:¬ k<n:=by simpa using h
   have:k=n:=by omega
   subst this;exact X
 .rintro⟨env,m,nx⟩ X;refine⟨_,.refl _,aj ?_⟩;refine SS ?_;refine af (Fp (aJ (d:=B true) rfl ?_));rw[X]
end Go.Proofs.Tryz.K
namespace Go.Argus
theorem VS:∀ b1 b2 b3 b4 b5 b6:Bool,(if(if(if(if(if(!b1)=true then true else !b2)=true then true else !b3)=true then true else b4)=true then true else b5)=true then true else !b6)= !(b1&&(b2&&(b3&&(!b4&&(!b5&&b6))))):=by decide
theorem VT:∀ b1 b2 b3 b4 b5:Bool,(if(if(if(if(!b1)=true then true else !b2)=true then true else !b3)=true then true else b4)=true then true else b5)= !(b1&&(b2&&(b3&&(!b4&& !b5)))):=by decide
theorem hd3:∀ b1 b2 b3 b4:Bool,(if(if b1=true then true else b2)=true then true else if b3=true then !b4 else false)=(b1||(b2||(b3&& !b4))):=by decide
def mX(l:List Int):List (Value×D):=l.map fun a=>(.int .i64 a,B true)
theorem JZ(a:Int):∀ l:List Int,(cQ (.int .i64 a) (mX l)).map (·.2)=if(l.any (·==a))=true then some (B true) else none
 |[]=>rfl
 |b::l=>by
  have ih:=JZ a l;unfold mX at ih ⊢;simp only[List.map_cons,cQ,kJ,p0,List.any_cons,beq_self_eq_true,Bool.true_and] at ih ⊢;by_cases h:b=a
  .subst h;simp
  .have hb:(b==a)=false:=by simpa using h
   simp only[hb,Bool.false_eq_true,if_false,Option.map_map,Bool.false_or];exact ih
theorem adH{P:Program}{t:TypeId}(hz:lM P (la P t)=B false)(a:Int)(l:List Int):fz P t false (cQ (.int .i64 a) (mX l))=B (l.any (·==a)):=by
 have h:=JZ a l;cases h1:cQ (.int .i64 a) (mX l) with
 |none=>
  rw[h1] at h;cases h2:l.any (·==a) with
  |true=>rw[h2] at h;simp at h
  |false=>simp[fz,hz]
 |some x=>
  rw[h1] at h;cases h2:l.any (·==a) with
  |false=>rw[h2] at h;simp at h
  |true=>rw[h2] at h;simp at h;simp[fz,h]
theorem adI{a:Int}{l:List Int}(h:l.any (·==a)=false):fY (.int .i64 a) (B true) (mX l)=mX (l++[a]):=by
 have h1:=JZ a l;rw[h] at h1;unfold fY;cases h2:cQ (.int .i64 a) (mX l) with
 |none=>simp[mX]
 |some x=>rw[h2] at h1;simp at h1
theorem RE{P:Program}{kt:TypeId}(hk:P.underlying kt=some (.int .i64))(l:List Int):(mX l).all (fun e=>cI P kt e.1)=true:=by
 refine bV.2 fun x hx=>?_;obtain⟨y,_,rfl⟩:=List.mem_map.1 hx;simp[cI,hk]
theorem Sw{P:Program}{kt:TypeId}(hk:P.underlying kt=some (.int .i64))(a:Int):cI P kt (.int .i64 a)=true:=by simp[cI,hk]
theorem acG{i sz:Nat}{C:List D}(l:List Int):Row.sub (cJ i C sz) (.map (mX l))=.map (mX l):=by
 show Row.map ((mX l).map _)=_;unfold mX;rw[List.map_map];rfl
theorem WM{bs:List bI}{k:Nat}{x:bI}(hx:bs[k]? =some x):o2 bs (k+1)=if(x.fin.kind==7)=true then o2 bs k++[x.fin.a] else o2 bs k:=by
 unfold o2;rw[List.take_add_one,hx];by_cases h:(x.fin.kind==7)=true
 .simp[h]
 .simp[h]
def gV(wsq:List ByteArray):ByteArray:=Go.Proofs.Tryz.K.Ay wsq ⟨#[32]⟩++⟨#[10]⟩
def eM(n:Int):ByteArray:=⟨(Lib.itoa n).toArray⟩
def i64(n:Int):Prop:= -9223372036854775808<=n/\n<=9223372036854775807
abbrev iy(n:Int):Int:=IntKind.i64.wrap n
theorem zV(n:Int):i64 (iy n):=by unfold i64 iy;rw[IntKind.wrap_i64];omega
def wg(x:cV):List Int:=iy x.op::x.to::x.a::x.b::x.n::x.args
def Hd(x:cV):Prop:=∀ n∈wg x,i64 n
def T0(word:ByteArray)(x:cV):ByteArray:=gV (word::(wg x).map eM)
def wj(a:ByteArray):List Int:=a.data.toList.map fun c=>(c.toNat:Int)
theorem adp(a:ByteArray):fj a=lI (wj a):=by simp[fj,lI,wj]
theorem ace(a:ByteArray):mkStr (wj a)=a:=by
 unfold mkStr wj;rw[List.map_map];have:(fun n:Int=>UInt8.ofNat n.toNat) ∘ (fun c:UInt8=>(c.toNat:Int))=id:=by funext c;simp
 rw[this,List.map_id]
theorem aaG(a:ByteArray):(wj a).length=a.size:=by simp[wj]
theorem aaH(a:ByteArray):∀ x∈wj a,0<=x/\x<256:=by
 intro x hx;obtain⟨c,_,rfl⟩:=List.mem_map.1 hx;have:=c.toNat_lt;omega
def xX:ByteArray:=⟨#[102,108,111,119]⟩
def TE:ByteArray:=⟨#[112,114,111,99]⟩
def TF:ByteArray:=⟨#[105,116,101,114]⟩
def Az:ByteArray:=⟨#[114,101,103,115]⟩
def CF:ByteArray:=⟨#[115,108,111,116,115]⟩
def EZ:ByteArray:=⟨#[115,105,103,110,97,108,115]⟩
def o4:ByteArray:=⟨#[98,108,111,99,107]⟩
def sO:ByteArray:=⟨#[105,110,115]⟩
def Du:ByteArray:=⟨#[101,110,100]⟩
def GO:ByteArray:=⟨#[110,97,109,101]⟩
def AR:ByteArray:=⟨#[116,114,121]⟩
def TG:ByteArray:=⟨#[119,104,101,110]⟩
def eN:List (List ByteArray)->ByteArray
 |[]=>ByteArray.empty
 |l::ls=>gV l++eN ls
theorem ID:∀ a b:List (List ByteArray),eN (a++b)=eN a++eN b
 |[],b=>by simp[eN]
 |l::a,b=>by simp only[List.cons_append,eN,ID a b,ByteArray.append_assoc]
theorem QI(a:List (List ByteArray))(l:List ByteArray):eN (a++[l])=eN a++gV l:=by rw[ID];simp[eN]
theorem adO{a b:List (List ByteArray)}(h:a<+:b):(eN a).size<=(eN b).size:=by
 obtain⟨c,rfl⟩:=h;rw[ID,ByteArray.size_append];omega
def nK(word:ByteArray)(x:cV):List ByteArray:=word::(wg x).map eM
def uv(x:End):List Int:=iy x.kind::x.a::x.b::x.to::x.gN::x.others::x.args
def rk(x:End):List ByteArray:=Du::(uv x).map eM
def jX(x:End):List (List ByteArray):=if x.name.toList=[] then [] else [[GO,x.name]]
def lj(x:End):List (List ByteArray):=if x.kind=5 then [nK AR x.ins] else []
def lP(w:iK):List ByteArray:=[TG,w.name,eM w.to]
def q6(b:bI):List (List ByteArray):=b.ins.map (nK sO)
def lJ(b:bI):List (List ByteArray):=[o4]::(q6 b++(rk b.fin::(jX b.fin++(lj b.fin++b.fin.aU.map lP))))
def sH(f:au):ByteArray:=if f.iter then TF else TE
def Dh(f:au):List (List ByteArray):=[[xX,f.name,sH f,eM f.args,eM (iy f.result)],Az::(f.aW.map iy).map eM,CF::(f.cr.map iy).map eM,EZ::f.signals]
def jW(f:au):List (List ByteArray):=Dh f++f.blocks.flatMap lJ
def lO(f:au):ByteArray:=eN (jW f)
structure CE(f:au):Prop where
 args:i64 f.args
 aW:f.aW.length<=100000
 cr:f.cr.length<=100000
 sigs:f.signals.length<=100000
 LL:f.blocks.length<=100000
 ahW:∀ b∈f.blocks,b.ins.length<=100000
 ins:∀ b∈f.blocks,∀ x∈b.ins,Hd x/\x.args.length<=10000
 fin:∀ b∈f.blocks,(∀ n∈uv b.fin,i64 n)/\b.fin.args.length<=10000/\Hd b.fin.ins/\b.fin.ins.args.length<=10000/\b.fin.aU.length<=100000/\∀ w∈b.fin.aU,i64 w.to
 size:(lO f).size<=140737488355328
def kL(f:au)(k:Nat):List (List ByteArray):=Dh f++(f.blocks.take k).flatMap lJ
theorem Ql{f:au}{k:Nat}{b:bI}(h:f.blocks[k]? =some b):kL f (k+1)=kL f k++lJ b:=by
 unfold kL;rw[List.take_add_one,h];simp[List.flatMap_append]
theorem IN{f:au}{k:Nat}{b:bI}(h:f.blocks[k]? =some b){p:List (List ByteArray)}(hp:p<+:lJ b):kL f k++p<+:jW f:=by
 have h1:kL f k++p<+:kL f (k+1):=by rw[Ql h];exact(List.prefix_append_right_inj _).2 hp
 refine h1.trans ?_;refine⟨(f.blocks.drop (k+1)).flatMap lJ,?_⟩;unfold kL jW;rw[List.append_assoc, <- List.flatMap_append,List.take_append_drop]
theorem CE.le{f:au}(h:CE f){p:List (List ByteArray)}{l:List ByteArray}(hp:p++[l]<+:jW f):(eN p).size+(gV l).size<=140737488355328:=by
 have h1:=adO hp;rw[QI,ByteArray.size_append] at h1;have:=h.size;unfold lO at this;omega
abbrev bi(l:List au):D:=.sl (l.flatMap aY) l.length
theorem iB(l:List au):Tr (bi l):=.sl (.flat nb)
def jG:List D:=[S ⟨#[]⟩,B false,I 0,U8 0,.z,.z,.z,.z]
def named(l:List au)(name:ByteArray):Int:=mH (fun g=>g.name.toList==name.toList) l
def findF(l:List au)(name:ByteArray):Option au:=l.find? fun g=>g.name.toList==name.toList
def CG:Option au->D
 |some g=>.aM [.agg (aY g),B true]
 |none=>.aM [.agg jG,B false]
theorem Xi(l:List au)(name:ByteArray):(named l name= -1/\findF l name=none)\/∃ (i:Nat) (g:au),named l name=i/\l[i]? =some g/\findF l name=some g:=by
 unfold named mH findF;cases h:l.findIdx? (fun g=>g.name.toList==name.toList) with
 |none=>
  left;refine⟨rfl,?_⟩;rw[List.findIdx?_eq_none_iff] at h;rw[List.find?_eq_none];intro x hx;simpa using h x hx
 |some i=>
  right;obtain⟨hi,h1,h2⟩:=List.findIdx?_eq_some_iff_getElem.1 h;refine⟨i,l[i],rfl,a8 hi,?_⟩;rw[List.find?_eq_some_iff_getElem];exact⟨h1,i,hi,rfl,fun j hj=>by simpa using h2 j hj⟩
abbrev dC:D:=.s (.map none)
def o5(l:List Int)(i:Int):Int:=l.getD i.toNat 0
def xY(c g:au)(args:List Int)(i:Nat):Bool:=o5 c.aW (args.getD i 0)==g.aW.getD i 0
def pd(c g:au)(args:List Int):Bool:=decide ((args.length:Int)=g.args)&&(range args.length).all (xY c g args)
def AA(r:Int)(b:bI):Bool:=decide (b.fin.kind=7)&&decide (b.fin.a=r)
def wk(c:au)(l:List au)(r:Int):Option au:=match c.blocks.find? (AA r) with
 |some b=>findF l b.fin.name
 |none=>none
theorem aaJ(o:Option au):Tr (CG o):=by
 cases o with
 |none=>exact .aM (.cons (.agg (.cons (.s _) (.cons (.s _) (.cons (.s _) (.cons (.s _) (.cons .z (.cons .z (.cons .z (.cons .z .nil))))))))) (.cons (.s _) .nil))
 |some g=>exact .aM (.cons (.agg (nb g)) (.cons (.s _) .nil))
def xZ(c:au)(l:List au)(y:End):Bool:=match findF l y.name with
 |none=>false
 |some g=> !g.iter&&(pd c g y.args&& !(decide (0<=y.a)&&(o5 c.aW y.a !=g.result)))
def yc(c:au)(l:List au)(y:End):Bool:=match findF l y.name with
 |none=>false
 |some g=>g.iter&&pd c g y.args
def vN(c:au)(l:List au)(y:End):Bool:=match wk c l y.a with
 |none=>true
 |some g=> !(o5 c.aW y.b !=g.result)
def jg(c:au)(l:List au)(b:bI):Bool:=
 if b.fin.kind=6 then xZ c l b.fin else if b.fin.kind=7 then yc c l b.fin else if b.fin.kind=8 then vN c l b.fin else true
def tV(c:au)(l:List au):Bool:=c.blocks.all (jg c l)
structure JR(c:au)(l:List au):Prop where
 len:l.length<=1000000
 LL:c.blocks.length<=1000000
 args:∀ b∈c.blocks,b.fin.kind=6\/b.fin.kind=7->(∀ r∈b.fin.args,0<=r/\r<c.aW.length)/\b.fin.args.length<=1000000
 a:∀ b∈c.blocks,b.fin.kind=6->b.fin.a<c.aW.length
 b:∀ b∈c.blocks,b.fin.kind=8->0<=b.fin.b/\b.fin.b<c.aW.length
 fl:∀ g∈l,g.args<=g.aW.length
theorem Y5{l:List au}{name:ByteArray}{g:au}(h:findF l name=some g):g∈l:=List.mem_of_find?_eq_some h
def AS(a b:ByteArray):Bool:= !(Op.bytesLess a.toList b.toList)
def oY(l:List au)(i:Nat):ByteArray:=match l[i]? with
 |some f=>f.name
 |none=>⟨#[]⟩
def kQ(l:List au)(i:Nat):Int:=match l[i]? with
 |none=>0
 |some f=>if fi f=0 then(if decide (0<i)&&AS (oY l (i - 1)) f.name then 1 else 0) else fi f
def vm(l:List au)(i:Nat):Bool:=match l[i]? with
 |none=>false
 |some f=> !tV f l
def cW(l:List au):Int×Int:=
 if 60<l.length then(0,2) else match (range l.length).find? fun i=>kQ l i !=0 with
 |some i=>(i,kQ l i)
 |none=>match (range l.length).find? (vm l) with
  |some i=>(i,82)
  |none=>(0,0)
theorem OJ{p:Nat->Bool}{n k:Nat}(hk:k<n)(hp:p k=true)(h:∀ j,j<k->p j=false):(range n).find? p=some k:=by
 rw[List.find?_eq_some_iff_getElem];refine⟨hp,k,by simpa using hk,oS,fun j hj=>?_⟩;simp[h j hj]
theorem OK{p:Nat->Bool}{n:Nat}(h:∀ j,j<n->p j=false):(range n).find? p=none:=by
 rw[List.find?_eq_none];intro x hx;simp[h x (List.mem_range.1 hx)]
end Go.Argus
namespace Go.Proofs.Tryz.K
theorem H9:prog.underlying 3=some (.int .i64):=kr
theorem af7:lM prog (la prog 194)=B false:=kr
theorem Ny{f:au}:aD prog 97 [.agg (aY f)] (B (ni f)):=by
 have bf:∀ a∈[D.agg (aY f)],Tr a:=.cons (.agg (nb f)) .nil;refine bj ajZ bf (.s _) ?_;rw[aj0];refine az ?_;refine ag ?_;refine af (bJ (fv (i:=0) (l:=[(1,.pt (aY f))]) rfl eH) (az ?_));have L6:=L6 (f:=f);refine SS ?_;refine cl L6 ?_;refine SS ?_;refine bL (fg (cs':=a6 _ _ _) rfl rfl rfl rfl) ak (bY V.h V.h (by first|(simp;done)|exact⟨rfl,bF rfl⟩|(simp;omega)) (by rfl)) ?_;refine af (bJ (fv (i:=1) (l:=[(1,.pt (aY f)),(3,.pt (a6 P0 Q0 f))]) rfl eH) (az ?_));refine bt ?_;refine dM ?_;refine ag ?_;refine af (bJ (fR (l:=[(1,.pt (aY f)),(3,.pt (a6 P0 Q0 f)),(4,B (vi f))]) ⟨rfl,rfl,congrArg B (hd3 (f.result==1) (f.result==2) (f.result==0) f.iter),trivial⟩) (aC (aj ?_)));have Lt:ni f=(tM f&&(xq f&&(JY f&&((range f.blocks.length).all (lF f)&&(range f.blocks.length).all (tB f))))):=rfl;rw[Lt];have M:tM f=(n9 f.name&&(jw f.args 0 (if(f.aW.length:Int)<6 then(f.aW.length:Int) else 6)&&(vi f&&(!decide ((1200:Int)<f.aW.length)&&(!decide ((60:Int)<f.cr.length)&&jw f.blocks.length 1 1200))))):=rfl;generalize lZ:vi f=res at M ⊢;refine ag ?_;refine cl rr ?_;refine fV ?_;refine bw rfl rfl (ad0 rfl rfl) (fun hc=>⟨ak,rfl⟩) ?_;refine gc mj ?_;refine bt ?_;refine bt ?_;refine aV ?_;refine gc mj ?_;refine ag ?_;refine af (ct rfl (fun h=>?_) fun h=>bX (aC (aj ?_)))
 .have h:=(VS _ _ _ _ _ _).symm.trans h;rw[<- M] at h;have h:tM f=false:=by simpa using h
  refine aC (aj ?_);refine SS ?_;refine af (ew (aJ (d:=B false) rfl ?_));rw[h];rfl
 have h:=(VS _ _ _ _ _ _).symm.trans h;rw[<- M] at h;have hh:tM f=true:=by simpa using h
 rw[hh,Bool.true_and];rw[M] at hh;simp only[ba,kP,Bool.not_eq_true',decide_eq_false_iff_not] at hh;obtain⟨_,ha,hr,Bn,U,dk⟩:=hh;subst hr;clear h M
 have yW:0<=f.args/\f.args<=f.aW.length/\f.args<=6:=by
  split at ha<;>omega
 have hK:xq f=(tK f.aW 3&&(tK (f.aW.take f.args.toNat) 2&&(tK f.cr 2&&(!decide ((6:Int)<f.signals.length)&& !f.signals.any fun s=> !isName s)))):=rfl;have G':=G' (l:=f.signals) (g:=127) (fs:=[]) (cs:=[]) (p:=fun s=> !isName s) (.fn oS oS) (fun x _=>ajT);have ha2:0<=f.args/\f.args<=f.aW.length:=⟨yW.1,yW.2.1⟩
 refine ag ?_;refine cl L4 ?_;refine cm ?_;refine bw rfl rfl (abp rfl HM c5 rfl AT ha2) (fun hc=>⟨(by repeat' (first|exact trivial|exact hc|exact rfl|refine And.intro ?_ ?_)),trivial⟩) ?_;refine gc L4 ?_;refine bA ?_;refine gc L4 ?_;refine bt ?_;refine ag ?_;refine gc G' ?_;refine SS ?_;refine af (ct rfl (fun h=>?_) fun h=>bX (aC (az ?_)))
 .have h:=(VT _ _ _ _ _).symm.trans h;rw[<- hK] at h;have h:xq f=false:=by simpa using h
  refine aC (aj ?_);refine SS ?_;refine af (ew (aJ (d:=B false) rfl ?_));rw[h];rfl
 have h:=(VT _ _ _ _ _).symm.trans h;rw[<- hK] at h;have hh:xq f=true:=by simpa using h
 rw[hh,Bool.true_and];rw[hK] at hh;simp only[ba,Bool.not_eq_true',decide_eq_false_iff_not] at hh;obtain⟨_,_,qo,hsg,_⟩:=hh;clear h hK G';have hS:JY f=(range (f.signals.length - 1)).all (vq f.signals):=rfl;rw[hS];have eY:f.signals.length<=6:=by omega
 refine SS ?_;refine af (cz (fun s=>aL prog s ⟨aA [(1,.pt (aY f)),(3,.pt (a6 P0 Q0 f))],fun _=>none,2⟩/\(range (f.signals.length - 1)).all (vq f.signals)=true) (nt (α:=Nat) (fun k=>⟨aA [(1,.pt (aY f)),(3,.pt (a6 P0 Q0 f)),(5,I (k+1:Nat))],fun _=>none,2⟩) (fun k=>k<=f.signals.length - 1/\(range k).all (vq f.signals)=true) (fun k=>f.signals.length - k) 0 (fR eH) ⟨Nat.zero_le _,rfl⟩ ?_) ?_)
 .rintro k ⟨hk,C⟩;refine bA ?_;refine af ⟨_,rfl,fun h=>?_,fun h=>?_⟩
  .have ah:k+1<f.signals.length:=by have:((k+1:Nat):Int)<f.signals.length:=by simpa using h
                                    omega
   have h1:f.signals[k]? =some f.signals[k]:=a8 oG;have h2:f.signals[k+1]? =some f.signals[k+1]:=a8 oG;have U:vq f.signals k=Op.bytesLess f.signals[k].toList f.signals[k+1].toList:=by rw[vq,getD_some h1,getD_some h2]
   generalize f.signals[k]=s1 at h1 U;generalize f.signals[k+1]=s2 at h2 U;have wc:((k+1:Nat):Int) - 1=(k:Int)/\ -9223372036854775808<=(k:Int)/\(k:Int)<=9223372036854775807:=by omega
   refine eg ZK ?_;refine bt ?_;refine ag ?_;refine ax (RZ rfl rfl) ak trivial ?_;refine cu cE (aR rfl (fun h=>?_) fun h=>c7 ?_)
   .have hf:vq f.signals k=false:=by rw[U];simpa using h
    refine ws ?_;refine SS ?_;refine af (bH (cv (bD (aJ (d:=B false) rfl ?_))));rw[qC oG hf];rfl
   .have ht:vq f.signals k=true:=by rw[U];simpa using h
    refine ay ?_;exact af (bh (k+1) (fR eH) ⟨oG,oV C ht⟩ oG)
  .have bq:¬ k+1<f.signals.length:=by intro hh;simp at h;omega
   have:k=f.signals.length - 1:=by omega
   subst this;exact⟨fR eH,C⟩
 rintro s ⟨hg,C⟩;rw[C,Bool.true_and];clear C hS;refine⟨_,hg,az ?_⟩;refine ag ?_;refine af (bJ (cq (l:=[(1,.pt (aY f)),(3,.pt (a6 P0 Q0 f)),(6,.mp 2)]) (ml:=[(2,.map (mX []))]) eH eH) (aC (az ?_)));refine aV ?_;generalize hn:f.blocks.length=n at dk ⊢;refine af (cz (fun s=>∃ N,aL prog s ⟨aA [(1,.pt (aY f)),(3,.pt (a6 P0 Q0 f))],fun _=>none,N⟩/\(range n).all (lF f)=true) (cy (α:=Nat×Nat) (fun k=>⟨aA [(1,.pt (aY f)),(3,.pt (a6 P0 Q0 f)),(6,.mp 2),(123,cL f.blocks),(124,I n),(125,I k.1)],bu [(2,.map (mX (o2 f.blocks k.1)))],k.2⟩) (fun k=>k.1<=n/\(range k.1).all (lF f)=true/\3<=k.2) (fun k=>n - k.1) (0,3) (cq eH eH) ⟨Nat.zero_le _,rfl,bc _⟩ ?_) ?_)
 .rintro⟨k,N⟩ ⟨hk,C,hN⟩;dsimp only at hk C hN ⊢;refine SS ?_;refine af ⟨_,rfl,fun h=>?_,fun h=>?_⟩
  .have ah:k<n:=by simpa using h
   have hx:f.blocks[k]? =some f.blocks[k]:=a8 oG;generalize f.blocks[k]=x at hx;have J:lF f k=(ji f x.fin&&(!decide ((200:Int)<x.ins.length)&& !(x.fin.kind==7&&(o2 f.blocks k).any (·==x.fin.a)))):=by rw[lF,getD_some hx]
   have X:=WM hx;have Ho:=Ho (f:=f) (x:=x.fin);generalize o2 f.blocks k=l at J X;refine az ?_;refine aV ?_;refine af (bJ (qG (i:=N) (l:=[(1,.pt (aY f)),(3,.pt (a6 P0 Q0 f)),(6,.mp 2),(8,.pt (bS x)),(123,cL f.blocks),(124,I n),(125,I k)]) (ml:=[(2,.map (mX l))]) (al _ _ _) ⟨rfl,rfl,rfl,lQ,rfl,rfl,rfl,trivial⟩ ⟨E3 oG (ai oG (ai oG rfl)) (acG l),trivial⟩) (aC (aj ?_)));generalize ji f x.fin=e at Ho J;refine ay ?_;refine cl Ho ?_;refine fV ?_;refine af (ct rfl (fun h=>?_) fun h=>bX (aj ?_))
   .have hf:lF f k=false:=by
     rw[J];cases e with
     |false=>rfl
     |true=>have:decide ((200:Int)<x.ins.length)=true:=by simpa using h
            rw[this];rfl
    refine aC (aj ?_);refine SS ?_;refine af (ew (cv (bD (aJ (d:=B false) rfl ?_))));rw[qC ah hf];rfl
   have J:lF f k= !(x.fin.kind==7&&l.any (·==x.fin.a)):=by
    rw[J];cases e with
    |false=>simp at h
    |true=>have:decide ((200:Int)<x.ins.length)=false:=by simpa using h
           rw[this];rfl
   refine aV ?_;refine af (aR rfl (fun h7=>?_) fun h7=>c7 ?_)
   .rw[h7] at J X;refine aC (aj ?_);refine aV ?_;refine ax (EW rfl rfl rfl K6 (adH af7 _ _)) aP ⟨K7,Sw H9 _,RE H9 _⟩ ?_;refine af (ct rfl (fun h=>?_) fun h=>bX (fF ?_))
    .have hf:lF f k=false:=by rw[J,h];rfl
     refine aC (aj ?_);refine SS ?_;refine af (ew (cv (bD (aJ (d:=B false) rfl ?_))));rw[qC ah hf];rfl
    .have ht:lF f k=true:=by rw[J,h];rfl
     refine aV ?_;refine bL (xB rfl rfl rfl rfl K6) aP ⟨K7,Sw H9 _,RE H9 _⟩ ?_;refine af ?_;refine ag ?_;refine af (bh (k+1,_) (cq eH ⟨?_,trivial⟩) ⟨oM,oV C ht,oM⟩ oM);dsimp only;rw[X,if_pos rfl, <- adI h];exact al _ _ _
   .rw[h7] at J X;refine ag ?_;refine af (bh (k+1,_) (cq eH ⟨?_,trivial⟩) ⟨oM,oV C J,oM⟩ oM);dsimp only;rw[X,if_neg oS];rfl
  .have bq:¬ k<n:=by simpa using h
   have:k=n:=by omega
   subst this;exact⟨N,fR eH,C⟩
 rintro s ⟨N,hg,C⟩;rw[C,Bool.true_and]
 have hE:∀ x∈f.blocks,GU f x.fin:=fun x hx=>by
  obtain⟨k,hk⟩:=ep hx;have ah:k<n:=by rw[<- hn];exact(bM.1 hk).1
  have:=bV.1 C k (by simpa using ah);rw[lF,getD_some hk] at this;simp only[ba] at this;exact QD oG lZ this.1
 have A7:=A7 (f:=f) lU lV rfl rfl hn oG (fun b h=>by have:=(hE b h).wh;omega) (fun b h t ht=>hn▸(hE b h).to t (Om.1 ht));refine⟨_,hg,aj ?_⟩;refine SS ?_;refine cl A7 ?_;refine SS ?_;refine af (aC (az ?_));refine aV ?_;refine af (cz (fun s=>(range n).all (tB f)=true) (cy (α:=Nat×Nat) (fun k=>⟨aA [(1,.pt (aY f)),(3,.pt (a6 P0 Q0 f)),(9,bT (kX f.blocks)),(157,cL f.blocks),(158,I n),(159,I k.1)],fun _=>none,k.2⟩) (fun k=>k.1<=n/\(range k.1).all (tB f)=true) (fun k=>n - k.1) (0,N) (fR ⟨rfl,rfl,rfl,rfl,congrArg (fun k:Nat=>I k) hn,rfl,trivial⟩) ⟨Nat.zero_le _,rfl⟩ ?_) ?_)
 .rintro⟨k,N⟩ ⟨hk,C⟩;dsimp only at hk C ⊢;refine SS ?_;refine af ⟨_,rfl,fun h=>?_,fun h=>?_⟩
  .have ah:k<n:=by simpa using h
   have hx:f.blocks[k]? =some f.blocks[k]:=a8 oG;have j6:f.blocks[k]∈f.blocks:=gi _;generalize f.blocks[k]=x at hx j6;have hA:=OY hn ah;have oR:tB f k=(range x.ins.length).all (qO f k x.ins):=by rw[tB,getD_some hx]
   have uO:∀ j,qO f k x.ins j=kY f k (x.ins.getD j xF) ((x.ins.take (j+1)).all ky) (df f.blocks n k).length:=fun j=>by rw[qO,hn]
   generalize df f.blocks n k=A at hA uO;refine az ?_;refine cm ?_;refine af (bJ (fv (i:=N) (l:=[(1,.pt (aY f)),(3,.pt (a6 P0 Q0 f)),(9,bT (kX f.blocks)),(10,I k),(11,.pt (bS x)),(157,cL f.blocks),(158,I n),(159,I k)]) (al _ _ _) ⟨rfl,rfl,rfl,rfl,lQ,rfl,rfl,rfl,trivial⟩) (aj ?_));refine SS ?_;refine af (az ?_);refine aV ?_
   have eI:x.ins.length<=200:=by
    have:=bV.1 ‹(range n).all (lF f)=true› k (by simpa using ah);rw[lF,getD_some hx] at this;simp only[ba,Bool.not_eq_true',decide_eq_false_iff_not] at this;omega
   refine af (cy (α:=Nat×Nat) (fun j=>⟨aA [(1,.pt (aY f)),(3,.pt (a6 P0 Q0 f)),(9,bT (kX f.blocks)),(10,I k),(12,B ((x.ins.take j.1).all ky)),(157,cL f.blocks),(158,I n),(159,I k),(165,lD x.ins),(166,I x.ins.length),(167,I j.1)],fun _=>none,j.2⟩) (fun j=>j.1<=x.ins.length/\(range j.1).all (qO f k x.ins)=true) (fun j=>x.ins.length - j.1) (0,N+1) (fR eH) ⟨Nat.zero_le _,rfl⟩ ?_);rintro⟨j,N⟩ ⟨hj,K8⟩;dsimp only at hj K8 ⊢;refine SS ?_;refine af ⟨_,rfl,fun h=>?_,fun h=>?_⟩
   .have dw:j<x.ins.length:=by simpa using h
    have hy:x.ins[j]? =some x.ins[j]:=a8 dw;generalize x.ins[j]=y at hy;have fu:(x.ins.take (j+1)).all ky=((x.ins.take j).all ky&&ky y):=by rw[List.take_add_one,hy,List.all_append];simp
    have uO:=uO j;rw[getD_some hy] at uO;generalize (x.ins.take j).all ky=ph at fu;refine az ?_;refine aV ?_;refine af (bJ (fv (i:=N) (l:=[(1,.pt (aY f)),(3,.pt (a6 P0 Q0 f)),(9,bT (kX f.blocks)),(10,I k),(12,B ph),(14,.pt (cA y)),(157,cL f.blocks),(158,I n),(159,I k),(165,lD x.ins),(166,I x.ins.length),(167,I j)]) (al _ _ _) ⟨rfl,rfl,rfl,rfl,rfl,lQ,rfl,rfl,rfl,rfl,rfl,rfl,trivial⟩) (az ?_));refine fV ?_;refine af (bJ (fR (l:=[(1,.pt (aY f)),(3,.pt (a6 P0 Q0 f)),(9,bT (kX f.blocks)),(10,I k),(12,B ((x.ins.take (j+1)).all ky)),(14,.pt (cA y)),(157,cL f.blocks),(158,I n),(159,I k),(165,lD x.ins),(166,I x.ins.length),(167,I j)]) ⟨rfl,rfl,rfl,rfl,?_,rfl,rfl,rfl,rfl,rfl,rfl,rfl,trivial⟩) (eg ZL ?_))
    .rw[fu];cases ph<;>rfl
    have Hp:=Hp (f:=f) (b:=(k:Int)) (ahead:=(A.length:Int)) (x:=y) (phis:=(x.ins.take (j+1)).all ky);rw[<- uO] at Hp;refine bt ?_;refine cl Hp ?_;refine SS ?_;refine cu cE (aR rfl (fun h=>?_) fun h=>c7 ?_)
    .have hf:qO f k x.ins j=false:=by simpa using h
     refine ws ?_;refine SS ?_;refine af (bH (cv (cv (bD (aJ (d:=B false) rfl ?_)))));rw[qC ah (by rw[oR];exact qC dw hf)]
    .have ht:qO f k x.ins j=true:=by simpa using h
     refine ag ?_;exact af (bh (j+1,_) (fR eH) ⟨oM,oV K8 ht⟩ oM)
   .have bq:¬ j<x.ins.length:=by simpa using h
    have DW:j=x.ins.length:=by omega
    subst DW;show av _ _ _ _ _ _ _ _ _;refine ag ?_;exact af (bh (k+1,_) (fR eH) ⟨oM,oV oN (oR.trans K8)⟩ oM)
  .have bq:¬ k<n:=by simpa using h
   have:k=n:=by omega
   subst this;show(range k).all (tB f)=true
   assumption
 .rintro⟨env,m,nx⟩ C;refine⟨_,.refl _,aj ?_⟩;refine SS ?_;refine af (aJ (d:=B true) rfl ?_);rw[C]
theorem qu{f:au}:aD prog 63 [.agg (aY f)] (I (fi f)):=by
 have M:∀ a∈[D.agg (aY f)],Tr a:=.cons (.agg (nb f)) .nil;refine bj aj1 M (.s _) ?_;rw[aj2];have Ny:=Ny (f:=f);refine az ?_;refine ag ?_;refine af (bJ (fv (i:=0) (l:=[(1,.pt (aY f))]) rfl eH) (w7 (aj ?_)));refine SS ?_;refine cl Ny ?_;refine ag ?_;refine af (aR rfl (fun h=>aj ?_) fun h=>aj ?_)
 .have hf:ni f=false:=by simpa using h
  refine SS ?_;refine af (bH (ez (bD (aJ (d:=I 80) rfl ?_))));rw[fi,if_neg (by simp[hf])]
 .have hf:ni f=true:=by simpa using h
  have C:=Ks hf;obtain⟨args,ha⟩:=iQ C.args.1;have X:=C.args.2;have H8:=H8 (p:=.s (.map none)) (q:=.s (.map none)) (f:=f) (.s _) (.s _) rfl rfl rfl C.pos (by have:=C.j7;omega) ha oG (OZ args) C.bG (fun b x hx y hy U=>C.phi hx hy U);have J:fi f=if tA f.blocks args=true then 0 else 81:=by rw[fi,if_pos hf,ha,iv]
  generalize tA f.blocks args=r at H8 J;refine ag ?_;refine cl H8 ?_;refine ag ?_;refine af (aR rfl (fun h=>aj ?_) fun h=>vA (aj ?_))
  .have hr:r=false:=by simpa using h
   refine SS ?_;refine af (bH (ez (bD (aJ (d:=I 81) rfl ?_))));rw[J,hr];rfl
  .have hr:r=true:=by simpa using h
   refine SS ?_;refine af (bH (aJ (d:=I 0) rfl ?_));rw[J,hr];rfl
theorem S8{P:Program}{t e:TypeId}(h1:bg P t=true)(h2:aF P t=e)(C:P.underlying e=some (.int .u8))(J:P.cellsOf e=1):qm P t:=⟨h1,by rw[h2];exact C,by rw[h2];exact J⟩
theorem Xh(a b:ByteArray):fj (a++b)=fj a++fj b:=by simp[fj]
def s5(m:Mem)(x:D)(a:ByteArray):Option Nat->Prop
 |none=>x=.z/\a=ByteArray.empty
 |some i=>x=.rs i 0 a.size/\m i=some (.cells (fj a) 5)
def clr(m:Mem):Option Nat->Mem
 |none=>m
 |some i=>up m i none
def y9(m:Mem)(nx j:Nat)(T:TypeId)(a:ByteArray)(o:Option Nat):Mem:=up (up (clr m o) nx (some (.cells (fj a) 5))) j (some (.bs true (.rs nx 0 a.size) T))
theorem aew{m:Mem}{nx j:Nat}{r r':Row}{c:Row}:up (up (up m j (some r)) nx (some c)) j (some r')=up (up m nx (some c)) j (some r'):=by
 funext k;simp only[B5];by_cases hj:k=j<;>simp[hj]
theorem aex{m:Mem}{nx i j:Nat}{r r':Row}{c:Row}:up (up (up (up m j (some r)) i none) nx (some c)) j (some r')=up (up (up m i none) nx (some c)) j (some r'):=by
 funext k;simp only[B5];by_cases hj:k=j<;>simp[hj]
theorem Hb{m:Mem}{nx j:Nat}{u:Bool}{x:D}{T:TypeId}{a s:ByteArray}{o:Option Nat}(hj:m j=some (.bs u x T))(hl:liesAt prog prog.depth T (2 / prog.cellsOf T) 0 183 1=true)
 (hb:s5 m x a o) (M:∀ i,o=some i->i≠j/\i<nx) (iR:j<nx) (C:a.size+s.size<=140737488355328):
 fG prog 119 [.rp j 0,S s] m nx fun d m' J=>d=.aM [I s.size,.s .nilIface]/\m'=y9 m nx j T (a++s) o/\J=nx+1:=by
 refine uP aey ?_;rw[aez];refine ws ?_;refine ag ?_;refine er ?_;refine ax (dO (v:=.rp _ _) rfl) aP trivial ?_;refine gm (ahN hj hl) rfl aP fun d m' J h=>?_;obtain⟨rfl,rfl,rfl⟩:=h;refine af ?_;dsimp only[St.put];refine ws ?_;have aq:up m j (some (Row.bs true x T)) j=some (.bs true x T):=al _ _ _;cases o with
 |none=>
  obtain⟨rfl,rfl⟩:=hb;replace C:s.size<=140737488355328:=by simpa using C
  refine aV ?_;refine rh (Fk rfl aq V.h V.h) ak ?_;refine SS ?_;refine G5 (YD rfl rfl V.h (S8 V.h V.h V.h V.h) V.h C V.h) ak ?_;refine ax (F7 rfl (ai oG aq)) ak trivial ?_;refine ax (rQ rfl (ai oG aq) V.h) ak (pV V.h) ?_;refine TO (PX rfl (ai oG aq) V.h V.h rfl rfl) ak ?_;refine er ?_;refine aV ?_;refine af (fH (d:=I s.size) (e:=.s .nilIface) rfl rfl ⟨rfl,?_,rfl⟩);show up (up (up m j (some (.bs true .z T))) _ (some (.cells (fj s) 5))) j (some (.bs true (.rs _ 0 s.size) T))=y9 m _ j T (ByteArray.empty++s) none;rw[aew,ByteArray.empty_append];rfl
 |some i=>
  obtain⟨rfl,hi⟩:=hb;have U:=(M i rfl).1;have X:=(M i rfl).2;have gT:up m j (some (Row.bs true (.rs i 0 a.size) T)) i=some (.cells (fj a) 5):=ai U hi;have hlen:(fj a).length=a.size:=by simp[fj]
  refine aV ?_;refine rh (Fk rfl aq V.h V.h) ak ?_;refine SS ?_;refine ag6 (aab rfl rfl gT V.h (S8 V.h V.h V.h V.h) V.h (by first|rfl|omega|(simp;done)|(simp;omega)) C V.h) ak ?_;refine ax (F7 rfl (ai oG (ai oG aq))) ak trivial ?_;refine ax (rQ rfl (ai oG (ai oG aq)) V.h) ak (pV V.h) ?_;refine TO (PX rfl (ai oG (ai oG aq)) V.h V.h rfl rfl) ak ?_;refine er ?_;refine aV ?_;refine af (fH (d:=I s.size) (e:=.s .nilIface) rfl rfl ⟨rfl,?_,rfl⟩);show up (up (up (up m j (some (.bs true (.rs i 0 a.size) T))) i none) _ (some (.cells ((fj a).drop 0++fj s) 5))) j (some (.bs true (.rs _ 0 (a.size+s.size)) T))=y9 m _ j T (a++s) (some i);rw[aex,List.drop_zero, <- Xh,y9,ByteArray.size_append];rfl
end Go.Proofs.Tryz.K
end
namespace Go.Abs
section
variable{P:Program}
end
section
variable{P:Program}{F F':Nat->Prop}{m:Mem}{nx:Nat}{β β':aE}{w w':World}
theorem aaB(hm:aK P F m β w)(hn:β nx=none){f:FuncId}{args es:List D}{n:Nat}{t:TypeId}{vs:Array Value}{dW:List D}{rds:List Nat}(eY:jr P rds m args dW)(hc:kv P f dW es n t)(kK:∀ d∈es,d.gn=true)(hR:Rs F β w args vs):
 Calls P f vs w fun e w'=>∃ v β',e=.returned v/\R F β' w' (.rs nx 0 n) v/\aK P F (up m nx (some (.cells es t))) β' w'/\Step β w β' w'/\∀ i,i≠nx->β' i=β i:=by
 obtain⟨g1,g2⟩:=CM (P:=P) (F:=F) (β:=β) (w:=w) (fun i hi r hr=>by
  obtain⟨p,hp,aq⟩:=hm.row i r hr
  exact⟨p,hp,aq,fun b hb=>hm.nf i p b hp hb⟩) eY
 refine(hc.2.2 F w vs hm.fb ⟨by rw[hR.1,g1],fun k d v hd hv=>?_⟩).mono ?_
 .have ah:k<args.length:=by rw[g1];exact(bM.1 hd).1
  exact g2 k args[k] d (by simp[ah]) hd v (hR.2 k args[k] v (by simp[ah]) hv)
 rintro e w' ⟨v,p,he,Ky,C,aq,hv,hk⟩;have fC:=hm.kept hk
 have hs:Step β w (up β nx (some p)) w':=by
  refine⟨hk.1,fun b hb hf=>⟨hk.2.1 b hb,fun i q hq=>?_⟩,fun i q hq=>.inl ?_,hk.2.2⟩
  .by_cases hi:i=nx
   .subst hi;rw[al] at hq;cases hq;intro e;have:=(C b e).1;omega
   .rw[aB _ _ hi] at hq;exact hf i q hq
  .rw[aB _ _ (fun e=>by rw[e,hn] at hq;cases hq)];exact hq
 have M:∀ i q b,up β nx (some p) i=some q->q.bG=some b->(i=nx/\q=p)\/(i≠nx/\β i=some q):=fun i q b hq _=>by
  by_cases hi:i=nx
  .subst hi;rw[al] at hq;cases hq;exact .inl ⟨rfl,rfl⟩
  .rw[aB _ _ hi] at hq;exact .inr ⟨hi,hq⟩
 have qW:cB P F (up β nx (some p)) w' (.cells es t) p:=by
  cases aq with
  |nil _=>exact .nil _
  |cells _ _ b o room sz c h1 h2 X h4 h5=>
   refine .cells es t b o room sz c h1 h2 X h4 fun k d hd=>?_;obtain⟨u,pq,pr,pu⟩:=h5 k d hd;exact⟨u,pq,J7 (kK d (bz hd)) pr,pu⟩
 refine⟨v,up β nx (some p),he,?_,?_,hs,fun i hi=>aB _ _ hi⟩
 .cases hv with
  |kG _ _ _ _ h _=>rw[al] at h;cases h;exact absurd rfl Ky
  |iO _ a h=>rw[al] at h;cases h;exact .iO nx a (al _ _ _)
  |jK _ _ a b o len room sz h=>rw[al] at h;cases h;exact .jK nx 0 a b o len room sz (al _ _ _)
  |rs _ _ _ cap b o len room sz h h1 h2 X h4=>rw[al] at h;cases h;exact .rs nx 0 n cap b o len room sz (al _ _ _) h1 h2 X h4
 .refine⟨fun i r hi=>?_,fun i j q q' b hq fm e J=>?_,fun i q b hq e=>?_,fun i q b hq e=>?_,fC.fb⟩
  .by_cases U:i=nx
   .subst U;rw[al] at hi;cases hi;exact⟨p,al _ _ _,qW⟩
   .rw[aB _ _ U] at hi;obtain⟨q,hq,Me⟩:=hm.row i r hi;exact⟨q,by rw[aB _ _ U];exact hq,Me.step hs fun b hb=>hk.2.1 b (hm.lt i q b hq hb)⟩
  .rcases M i q b hq e with⟨rfl,rfl⟩|⟨hi,h1⟩<;>rcases M j q' b fm J with⟨rfl,rfl⟩|⟨hj,h2⟩
   .rfl
   .have:=(C b e).1;have:=hm.lt j q' b h2 J;omega
   .have:=(C b J).1;have:=hm.lt i q b h1 e;omega
   .exact hm.inj i j q q' b h1 h2 e J
  .rcases M i q b hq e with⟨_,rfl⟩|⟨_,h1⟩
   .exact(C b e).2
   .exact fC.lt i q b h1 e
  .rcases M i q b hq e with⟨_,rfl⟩|⟨_,h1⟩
   .intro hF;have:=hm.fb.lt b hF;have:=(C b e).1;omega
   .exact hm.nf i q b h1 e
theorem kv.snap{f:FuncId}{args C es:List D}{n:Nat}{t:TypeId}{rds:List Nat}(U:jr P rds m args C)(h:kv P f C es n t)(kK:∀ d∈es,d.gn=true):
 fG P f args m nx fun d m' M=>d=.rs nx 0 n/\m'=up m nx (some (.cells es t))/\M=nx+1:=
 ⟨h.1,fun F β w vs hm hn hR=>(aaB hm (hn nx (bc _)) U h kK hR).mono fun e w' ⟨v,β',h1,h2,X,h4,J⟩=>
  ⟨v,_,_,_,β',h1,⟨rfl,rfl,rfl⟩,X,fun i hi=>by rw[J i oG];exact hn i oG,h2,h4,oG,fun i hi hb=>by rw[J i oG];exact hb⟩⟩
end
end Go.Abs
section
open Go Go.Abs Go.Proofs Go.Argus
namespace Go.Proofs.Tryz.K
theorem KS{l:List Int}{g:FuncId}{fs cs:List D}{p:Int->ByteArray}(hl:l.length<=1000000)(ht:Tr (.fn (.func g) fs cs))(hg:∀ x∈l,aD prog g (fs++[I x]++cs) (S (p x))):kv prog 201 [aQ l,.fn (.func g) fs cs] ((l.map p).map S) l.length 9:=by
 refine XE S9.he (.cons (c6 _) (.cons ht .nil)) fun U=>?_;have hlen:=(U (aQ l) oS).sl.1;unfold maxLen at hlen;refine HI S9 (.cons (c6 _) (.cons ht .nil)) (.map fun _=>.s _) ?_;rw[aeA];refine ws ?_;refine SS ?_;refine af (az ?_);refine SS ?_;refine af ⟨_,.sd _ _ _ 5 9 rfl,aC (az ?_)⟩;refine ay ?_
 refine af (cz (fun s=>∃ r m nx,aL prog s ⟨aA [(5,.rs r 0 l.length)],m,nx⟩/\m r=some (.cells ((l.map p).map S) 9)) (cy (α:=Nat×Nat×Mem×Nat)
  (fun s=>⟨aA [(1,.fn (.func g) fs cs),(5,.rs s.2.1 0 s.1),(8,aQ l),(9,I l.length),(10,I s.1)],s.2.2.1,s.2.2.2⟩)
  (fun s=>s.1<=l.length/\s.2.1<s.2.2.2/\s.2.2.1 s.2.1=some (.cells (((l.take s.1).map p).map S) 9)) (fun s=>l.length - s.1) (0,_,_,_)
  (aw eH) ⟨Nat.zero_le _,Nat.lt_succ_self _,rfl⟩ ?_) ?_)
 .rintro⟨j,r,m,nx⟩ ⟨hj,hr,aq⟩;dsimp only at hj hr aq ⊢;refine SS ?_;refine af ⟨_,rfl,fun h=>?_,fun h=>?_⟩
  .have M:j<l.length:=by simpa using h
   have hx:l[j]? =some l[j]:=by simp[M]
   have J:=hg l[j] (gi _)
   have C:((l.take (j+1)).map p).map S=((l.take j).map p).map S++[S (p l[j])]:=by
    rw[List.take_add_one,hx,List.map_append,List.map_append];rfl
   have X:(((l.take j).map p).map S).length=j:=by simp;omega
   generalize l[j]=x at hx J C;generalize ((l.take j).map p).map S=ds at aq C X;refine ws ?_;refine ay ?_;refine af (fF ?_);refine ay ?_;refine cl J ?_;refine ay ?_;refine af ?_;refine ag ?_;refine af (bh (j+1,nx+1,_,_) (aw eH) ⟨oM,oM,?_⟩ oM);dsimp only;rw[C];exact al _ _ _
  .have bq:¬ j<l.length:=by simpa using h
   have:j=l.length:=by omega
   subst this;rw[List.take_length] at aq;exact⟨r,m,nx,aw eH,aq⟩
 .rintro s ⟨r,m,nx,hg,aq⟩;refine⟨_,hg,aj ?_⟩;refine ag ?_;refine af (aJ rfl ⟨r,rfl,aq⟩)
theorem LI{l:List Int}{g:FuncId}{fs cs:List D}{p:Int->Int}(hl:l.length<=1000000)(ht:Tr (.fn (.func g) fs cs))(hg:∀ x∈l,aD prog g (fs++[U8 x]++cs) (I (p x))):aD prog 202 [iA l,.fn (.func g) fs cs] (aQ (l.map p)):=by
 refine mo Ta.he (.cons (o0 _) (.cons ht .nil)) fun U=>?_;have hlen:=(U (iA l) oS).sl.1;unfold maxLen at hlen;refine bj Ta (.cons (o0 _) (.cons ht .nil)) (c6 _) ?_;rw[aeB];refine ws ?_;refine SS ?_;refine af (az ?_);refine SS ?_;refine af ⟨_,.sd _ _ _ 5 3 rfl,aC (az ?_)⟩;refine ay ?_
 refine af (cz (fun s=>∃ r m nx,aL prog s ⟨aA [(5,.rs r 0 l.length)],m,nx⟩/\m r=some (.cells ((l.map p).map I) 3)) (cy (α:=Nat×Nat×Mem×Nat)
  (fun s=>⟨aA [(1,.fn (.func g) fs cs),(5,.rs s.2.1 0 s.1),(8,iA l),(9,I l.length),(10,I s.1)],s.2.2.1,s.2.2.2⟩)
  (fun s=>s.1<=l.length/\s.2.1<s.2.2.2/\s.2.2.1 s.2.1=some (.cells (((l.take s.1).map p).map I) 3)) (fun s=>l.length - s.1) (0,_,_,_)
  (aw eH) ⟨Nat.zero_le _,Nat.lt_succ_self _,rfl⟩ ?_) ?_)
 .rintro⟨j,r,m,nx⟩ ⟨hj,hr,aq⟩;dsimp only at hj hr aq ⊢;refine SS ?_;refine af ⟨_,rfl,fun h=>?_,fun h=>?_⟩
  .have M:j<l.length:=by simpa using h
   have hx:l[j]? =some l[j]:=by simp[M]
   have J:=hg l[j] (gi _)
   have C:((l.take (j+1)).map p).map I=((l.take j).map p).map I++[I (p l[j])]:=by
    rw[List.take_add_one,hx,List.map_append,List.map_append];rfl
   have X:(((l.take j).map p).map I).length=j:=by simp;omega
   generalize l[j]=x at hx J C;generalize ((l.take j).map p).map I=ds at aq C X;refine ws ?_;refine ay ?_;refine af (fF ?_);refine ay ?_;refine cl J ?_;refine ay ?_;refine af ?_;refine ag ?_;refine af (bh (j+1,nx+1,_,_) (aw eH) ⟨oM,oM,?_⟩ oM);dsimp only;rw[C];exact al _ _ _
  .have bq:¬ j<l.length:=by simpa using h
   have:j=l.length:=by omega
   subst this;rw[List.take_length] at aq;exact⟨r,m,nx,aw eH,aq⟩
 .rintro s ⟨r,m,nx,hg,aq⟩;refine⟨_,hg,az ?_⟩;refine ag ?_;refine af (bJ (fv aq (l:=[(4,aQ (l.map p))]) ⟨?_,trivial⟩) (aJ rfl rfl));exact(jR (by rw[c3];simp)).trans oS
theorem ahS{n:Int}:aD prog 203 [U8 n] (I (iy n)):=by
 refine bj aeC (by simp[Tr.s]) (Tr.s _) ?_;rw[aeD];refine ws ?_;refine SS ?_;refine er ?_;refine ay ?_;exact af (aJ rfl rfl)
theorem TX{l:List Int}(hl:l.length<=1000000):aD prog 147 [iA l] (aQ (l.map iy)):=by
 have LI:=LI (l:=l) (g:=203) (fs:=[]) (cs:=[]) (p:=iy) hl (.fn oS oS) fun x _=>ahS;refine bj aeE (.cons (o0 _) .nil) (c6 _) ?_;rw[aeF];refine ws ?_;refine SS ?_;refine er ?_;refine SS ?_;refine cl LI ?_;refine SS ?_;exact af (aJ rfl rfl)
theorem TY{m:Mem}{nx j k n:Nat}{u:Bool}{x:D}{a:ByteArray}{o:Option Nat}{wsq:List ByteArray}(hj:m j=some (.bs u x 213))(hk:m k=some (.cells (wsq.map S) 9))(hb:s5 m x a o)(hn:n=wsq.length)
 (U:∀ i,o=some i->i≠j/\i<nx) (X:j<nx) (hw:wsq.length<=1000000) (hs:a.size+(gV wsq).size<=140737488355328):
 fG prog 144 [.rp j 0,.rs k 0 n] m nx fun d m' J=>d=.aM []/\m'=y9 m nx j 213 (a++gV wsq) o/\J=nx+1:=by
 subst hn;have bC:(gV wsq).size=(Ay wsq ⟨#[32]⟩).size+1:=by rw[gV,ByteArray.size_append];rfl
 have LJ:=LJ (l:=wsq) (sep:=⟨#[32]⟩) oG (by
  have:(Ay wsq ⟨#[32]⟩).size=(Lib.join (wsq.map (·.data.toList)) [32]).length:=rfl;show(Lib.join (wsq.map (·.data.toList)) [32]).length<=_
  omega)
 have C:(0:Nat)=0->jr prog [k] m [.rs k 0 wsq.length,S ⟨#[32]⟩] [bZ wsq,S ⟨#[32]⟩]:=fun _=>⟨Aw hk oS (by rw[c9,List.drop_zero,dv oS]) (.map fun _=>.s _),cN (.s _),trivial⟩
 have Hb:=Hb (s:=gV wsq) hj acd hb U X hs;refine uP aeH ?_;rw[aeI];have aq:=hj;refine JO Y2 kr ?_
 have M:(Ay wsq ⟨#[32]⟩).size+(⟨#[10]⟩:ByteArray).size<=maxLen:=by
  show(Ay wsq ⟨#[32]⟩).size+1<=_;unfold maxLen;omega
 refine aV ?_;refine SY LJ rfl (C rfl) rfl ak ?_;refine rh (ad2 rfl rfl M) ak ?_;refine cu cE ?_;refine gm Hb rfl aP fun d m' J h=>?_;obtain⟨rfl,rfl,rfl⟩:=h;exact af (vz ⟨rfl,rfl,rfl⟩)
def CX(m:Mem)(nx j:Nat)(a:ByteArray)(o:Option Nat)(d:D)(m':Mem)(C:Nat):Prop:=
 d=.aM []/\∃ q,q≠j/\nx<=q/\q<C/\m' j=some (.bs true (.rs q 0 a.size) 213)/\m' q=some (.cells (fj a) 5)/\∀ i,i<nx->i≠j->o≠some i->m' i=m i
theorem Qk{m C:Mem}{nx n0 j:Nat}{a:ByteArray}{o:Option Nat}(hj:j<n0)(hn:n0<=nx)(hm:∀ i,i<n0->m i=C i):CX C n0 j a o (.aM []) (y9 m nx j 213 a o) (nx+1):=by
 refine⟨rfl,nx,oG,hn,oG,al _ _ _,(aB _ _ oG).trans (al _ _ _),fun i hi h1 h2=>?_⟩;refine((aB _ _ h1).trans (aB _ _ oG)).trans ?_;cases o with
 |none=>exact hm i hi
 |some k=>exact(aB _ _ (fun e=>h2 (by rw[e]))).trans (hm i hi)
theorem s5.mono{m m':Mem}{x:D}{a:ByteArray}{o:Option Nat}(h:s5 m x a o)(hm:∀ i,o=some i->m' i=m i):s5 m' x a o:=by
 cases o with
 |none=>exact h
 |some i=>exact⟨h.1,(hm i rfl).trans h.2⟩
theorem Hc{m:Mem}{nx j:Nat}{u:Bool}{x y:D}{a word:ByteArray}{o:Option Nat}{l:List Int}(hj:m j=some (.bs u x 213))(hb:s5 m x a o)
 (J:∀ i,o=some i->i≠j/\i<nx) (iR:j<nx) (hy:y=aQ l\/∃ k,k<nx/\y=.rs k 0 l.length/\m k=some (.cells (l.map I) 3)) (hi:∀ n∈l,i64 n) (hl:l.length<=100000)
 (hs:a.size+(gV (word::l.map eM)).size<=140737488355328):
 fG prog 146 [.rp j 0,S word,y] m nx (CX m nx j (a++gV (word::l.map eM)) o):=by
 have KS:=KS (l:=l) (g:=145) (fs:=[]) (cs:=[]) (p:=eM) oG (.fn oS oS) fun n hn=>TZ (hi n hn).1 (hi n hn).2;have U:Tr (.fn (.func 145) [] []):=.fn oS oS
 have key:∃ rds,jr prog rds (up m nx (some (.cells [S word] 9))) [y,.fn (.func 145) [] []] [aQ l,.fn (.func 145) [] []]:=by
  rcases hy with rfl|⟨k,hk,rfl,X⟩
  .exact⟨[],cN (c6 l),cN U,trivial⟩
  .exact⟨[k],Aw (ai oG X) oS (by rw[c3,List.drop_zero,dv oS]) (.map fun _=>.s _),cN U,trivial⟩
 obtain⟨rds,eY⟩:=key;have mA:=KS.snap (nx:=nx+1) eY (by simp[D.gn]);have C:y.core=y:=by rcases hy with rfl|⟨k,_,rfl,_⟩<;>rfl
 have M:y.ask:=by rcases hy with rfl|⟨k,_,rfl,_⟩<;>trivial
 refine uP aeJ ?_;rw[aeK];refine ly ?_;refine ay ?_;refine ax (dO (v:=y) C) (by repeat' (first|exact trivial|exact M|refine And.intro ?_ ?_)) trivial ?_;refine gm mA (by show some (201,[y.core,D.fn (Fn.func 145) [] []])=_;rw[C]) (by repeat' (first|exact trivial|exact C|exact M|exact rfl|refine And.intro ?_ ?_)) fun d m' ao h=>?_;obtain⟨rfl,rfl,rfl⟩:=h;dsimp only[St.put];refine jq (je rfl (ai oG (al _ _ _)) rfl V.h V.h (kN (al _ _ _) rfl) rfl) ak ⟨V.h,rfl,(by first|omega|exact bF rfl|(simp;done)|(simp;omega)),oC,(by first|rfl|(simp;done)|(simp;omega)),(by unfold maxLen;first|omega|(simp;omega)),(by rw[b9];first|omega|(simp;omega)),(by first|(simp;done)|(simp;omega))⟩ ?_;refine gm (TY (k:=nx+1+1) (wsq:=word::l.map eM) (ai oG (ai oG (ai oG (ai oG hj)))) ((al _ _ _).trans (by rw[List.drop_zero,List.drop_zero,dv oS];rfl)) (hb.mono fun i hi=>?_) oP (fun i hi=>⟨(J i hi).1,by have:=(J i hi).2;omega⟩) oG oP hs) rfl aP fun d m' ao h=>?_
 .have:=(J i hi).2;exact ai oG (ai oG (ai oG (ai oG rfl)))
 obtain⟨rfl,rfl,rfl⟩:=h;refine af (vz (Qk iR oG fun i hi=>?_));exact ai oG (ai oG (ai oG (ai oG rfl)))
theorem T2{m:Mem}{nx j:Nat}{u:Bool}{y:D}{a word:ByteArray}{o:Option Nat}{x:cV}(hj:m j=some (.bs u y 213))(hb:s5 m y a o)
 (C:∀ i,o=some i->i≠j/\i<nx) (iR:j<nx) (hi:Hd x) (hl:x.args.length<=10000) (hs:a.size+(T0 word x).size<=140737488355328):
 fG prog 148 [.rp j 0,S word,.agg (cA x)] m nx (CX m nx j (a++T0 word x) o):=by
 refine uP aeL ?_;rw[aeM];refine ws ?_;refine SS ?_;refine af (ly ?_);have aq:up m nx (some (Row.cells (cA x) 54)) nx=some (.cells [U8 x.op,I x.to,I x.a,I x.b,I x.n,aQ x.args] 54):=al _ _ _;have iL:(x.args.map I).take (x.args.length*1)=x.args.map I:=dv oS;refine bt ?_;refine bA ?_;refine ax (rQ rfl (ai oG aq) V.h) ak (pV V.h) ?_;refine ax (j9 rfl (ai oG aq) rfl V.h) ak (ka V.h V.h rfl) ?_;refine jq (je rfl (al _ _ _) rfl Bs c3 (qI iL) rfl) aP ⟨AQ,rfl,oS,oC,rfl,by unfold maxLen;omega,by rw[b3];omega,oS⟩ ?_;refine gm (Hc (y:=.rs (nx+1+1) 0 (5+x.args.length)) (l:=wg x) (word:=word) (ai oG (ai oG (ai oG (ai oG hj)))) (hb.mono fun i hi=>?_) (fun i hi=>⟨(C i hi).1,by have:=(C i hi).2;omega⟩) oG (.inr ⟨nx+1+1,oG,congrArg (D.rs _ 0) (by simp[wg];omega),al _ _ _⟩) hi (by simp[wg];omega) hs) rfl aP fun d m' ao h=>?_
 .have:=(C i hi).2;exact ai oG (ai oG (ai oG (ai oG rfl)))
 refine af (vz ?_);obtain⟨rfl,q,h1,h2,J,M,U,X⟩:=h;exact⟨rfl,q,h1,oG,J,M,U,fun i hi h7 h8=>(X i oG h7 h8).trans (ai oG (ai oG (ai oG (ai oG rfl))))⟩
theorem T3{m:Mem}{nx j i:Nat}{u:Bool}{a:ByteArray}{T:TypeId}(hj:m j=some (.bs u (.rs i 0 a.size) T))(hi:m i=some (.cells (fj a) 5))(h0:0<a.size)(hs:a.size<=140737488355328):
 fG prog 120 [.rp j 0] m nx fun d m' ao=>d=S a/\m'=up m i none/\ao=nx:=by
 refine uP aeN ?_;rw[aeO];refine ws ?_;refine SS ?_;refine af (eg Y3 ?_);have aq:=hj;have gT:=hi;have kn:=aaG a;have X:((fj a).drop 0).take a.size=lI (wj a):=by rw[List.drop_zero,dv (by simp[fj]),adp]
 have J:=h0;have M:(prog).underlying 229=some (.pointer 5):=kr;have U:a.size<=maxLen:=by unfold maxLen;omega
 have C:=aaH a;refine ay ?_;refine rh (Fk rfl aq V.h V.h) ak ?_;refine rh (abT rfl gT (by first|assumption|omega)) ak ?_;refine ay ?_;refine rh (Fk rfl aq V.h V.h) ak ?_;refine ax (F9 rfl gT) ak V.h ?_;refine ag7 (ac' (s:=.tmp 0) rfl rfl kn gT X J M c5 U C) aP ?_;refine SS ?_;refine cu cE (aJ rfl ⟨?_,rfl,rfl⟩);exact congrArg (fun s=>D.s (.string s)) (ace a)
end Go.Proofs.Tryz.K
namespace Go.Proofs.Tryz.K
def mI(q:Nat)(a:ByteArray):Mem:=bu [(1,.bs true (.rs q 0 a.size) 213),(q,.cells (fj a) 5)]
theorem rH{q:Nat}{a:ByteArray}:mI q a 1=some (.bs true (.rs q 0 a.size) 213):=by simp[mI,bu]
theorem MR{q:Nat}{a:ByteArray}(h:q≠1):mI q a q=some (.cells (fj a) 5):=by simp[mI,bu,h]
theorem ue{q:Nat}{a:ByteArray}(h:q≠1):s5 (mI q a) (.rs q 0 a.size) a (some q):=⟨rfl,MR h⟩
theorem sI{m m':Mem}{nx C:Nat}{U:List (List ByteArray)}{w:List ByteArray}{o:Option Nat}{d:D}(h:CX m nx 1 (eN U++gV w) o d m' C)(h1:1<nx):
 ∃ q,1<q/\nx<=q/\q<C/\∀ (env:Env) (l:List (Nat×D)),kV l env->aL prog ⟨env,m',C⟩ ⟨aA l,mI q (eN (U++[w])),C⟩:=by
 obtain⟨_,q,h2,X,h4,J,M,_⟩:=h;rw[<- QI] at J M;exact⟨q,oG,X,h4,fun env l hl=>cq hl ⟨J,M,trivial⟩⟩
theorem CY{m:Mem}{nx j k n:Nat}{u:Bool}{x:D}{a:ByteArray}{o:Option Nat}{wsq:List ByteArray}(hj:m j=some (.bs u x 213))(hk:m k=some (.cells (wsq.map S) 9))(hb:s5 m x a o)(hn:n=wsq.length)
 (J:∀ i,o=some i->i≠j/\i<nx) (C:j<nx) (M:wsq.length<=1000000) (hs:a.size+(gV wsq).size<=140737488355328):
 fG prog 144 [.rp j 0,.rs k 0 n] m nx (CX m nx j (a++gV wsq) o):=
 (TY hj hk hb hn J C M hs).mono fun d m' U h=>by
  obtain⟨rfl,rfl,rfl⟩:=h;exact Qk C (bc _) fun _ _=>rfl
theorem abw{σ:D->D}(h:∀ n,sub σ (.s n)=.s n)(a:ByteArray):(fj a).map (sub σ)=fj a:=by
 unfold fj;rw[List.map_map];exact List.map_congr_left fun c _=>h _
theorem GN{P:Program}{env:Env}{m:Mem}{nx n' q:Nat}{a:ByteArray}{cs:List D}{e:TypeId}{l:List (Nat×D)}(hm:m nx=some (.cells cs e))(h1:m 1=mI q a 1)(h2:m q=mI q a q)(bN:1<q)(C:q<nx)
 (hl:kV l fun t=>sub (cJ nx cs (P.cellsOf e)) (env t)):aL P ⟨env,m,n'⟩ ⟨aA l,mI q a,n'⟩:=by
 refine qG hm hl ⟨?_,?_,trivial⟩
 .show(if 1=nx then none else(m 1).map _)=_;rw[if_neg oG,h1,rH];show some (Row.bs true (sub (cJ nx cs (P.cellsOf e)) (.rs q 0 a.size)) 213)=_;rw[zP oG]
 .show(if q=nx then none else(m q).map _)=_;rw[if_neg oG,h2,MR oG];show some (Row.cells ((fj a).map (sub (cJ nx cs (P.cellsOf e)))) 5)=_;rw[abw fun _=>rfl]
theorem lC{i sz:Nat}{cs:List D}:sub (cJ i cs sz) (.rp i 0)=.pt cs:=lQ.trans (by rw[List.drop_zero])
theorem uQ{c g:au}{args:List Int}(ha:∀ r∈args,0<=r/\r<c.aW.length)(hg:g.args<=g.aW.length)(hl:args.length<=1000000):
 aD prog 99 [.agg (a6 dC dC c),.agg (aY g),aQ args] (B (pd c g args)):=by
 have M:∀ a∈[D.agg (a6 dC dC c),.agg (aY g),aQ args],Tr a:=.cons (kf (.s _) (.s _) c) (.cons (.agg (nb g)) (.cons (c6 _) .nil));refine bj ah0 M (Tr.s _) ?_;rw[ah1];refine az ?_;refine ay ?_;refine af (bJ (dE [(0,a6 dC dC c,113),(1,aY g,48)] eH (l:=[(2,aQ args),(3,.pt (a6 dC dC c)),(4,.pt (aY g))]) eH) (aC (aj ?_)));refine bA ?_;refine af (ct rfl (fun h=>aC (aj ?_)) fun h=>bX (aC (az ?_)))
 .have:¬ (args.length:Int)=g.args:=by simpa using h
  have hf:pd c g args=false:=by simp[pd,this]
  rw[hf];refine SS ?_;exact af (ew (aJ rfl rfl))
 have hlen:(args.length:Int)=g.args:=by simpa using h
 refine ay ?_
 refine af (cz (fun s=>aL prog s ⟨aA [],fun _=>none,2⟩/\∀ j,j<args.length->xY c g args j=true) (cy (α:=Nat) (fun k=>⟨aA [(3,.pt (a6 dC dC c)),(4,.pt (aY g)),(14,aQ args),(15,I args.length),(16,I k)],fun _=>none,2⟩)
  (fun k=>k<=args.length/\∀ j,j<k->xY c g args j=true) (fun k=>args.length - k) 0 (aw eH) ⟨oG,fun j hj=>by omega⟩ ?_) ?_)
 .rintro k ⟨hk,hinv⟩;refine SS ?_;refine af ⟨_,rfl,fun h=>?_,fun h=>?_⟩
  .have ah:k<args.length:=by simpa using h
   obtain⟨x,hx⟩:∃ x,args[k]? =some x:=⟨_,a8 ah⟩
   obtain⟨X,D2⟩:=ha x (bz hx);refine ws ?_;refine bA ?_;obtain⟨C,rfl⟩:∃ C:Nat,x=C:=⟨x.toNat,oG⟩
   obtain⟨u,hu⟩:∃ u,c.aW[C]? =some u:=⟨_,a8 oG⟩
   obtain⟨v,hv⟩:∃ v,g.aW[k]? =some v:=⟨_,a8 oG⟩
   refine af (eg aaI ?_);refine bt ?_;refine ay ?_;have J:xY c g args k=(u==v):=by simp[xY,o5,du,hx,hu,hv]
   refine cu cE (aR rfl (fun hp=>?_) fun hp=>?_)
   .have hf:pd c g args=false:=by
     have:(range args.length).all (xY c g args)=false:=by
      rw[List.all_eq_false];refine⟨k,List.mem_range.2 ah,?_⟩;rw[J];simpa using hp
     simp[pd,this]
    rw[hf];refine ws ?_;refine SS ?_;exact af (bH (cv (bD (aJ rfl rfl))))
   .refine c7 ?_;refine ag ?_;refine af (bh (k+1) (aw eH) ⟨oG,fun j hj=>?_⟩ oG);by_cases e:j=k
    .subst e;rw[J];simpa using hp
    .exact hinv j oG
  .have bq:¬ k<args.length:=by simpa using h
   exact⟨.forget _ _ _ _ fun _=>.inr rfl,fun j hj=>hinv j oG⟩
 .rintro s ⟨hg,U⟩;refine⟨_,hg,aj ?_⟩
  have:(range args.length).all (xY c g args)=true:=by
   rw[bV];intro j hj;exact U j (List.mem_range.1 hj)
  have hf:pd c g args=true:=by simp[pd,hlen,this]
  rw[hf];refine SS ?_;exact af (aJ rfl rfl)
end Go.Proofs.Tryz.K
namespace Go.Proofs.Tryz.K
theorem KT{n:Int}(h:i64 n):aD prog 145 [I n] (S (eM n)):=TZ h.1 h.2
theorem acf{f:au}(j5:fi f=0)(ht:CE f):aD prog 111 [.agg (aY f)] (.aM [S (lO f),I 0]):=by
 have qu:=qu (f:=f);rw[j5] at qu;have kR:=TX (l:=f.aW) (by have:=ht.aW;omega);have kS:=TX (l:=f.cr) (by have:=ht.cr;omega);have hsg:=ht.sigs
 have T4:∀ l:List Int,∀ n∈l.map iy,i64 n:=fun l n hn=>by
  obtain⟨x,_,rfl⟩:=List.mem_map.1 hn;exact zV x
 have U6:(eN []).size+(gV [xX,f.name,sH f,eM f.args,eM (iy f.result)]).size<=140737488355328:=ht.le ⟨_,rfl⟩;have U7:(eN [[xX,f.name,sH f,eM f.args,eM (iy f.result)]]).size+(gV (Az::(f.aW.map iy).map eM)).size<=140737488355328:=ht.le ⟨_,rfl⟩;have U9:(eN [[xX,f.name,sH f,eM f.args,eM (iy f.result)],Az::(f.aW.map iy).map eM]).size+(gV (CF::(f.cr.map iy).map eM)).size<=140737488355328:=ht.le ⟨_,rfl⟩;have U':(eN [[xX,f.name,sH f,eM f.args,eM (iy f.result)],Az::(f.aW.map iy).map eM,CF::(f.cr.map iy).map eM]).size+(gV (EZ::f.signals)).size<=140737488355328:=ht.le ⟨_,rfl⟩;refine bj Tb (.cons (.agg (nb f)) .nil) (.aM (.cons (.s _) (.cons (.s _) .nil))) ?_;rw[Tc];refine az ?_;refine ay ?_;refine af (bJ (dE [(0,aY f,48)] eH (l:=[(1,.pt (aY f))]) eH) (aC (aj ?_)));refine SS ?_;refine cl qu ?_;refine SS ?_;refine af (aC (aj ?_));refine ag ?_;refine af (nv (bX (aj ?_)));refine SS ?_;refine G5 (ada rfl rfl rfl V.h) ak ?_;refine ax (jT (v:=.rp _ _) rfl) ak trivial ?_;refine er ?_;refine SS ?_;refine af (iC (fun s=>aL prog s ⟨aA [(1,.pt (aY f)),(5,.rp 1 0),(6,S (sH f))],bu [(1,.bs false .z 213)],2⟩) (aj ?_) fun s hs=>⟨_,hs,WA Y4 kr ?_⟩)
 .refine ag ?_;refine af (aR rfl (fun hi=>?_) fun hi=>?_)
  .refine ly ?_;refine SS ?_;refine af (cq ⟨rfl,rfl,?_,trivial⟩ eH);rw[sH,hi];rfl
  .refine c7 (cq ⟨rfl,rfl,?_,trivial⟩ eH);rw[sH,hi];rfl
 refine cm ?_;refine nu (KT ht.args) rfl aP ?_;refine ay ?_;refine nu (KT (zV f.result)) rfl aP ?_;refine SS ?_;refine cu cE ?_;refine gm (CY (wsq:=[xX,f.name,sH f,eM f.args,eM (iy f.result)]) (a:=eN []) (o:=none) rfl rfl ⟨rfl,rfl⟩ rfl (fun i hi=>by cases hi) oG oS U6) rfl aP fun d m nx h=>?_;refine af ?_;dsimp only[St.put];obtain⟨q,bN,_,C,hg⟩:=sI h oG;refine⟨_,hg _ [(1,.pt (aY f)),(5,.rp 1 0)] ⟨rfl,rfl,trivial⟩,az ?_⟩;clear hg h;refine ay ?_;refine nu kR rfl aP ?_;refine gm (Hc (word:=Az) rH (ue oG) (fun i hi=>by cases hi;omega) oG (.inl rfl) (T4 _) (by simp;have:=ht.aW;omega) U7) rfl aP fun d m nx h=>?_;refine af ?_;dsimp only[St.put];obtain⟨q,bN,_,C,hg⟩:=sI h oG;refine⟨_,hg _ [(1,.pt (aY f)),(5,.rp 1 0)] ⟨rfl,rfl,trivial⟩,az ?_⟩;clear hg h;refine ay ?_;refine nu kS rfl aP ?_;refine gm (Hc (word:=CF) rH (ue oG) (fun i hi=>by cases hi;omega) oG (.inl rfl) (T4 _) (by simp;have:=ht.cr;omega) U9) rfl aP fun d m nx h=>?_;refine af ?_;dsimp only[St.put];obtain⟨q,bN,_,C,hg⟩:=sI h oG;refine⟨_,hg _ [(1,.pt (aY f)),(5,.rp 1 0)] ⟨rfl,rfl,trivial⟩,az ?_⟩;clear hg h;have X:(f.signals.map S).take (f.signals.length*1)=f.signals.map S:=dv oS;refine aV ?_;refine jq (je rfl (al _ _ _) rfl rI c9 (qI X) rfl) aP ⟨uu,rfl,oS,oC,rfl,by unfold maxLen;omega,by rw[b9];omega,oS⟩ ?_;refine gm (CY (wsq:=EZ::f.signals) (ai oG (ai oG (ai oG rH))) (al _ _ _) ((ue oG).mono fun i hi=>?_) oP (fun i hi=>by cases hi;omega) oG oP U') rfl aP fun d m nx h=>?_
 .cases hi;exact ai oG (ai oG (ai oG rfl))
 refine af ?_;dsimp only[St.put];obtain⟨q,bN,_,C,hg⟩:=sI h oG;refine⟨_,hg _ [(1,.pt (aY f)),(5,.rp 1 0)] ⟨rfl,rfl,trivial⟩,aC (az ?_)⟩;clear hg h;refine aV ?_;have LK:kL f f.blocks.length=jW f:=by rw[kL,List.take_length];rfl
 have dk:=ht.LL
 refine af (cz (fun s=>∃ q nx,1<q/\q<nx/\aL prog s ⟨aA [(5,.rp 1 0)],mI q (eN (jW f)),nx⟩) (cy (α:=Nat×Nat×Nat)
  (fun s=>⟨aA [(5,.rp 1 0),(53,cL f.blocks),(54,I f.blocks.length),(55,I s.1)],mI s.2.1 (eN (kL f s.1)),s.2.2⟩)
  (fun s=>s.1<=f.blocks.length/\1<s.2.1/\s.2.1<s.2.2) (fun s=>f.blocks.length - s.1) (0,q,nx)
  (aw eH) ⟨Nat.zero_le _,bN,C⟩ ?_) ?_)
 .clear U6 U7 U9 U' kR kS bN C X;rintro⟨k,q,nx⟩ ⟨hk,bN,C⟩;dsimp only at hk bN C ⊢;refine SS ?_;refine af ⟨_,rfl,fun h=>?_,fun h=>?_⟩
  .have gM:k<f.blocks.length:=by simpa using h
   clear h;obtain⟨b,hb⟩:∃ b,f.blocks[k]? =some b:=⟨_,a8 gM⟩
   have l5:=bz hb;have MO:=ht.ahW b l5;have MP:=ht.ins b l5;have M:=ht.fin b l5;refine az ?_;refine aV ?_;refine af ⟨_,GN (cs:=bS b) (e:=59) (al _ _ _) (ai oG (ai oG rfl)) (ai oG (ai oG rfl)) bN C (l:=[(5,.rp 1 0),(53,cL f.blocks),(54,I f.blocks.length),(55,I k),(8,.pt (bS b))]) ⟨gk oG,rfl,rfl,rfl,lC,trivial⟩,az ?_⟩;refine ag ?_;refine gm (CY (wsq:=[o4]) (ai oG rH) (al _ _ _) ((ue oG).mono fun i hi=>by cases hi;exact(ai oG rfl)) rfl (fun i hi=>by cases hi;omega) oG oS (ht.le (IN hb ⟨_,rfl⟩))) rfl aP fun d m nx h=>?_;refine af ?_;dsimp only[St.put];obtain⟨q,bN,_,C,hg⟩:=sI h oG;refine⟨_,hg _ [(5,.rp 1 0),(53,cL f.blocks),(54,I f.blocks.length),(55,I k),(8,.pt (bS b))] ⟨rfl,rfl,rfl,rfl,rfl,trivial⟩,aC (az ?_)⟩;clear hg h;refine aV ?_
   refine af (cz (fun s=>∃ q nx,1<q/\q<nx/\aL prog s ⟨aA [(5,.rp 1 0),(53,cL f.blocks),(54,I f.blocks.length),(55,I k),(8,.pt (bS b))],mI q (eN (kL f k++([o4]::q6 b))),nx⟩) (cy (α:=Nat×Nat×Nat)
    (fun s=>⟨aA [(5,.rp 1 0),(53,cL f.blocks),(54,I f.blocks.length),(55,I k),(8,.pt (bS b)),(63,lD b.ins),(64,I b.ins.length),(65,I s.1)],mI s.2.1 (eN (kL f k++([o4]::(b.ins.take s.1).map (nK sO)))),s.2.2⟩)
    (fun s=>s.1<=b.ins.length/\1<s.2.1/\s.2.1<s.2.2) (fun s=>b.ins.length - s.1) (0,q,nx)
    (aw eH) ⟨Nat.zero_le _,bN,C⟩ ?_) ?_)
   .clear bN C;rintro⟨i,q,nx⟩ ⟨hi,bN,C⟩;dsimp only at hi bN C ⊢;refine SS ?_;refine af ⟨_,rfl,fun h=>?_,fun h=>?_⟩
    .have eD:i<b.ins.length:=by simpa using h
     clear h;obtain⟨x,hx⟩:∃ x,b.ins[i]? =some x:=⟨_,a8 eD⟩
     have j6:=MP x (bz hx);have he:kL f k++([o4]::(b.ins.take (i+1)).map (nK sO))=(kL f k++([o4]::(b.ins.take i).map (nK sO)))++[nK sO x]:=by rw[List.take_add_one,hx];simp
     have ra:(kL f k++([o4]::(b.ins.take i).map (nK sO)))++[nK sO x]<+:jW f:=by
      rw[<- he];refine IN hb ?_;unfold lJ q6;refine(List.cons_prefix_cons).2 ⟨rfl,?_⟩;exact((List.take_prefix _ _).map _).trans (List.prefix_append _ _)
     refine az ?_;refine aV ?_;refine af ⟨_,GN (cs:=cA x) (e:=54) (al _ _ _) (ai oG (ai oG rfl)) (ai oG (ai oG rfl)) bN C (l:=[(5,.rp 1 0),(53,cL f.blocks),(54,I f.blocks.length),(55,I k),(63,lD b.ins),(64,I b.ins.length),(65,I i),(8,.pt (bS b)),(10,.pt (cA x))]) ⟨gk oG,rfl,rfl,rfl,rfl,rfl,rfl,rfl,lC,trivial⟩,fF ?_⟩;refine ag ?_;refine gm (T2 (x:=x) (word:=sO) rH (ue oG) (fun i hi=>by cases hi;omega) oG j6.1 j6.2 (ht.le ra)) rfl aP fun d m nx h=>?_;refine af ?_;dsimp only[St.put];obtain⟨q,bN,_,C,hg⟩:=sI (w:=nK sO x) h oG;refine ag ?_;refine af (bh (i+1,q,nx) ?_ ⟨oM,bN,C⟩ oM);dsimp only;rw[he];exact hg _ _ ⟨rfl,rfl,rfl,rfl,rfl,rfl,rfl,rfl,trivial⟩
    .have bq:¬ i<b.ins.length:=by simpa using h
     have:i=b.ins.length:=by omega
     subst this;rw[List.take_length];exact⟨q,nx,bN,C,aw eH⟩
   clear bN C;rintro s ⟨q,nx,bN,C,hg⟩;refine⟨_,hg,az ?_⟩;clear hg;refine ay ?_;refine bL (fg (cs':=bE _) rfl rfl (al _ _ _) rfl) ak (bY V.h V.h (by first|(simp;done)|exact⟨rfl,bF rfl⟩|(simp;omega)) (by rfl)) ?_;refine af ⟨_,GN (cs:=bE b.fin) (e:=57) (al _ _ _) (ai oG (ai oG rfl)) (ai oG (ai oG rfl)) bN C (l:=[(5,.rp 1 0),(53,cL f.blocks),(54,I f.blocks.length),(55,I k),(11,.pt (bE b.fin))]) ⟨gk oG,rfl,rfl,rfl,lC,trivial⟩,az ?_⟩;generalize hfx:b.fin=x at*
   have X:(x.args.map I).take (x.args.length*1)=x.args.map I:=dv oS;have s6:=M.2.1;have hwl:=M.2.2.2.2.1;have hB:lJ b=[o4]::(q6 b++(rk x::(jX x++(lj x++x.aU.map lP)))):=by unfold lJ;rw[hfx]
   have U:∀ A,A<+:jX x++(lj x++x.aU.map lP)->((kL f k++([o4]::q6 b))++[rk x])++A<+:jW f:=fun A hA=>by
    have:=IN hb (p:=[o4]::(q6 b++(rk x::A))) (by
     rw[hB]
     exact(List.cons_prefix_cons).2 ⟨rfl,(List.prefix_append_right_inj _).2 ((List.cons_prefix_cons).2 ⟨rfl,hA⟩)⟩)
    simpa[List.append_assoc] using this
   refine bt ?_;refine dM ?_;refine jq (je rfl (al _ _ _) rfl Bs c3 (qI X) rfl) aP ⟨AQ,rfl,oS,oC,rfl,by unfold maxLen;omega,by rw[b3];omega,oS⟩ ?_;refine gm (Hc (y:=.rs (nx+1+1) 0 (6+x.args.length)) (l:=uv x) (word:=Du) (ai oG (ai oG (ai oG rH))) ((ue oG).mono fun i hi=>by cases hi;exact(ai oG (ai oG (ai oG rfl)))) (fun i hi=>by cases hi;omega) oG (.inr ⟨nx+1+1,oG,congrArg (D.rs _ 0) (by simp[uv];omega),al _ _ _⟩) M.1 (by simp[uv];omega) (ht.le (p:=kL f k++([o4]::q6 b)) (l:=rk x) (by simpa using U [] List.nil_prefix))) rfl aP fun d m nx h=>?_;refine af ?_;dsimp only[St.put];obtain⟨q,bN,_,C,hg⟩:=sI (w:=rk x) h oG;generalize HJ:(kL f k++([o4]::q6 b))++[rk x]=T1 at*
   refine⟨_,hg _ [(5,.rp 1 0),(53,cL f.blocks),(54,I f.blocks.length),(55,I k),(11,.pt (bE x))] ⟨rfl,rfl,rfl,rfl,rfl,trivial⟩,iC (fun s=>∃ q nx,1<q/\q<nx/\aL prog s ⟨aA [(5,.rp 1 0),(53,cL f.blocks),(54,I f.blocks.length),(55,I k),(11,.pt (bE x))],mI q (eN (T1++jX x)),nx⟩) (aj ?_) fun s hs=>?_⟩
   .refine ay ?_;refine af (aR rfl (fun hn=>?_) fun hn=>?_)
    .have J:jX x=[[GO,x.name]]:=by
      unfold jX;rw[if_neg];intro he;simp[he] at hn
     refine ly ?_;refine aV ?_;refine gm (CY (wsq:=[GO,x.name]) (ai oG rH) (al _ _ _) ((ue oG).mono fun i hi=>by cases hi;exact(ai oG rfl)) rfl (fun i hi=>by cases hi;omega) oG oS (ht.le (U _ (by rw[J];exact List.prefix_append _ _)))) rfl aP fun d m nx h=>?_;refine af ?_;dsimp only[St.put];obtain⟨q,bN,_,C,hg⟩:=sI h oG;rw[J];exact⟨q,nx,bN,C,hg _ _ ⟨rfl,rfl,rfl,rfl,rfl,trivial⟩⟩
    .have J:jX x=[]:=by
      unfold jX;rw[if_pos];by_cases he:x.name.toList=[]
      .exact he
      .simp[he] at hn
     rw[J,List.append_nil];exact c7 ⟨q,nx,bN,C,aw eH⟩
   clear hg h bN C;obtain⟨q,nx,bN,C,hg⟩:=hs;refine⟨_,hg,iC (fun s=>∃ q nx,1<q/\q<nx/\aL prog s ⟨aA [(5,.rp 1 0),(53,cL f.blocks),(54,I f.blocks.length),(55,I k),(11,.pt (bE x))],mI q (eN ((T1++jX x)++lj x)),nx⟩) (aj ?_) fun s hs=>?_⟩
   .refine ay ?_;refine af (aR rfl (fun hn=>?_) fun hn=>?_)
    .have J:lj x=[nK AR x.ins]:=by
      unfold lj;rw[if_pos];simpa using hn
     have MQ:(T1++jX x)++[nK AR x.ins]<+:jW f:=by
      rw[List.append_assoc];refine U _ ((List.prefix_append_right_inj _).2 ?_);rw[J];exact List.prefix_append _ _
     refine ly ?_;refine ay ?_;refine gm (T2 (x:=x.ins) (word:=AR) rH (ue oG) (fun i hi=>by cases hi;omega) oG M.2.2.1 M.2.2.2.1 (ht.le MQ)) rfl aP fun d m nx h=>?_;refine af ?_;dsimp only[St.put];obtain⟨q,bN,_,C,hg⟩:=sI (w:=nK AR x.ins) h oG;rw[J];exact⟨q,nx,bN,C,hg _ _ ⟨rfl,rfl,rfl,rfl,rfl,trivial⟩⟩
    .have J:lj x=[]:=by
      unfold lj;rw[if_neg];simpa using hn
     rw[J,List.append_nil];exact c7 ⟨q,nx,bN,C,aw eH⟩
   clear hg bN C;obtain⟨q,nx,bN,C,hg⟩:=hs;refine⟨_,hg,az ?_⟩;clear hg;refine aV ?_
   refine af (cy (α:=Nat×Nat×Nat)
    (fun s=>⟨aA [(5,.rp 1 0),(53,cL f.blocks),(54,I f.blocks.length),(55,I k),(110,lz x.aU),(111,I x.aU.length),(112,I s.1)],mI s.2.1 (eN (((T1++jX x)++lj x)++(x.aU.take s.1).map lP)),s.2.2⟩)
    (fun s=>s.1<=x.aU.length/\1<s.2.1/\s.2.1<s.2.2) (fun s=>x.aU.length - s.1) (0,q,nx)
    (by dsimp only;rw[List.take_zero,List.map_nil,List.append_nil];exact aw eH) ⟨Nat.zero_le _,bN,C⟩ ?_)
   clear bN C;rintro⟨i,q,nx⟩ ⟨hi,bN,C⟩;dsimp only at hi bN C ⊢;refine SS ?_;refine af ⟨_,rfl,fun h=>?_,fun h=>?_⟩
   .have eD:i<x.aU.length:=by simpa using h
    clear h;obtain⟨w,hw⟩:∃ w,x.aU[i]? =some w:=⟨_,a8 eD⟩
    have Mr:=M.2.2.2.2.2 w (bz hw);have he:((T1++jX x)++lj x)++(x.aU.take (i+1)).map lP=(((T1++jX x)++lj x)++(x.aU.take i).map lP)++[lP w]:=by rw[List.take_add_one,hw];simp
    have MQ:(((T1++jX x)++lj x)++(x.aU.take i).map lP)++[lP w]<+:jW f:=by
     rw[<- he,List.append_assoc,List.append_assoc];exact U _ ((List.prefix_append_right_inj _).2 ((List.prefix_append_right_inj _).2 ((List.take_prefix _ _).map _)))
    refine az ?_;refine aV ?_;refine af ⟨_,GN (cs:=gR w) (e:=79) (al _ _ _) (ai oG (ai oG rfl)) (ai oG (ai oG rfl)) bN C (l:=[(5,.rp 1 0),(53,cL f.blocks),(54,I f.blocks.length),(55,I k),(110,lz x.aU),(111,I x.aU.length),(112,I i),(13,.pt (gR w))]) ⟨gk oG,rfl,rfl,rfl,rfl,rfl,rfl,lC,trivial⟩,JO XW kr ?_⟩;refine bA ?_;refine nu (KT Mr) rfl aP ?_;refine SS ?_;refine cu cE ?_;refine gm (CY (wsq:=lP w) (ai oG rH) (al _ _ _) ((ue oG).mono fun i hi=>by cases hi;exact(ai oG rfl)) rfl (fun i hi=>by cases hi;omega) oG (by simp[lP]) (ht.le MQ)) rfl aP fun d m nx h=>?_;refine af ?_;dsimp only[St.put];obtain⟨q,bN,_,C,hg⟩:=sI (w:=lP w) h oG;show av prog cZ (Z dH 31) false [] _ (Z dH 31).toList _ [];refine ag ?_;refine af (bh (i+1,q,nx) ?_ ⟨oM,bN,C⟩ oM);dsimp only;rw[he];exact hg _ _ ⟨rfl,rfl,rfl,rfl,rfl,rfl,rfl,trivial⟩
   .have bq:¬ i<x.aU.length:=by simpa using h
    have:i=x.aU.length:=by omega
    subst this;rw[List.take_length];show av prog cZ (Z dH 32) false [] _ (Z dH 32).toList _ [];refine ag ?_;refine af (bh (k+1,q,nx) ?_ ⟨oM,bN,C⟩ oM);dsimp only;rw[Ql hb,show kL f k++lJ b=((T1++jX x)++lj x)++x.aU.map lP by rw[hB, <- HJ];simp[List.append_assoc]];exact aw eH
  .have bq:¬ k<f.blocks.length:=by simpa using h
   have:k=f.blocks.length:=by omega
   subst this;rw[LK];exact⟨q,nx,bN,C,aw eH⟩
 .rintro s ⟨q,nx,bN,C,hg⟩;refine⟨_,hg,aj ?_⟩
  have h0:0<(eN (jW f)).size:=by
   show 0<(gV _++eN _).size;rw[ByteArray.size_append,gV,ByteArray.size_append];have:(⟨#[10]⟩:ByteArray).size=1:=rfl;omega
  refine SS ?_;refine ax (F7 rfl rfl) ak trivial ?_;refine SS ?_;refine gm (T3 rH (MR oG) h0 ht.size) rfl aP fun d m nx h=>?_;obtain⟨rfl,rfl,rfl⟩:=h;dsimp only[St.put];refine ag ?_;exact af (fH rfl rfl rfl)
theorem He{f:au}(ht:fi f=0->CE f):aD prog 111 [.agg (aY f)] (.aM [S (if fi f=0 then lO f else⟨#[]⟩),I (fi f)]):=by
 by_cases C:fi f=0
 .have h:=acf C (ht C);rw[if_pos C,C];exact h
 rw[if_neg C];have qu:=qu (f:=f);refine bj Tb (.cons (.agg (nb f)) .nil) (.aM (.cons (.s _) (.cons (.s _) .nil))) ?_;rw[Tc];generalize fi f=e at*
 have sN:(e !=0)=true:=by simpa using C
 refine az ?_;refine ay ?_;refine af (bJ (dE [(0,aY f,48)] eH (l:=[(1,.pt (aY f))]) eH) (aC (aj ?_)));refine SS ?_;refine cl qu ?_;refine SS ?_;refine af (aC (aj ?_));refine ag ?_;refine af (GL (aC (aj ?_)));refine ay ?_;exact af (ew (fH rfl rfl rfl))
theorem ahX{f:au}{name:ByteArray}:aD prog 116 [.agg (aY f),.pt [S name]] (B (f.name.toList==name.toList)):=by
 refine bj aeP (.cons (.agg (nb f)) (.cons (.pt (.cons (.s _) .nil)) .nil)) (Tr.s _) ?_;rw[aeQ];refine az ?_;refine ag ?_;refine af (bJ (dE [(0,aY f,48)] eH (l:=[(1,.pt [S name]),(2,.pt (aY f))]) eH) (aj ?_));refine bA ?_;exact af (aJ rfl rfl)
theorem yu{l:List au}{g:FuncId}{fs cs:List D}{p:au->Bool}(hl:l.length<=1000000)(ht:Tr (.fn (.func g) fs cs))(hg:∀ x∈l,aD prog g (fs++[.agg (aY x)]++cs) (B (p x))):aD prog 115 [bi l,.fn (.func g) fs cs] (I (mH p l)):=by
 refine bj aeR (.cons (iB _) (.cons ht .nil)) (Tr.s _) ?_;rw[aeS];refine ws ?_;refine SS ?_;refine af (aC (az ?_));refine ay ?_
 refine af (cz (fun s=>aL prog s ⟨aA [],fun _=>none,0⟩/\∀ (j:Nat) y,l[j]? =some y->p y=false) (cy (α:=Nat) (fun k=>⟨aA [(0,bi l),(1,.fn (.func g) fs cs),(7,I l.length),(8,I k)],fun _=>none,0⟩)
  (fun k=>k<=l.length/\∀ j y,j<k->l[j]? =some y->p y=false) (fun k=>l.length - k) 0 (aw eH) ⟨oG,fun j y hj=>by omega⟩ ?_) ?_)
 .rintro k ⟨hk,hinv⟩;refine SS ?_;refine af ⟨_,rfl,fun h=>?_,fun h=>?_⟩
  .have ah:k<l.length:=by simpa using h
   obtain⟨x,hx⟩:∃ x,l[k]? =some x:=⟨_,a8 ah⟩
   have J:=hg x (bz hx);refine ws ?_;refine ag ?_;refine er ?_;refine bA ?_;refine cl J ?_;refine af (aR rfl (fun hp=>?_) fun hp=>?_)
   .refine ws ?_;refine ag ?_;refine af (bH (cv (bD (aJ rfl ?_))));rw[tu hx hp hinv];rfl
   .refine c7 ?_;refine ag ?_;refine af (bh (k+1) (aw eH) ⟨oG,fun j y hj hy=>?_⟩ oG);by_cases e:j=k
    .subst e;rw[hx] at hy;cases hy;exact hp
    .exact hinv j y oG hy
  .have M:¬ k<l.length:=by simpa using h
   exact⟨.forget _ _ _ _ fun _=>.inr rfl,fun j y hy=>hinv j y (by have:=(bM.1 hy).1;omega) hy⟩
 .rintro s ⟨hg,C⟩;refine⟨_,hg,aj ?_⟩;refine SS ?_;refine af (aJ rfl ?_);rw[w9 C];rfl
theorem px{l:List au}{name:ByteArray}(hl:l.length<=1000000):aD prog 74 [bi l,S name] (CG (findF l name)):=by
 have yu:=yu (l:=l) (g:=116) (fs:=[]) (cs:=[.pt [S name]]) (p:=fun g=>g.name.toList==name.toList) hl (.fn oS (.cons (.pt (.cons (.s _) .nil)) .nil)) fun x _=>ahX
 change aD _ _ _ (I (named l name)) at yu
 have C:Tr (CG (findF l name)):=by
  cases findF l name with
  |none=>exact .aM (.cons (.agg (.cons (.s _) (.cons (.s _) (.cons (.s _) (.cons (.s _) (.cons .z (.cons .z (.cons .z (.cons .z .nil))))))))) (.cons (.s _) .nil))
  |some g=>exact .aM (.cons (.agg (nb g)) (.cons (.s _) .nil))
 refine bj ahY (.cons (iB _) (.cons (.s _) .nil)) C ?_;rw[ahZ];refine az ?_;refine eC (F6 (d:=.s (.string _)) rfl rfl) ak rfl ?_;refine ag ?_;refine af ⟨_,qG (i:=0) (cs:=[S name]) (e:=9) rfl (l:=[(0,bi l),(3,.pt [S name]),(4,.rp 1 0)]) eH (ml:=[(1,.cells jG 48)]) eH,aj ?_⟩;refine ag ?_;refine cl yu ?_;refine SS ?_;refine af (aC (aj ?_));rcases Xi l name with⟨hn,hf⟩|⟨i,g,hn,hg,hf⟩
 .rw[hn,hf];refine ag ?_;refine af (GL (aC (aj ?_)));refine ay ?_;exact af (ew (mY (gP rfl rfl za oO rfl t48 oC) rfl rfl))
 .rw[hn,hf];have ah:=(bM.1 hg).1;refine ag ?_;refine af (ct rfl (fun h=>?_) fun _=>bX (aj ?_))
  .simp at h;omega
  refine cm ?_;exact af (mY (gP rfl rfl za oO rfl t48 (bc 8)) rfl rfl)
theorem Rq{m:Mem}{nx j sz:Nat}{r:Row}{cs:List D}(hj:j≠nx)(h1:m j=some r)(hr:Row.sub (cJ nx cs sz) r=r):(fun j=>if j=nx then none else(m j).map (Row.sub (cJ nx cs sz))) j=some r:=by
 show(if j=nx then none else(m j).map _)=_;rw[if_neg hj,h1];exact congrArg some hr
theorem qe{c:au}{l:List au}{r:Int}(hl:l.length<=1000000)(dk:c.blocks.length<=1000000):aD prog 100 [.agg (a6 dC dC c),bi l,I r] (CG (wk c l r)):=by
 have M:∀ a∈[D.agg (a6 dC dC c),bi l,I r],Tr a:=.cons (kf (.s _) (.s _) c) (.cons (iB l) (.cons (.s _) .nil));have px:∀ {name:ByteArray},aD prog 74 [bi l,S name] (CG (findF l name)):=fun {name}=>px hl;refine bj aeT M (aaJ _) ?_;rw[aeU];refine az ?_;refine ay ?_;refine af ⟨_,qG (i:=0) (cs:=a6 dC dC c) (e:=113) rfl (l:=[(1,bi l),(2,I r),(3,.pt (a6 dC dC c)),(6,.rp 1 0)]) eH (ml:=[(1,.cells jG 48)]) eH,aC (az ?_)⟩;refine bA ?_
 refine af (cz (fun s=>(∃ nx,2<=nx/\aL prog s ⟨aA [(6,.rp 1 0)],bu [(1,.cells jG 48)],nx⟩)/\∀ (j:Nat) y,c.blocks[j]? =some y->AA r y=false) (cy (α:=Nat×Nat) (fun s=>⟨aA [(1,bi l),(2,I r),(6,.rp 1 0),(12,cL c.blocks),(13,I c.blocks.length),(14,I s.1)],bu [(1,.cells jG 48)],s.2⟩)
  (fun s=>s.1<=c.blocks.length/\2<=s.2/\∀ j y,j<s.1->c.blocks[j]? =some y->AA r y=false) (fun s=>c.blocks.length - s.1) (0,2) (aw eH) ⟨Nat.zero_le _,bc _,fun j y hj=>by omega⟩ ?_) ?_)
 .rintro⟨k,nx⟩ ⟨hk,C,hinv⟩;dsimp only at hk C hinv ⊢;refine SS ?_;refine af ⟨_,rfl,fun h=>?_,fun h=>?_⟩
  .have ah:k<c.blocks.length:=by simpa using h
   obtain⟨b,hb⟩:∃ b,c.blocks[k]? =some b:=⟨_,a8 ah⟩
   refine az ?_;refine aV ?_;refine af ⟨_,qG (i:=nx) (cs:=bS b) (e:=59) (al _ _ _) (l:=[(1,bi l),(2,I r),(6,.rp 1 0),(12,cL c.blocks),(13,I c.blocks.length),(14,I k),(9,.pt (bS b))]) ⟨rfl,rfl,gk oG,rfl,rfl,rfl,lC,trivial⟩ (ml:=[(1,.cells jG 48)]) ⟨Rq oG (ai oG (ai oG rfl)) rfl,trivial⟩,aj ?_⟩;have J:AA r b=(decide (b.fin.kind=7)&&decide (b.fin.a=r)):=rfl;refine bt ?_;refine ag ?_;refine af (aR rfl (fun hp=>?_) fun hp=>?_)
   .have hf:wk c l r=findF l b.fin.name:=by
     unfold wk
     have:c.blocks.find? (AA r)=some b:=by
      rw[List.find?_eq_some_iff_getElem];refine⟨by rw[J];simpa using hp,k,ah,(bM.1 hb).2,fun j hj=>?_⟩;have:=hinv j c.blocks[j] hj (a8 oG);simp[this]
     rw[this]
    rw[hf];have px:= @px b.fin.name;generalize findF l b.fin.name=o at px;cases o with
    |none=>
     refine ws ?_;refine aV ?_;refine cl px ?_;refine aV ?_;refine af (bH (cv (bD (mY (gP rfl rfl za oO rfl t48 (bc 8)) rfl rfl))))
    |some g=>
     refine ws ?_;refine aV ?_;refine cl px ?_;refine aV ?_;refine af (bH (cv (bD (mY (gP rfl rfl za oO rfl t48 (bc 8)) rfl rfl))))
   .refine c7 ?_;refine ag ?_;refine af (bh (k+1,nx+1) (aw eH) ⟨oM,oM,fun j y hj hy=>?_⟩ oM);by_cases e:j=k
    .subst e;rw[hb] at hy;cases hy;rw[J];simpa using hp
    .exact hinv j y (by dsimp only at hj;omega) hy
  .have X:¬ k<c.blocks.length:=by simpa using h
   exact⟨⟨nx,C,aw eH⟩,fun j y hy=>hinv j y (by have:=(bM.1 hy).1;omega) hy⟩
 .rintro s ⟨⟨nx,C,hg⟩,U⟩
  have hf:wk c l r=none:=by
   unfold wk
   have:c.blocks.find? (AA r)=none:=by
    rw[List.find?_eq_none];intro y hy;obtain⟨j,hj⟩:=ep hy;simp[U j y hj]
   rw[this]
  rw[hf];refine⟨_,hg,aj ?_⟩;refine ay ?_;exact af (mY (gP rfl rfl za oO rfl t48 (bc 8)) rfl rfl)
theorem HK{c:au}{l:List au}(hc:JR c l):aD prog 64 [.agg (a6 dC dC c),bi l] (B (tV c l)):=by
 have bf:∀ a∈[D.agg (a6 dC dC c),bi l],Tr a:=.cons (kf (.s _) (.s _) c) (.cons (iB l) .nil);have hl:=hc.len;have dk:=hc.LL;refine bj ah2 bf (.s _) ?_;rw[ah3];refine az ?_;refine ag ?_;refine af (bJ (dE [(0,a6 dC dC c,113)] eH (l:=[(1,bi l),(2,.pt (a6 dC dC c))]) eH) (aC (az ?_)));refine bA ?_
 refine af (cz (fun s=>∃ nx,aL prog s ⟨aA [],fun _=>none,nx⟩/\∀ (j:Nat) y,c.blocks[j]? =some y->jg c l y=true) (cy (α:=Nat×Nat) (fun s=>⟨aA [(1,bi l),(2,.pt (a6 dC dC c)),(14,cL c.blocks),(15,I c.blocks.length),(16,I s.1)],fun _=>none,s.2⟩)
  (fun s=>s.1<=c.blocks.length/\∀ j y,j<s.1->c.blocks[j]? =some y->jg c l y=true) (fun s=>c.blocks.length - s.1) (0,1) (aw eH) ⟨Nat.zero_le _,fun j y hj=>by omega⟩ ?_) ?_)
 .rintro⟨k,nx⟩ ⟨hk,hinv⟩;dsimp only at hk hinv ⊢;refine SS ?_;refine af ⟨_,rfl,fun h=>?_,fun h=>?_⟩
  .have ah:k<c.blocks.length:=by simpa using h
   clear h;obtain⟨b,hb⟩:∃ b,c.blocks[k]? =some b:=⟨_,a8 ah⟩
   have l5:=bz hb;have dD:=hc.args b l5;have hcA:=hc.a b l5;have T5:=hc.b b l5;have C:jg c l b=if b.fin.kind=6 then xZ c l b.fin else if b.fin.kind=7 then yc c l b.fin else if b.fin.kind=8 then vN c l b.fin else true:=rfl
   have iU:jg c l b=false->tV c l=false:=fun h=>by
    unfold tV;rw[List.all_eq_false];exact⟨b,l5,by simp[h]⟩
   have qf:jg c l b=true->∀ j y,j<k+1->c.blocks[j]? =some y->jg c l y=true:=fun h j y hj hy=>by
    by_cases e:j=k
    .subst e;rw[hb] at hy;cases hy;exact h
    .exact hinv j y oG hy
   refine az ?_;refine aV ?_;refine af ⟨_,fv (i:=nx) (cs:=bS b) (e:=59) (al _ _ _) (l:=[(1,bi l),(2,.pt (a6 dC dC c)),(14,cL c.blocks),(15,I c.blocks.length),(16,I k),(6,.pt (bS b))]) ⟨rfl,rfl,rfl,rfl,rfl,lC,trivial⟩,az ?_⟩;refine ay ?_;refine bL (fg (cs':=bE _) rfl rfl (al _ _ _) rfl) ak (bY V.h V.h (by first|(simp;done)|exact⟨rfl,bF rfl⟩|(simp;omega)) (by rfl)) ?_;refine af ⟨_,fv (i:=nx+1) (cs:=bE b.fin) (e:=57) (al _ _ _) (l:=[(1,bi l),(2,.pt (a6 dC dC c)),(14,cL c.blocks),(15,I c.blocks.length),(16,I k),(7,.pt (bE b.fin))]) ⟨rfl,rfl,rfl,rfl,rfl,lC,trivial⟩,az ?_⟩;generalize b.fin=x at*
   have px:=px (l:=l) (name:=x.name) hl;cases ho:findF l x.name with
   |none=>
    rw[ho] at px;refine ay ?_;refine cl px ?_;refine cm ?_;refine af ⟨_,fv (i:=nx+1+1) (cs:=jG) (e:=48) (al _ _ _) (l:=[(1,bi l),(2,.pt (a6 dC dC c)),(14,cL c.blocks),(15,I c.blocks.length),(16,I k),(7,.pt (bE x)),(8,.pt jG),(9,B false)]) ⟨rfl,rfl,rfl,rfl,rfl,rfl,lC,rfl,trivial⟩,aj ?_⟩;refine ag ?_;refine af (pE (aj ?_));refine ag ?_;refine af (aR rfl (fun J=>?_) fun J=>?_)
    .have J:x.kind=6:=by simpa using J
     rw[if_pos J] at C;have zb:xZ c l x=false:=by unfold xZ;rw[ho]
     rw[iU (C.trans zb)];refine eg Jl ?_;refine dM ?_;refine z fun _ _=>?_;refine ag ?_;(iterate 2 refine z fun _ _=>?_);refine bt ?_;refine ag ?_;(iterate 2 refine z fun _ _=>?_);refine ag ?_;(iterate 2 refine z fun _ _=>?_);refine SS ?_;refine cu cE (SZ (aj ?_));refine SS ?_;exact af (bH (ez (cv (bD (aJ rfl rfl)))))
    .have J:¬ x.kind=6:=by simpa using J
     rw[if_neg J] at C;refine ws ?_;refine ag ?_;refine af (aR rfl (fun U=>?_) fun U=>?_)
     .have U:x.kind=7:=by simpa using U
      rw[if_pos U] at C;have wK:yc c l x=false:=by unfold yc;rw[ho]
      rw[iU (C.trans wK)];refine ws ?_;refine bt ?_;refine z fun _ _=>?_;refine ag ?_;(iterate 2 refine z fun _ _=>?_);refine SS ?_;refine af (SZ (aj ?_));refine SS ?_;exact af (bH (ez (cv (bD (aJ rfl rfl)))))
     have U:¬ x.kind=7:=by simpa using U
     rw[if_neg U] at C;refine ws ?_;refine ag ?_;refine af (aR rfl (fun X=>?_) fun X=>?_)
     .have X:x.kind=8:=by simpa using X
      rw[if_pos X] at C;obtain⟨My,MO⟩:=T5 X;have qe:=qe (c:=c) (l:=l) (r:=x.a) hl dk;cases nX:wk c l x.a with
      |none=>
       rw[nX] at qe;have M:jg c l b=true:=by rw[C];unfold vN;rw[nX]
       refine az ?_;refine aV ?_;refine cl qe ?_;refine cm ?_;refine af ⟨_,fv (i:=nx+1+1+1) (cs:=jG) (e:=48) (al _ _ _) (l:=[(1,bi l),(2,.pt (a6 dC dC c)),(14,cL c.blocks),(15,I c.blocks.length),(16,I k),(7,.pt (bE x)),(10,.pt jG),(11,B false)]) ⟨rfl,rfl,rfl,rfl,rfl,rfl,lC,rfl,trivial⟩,eg EM ?_⟩;refine fV ?_;(iterate 2 refine z fun _ _=>?_);refine ag ?_;refine z fun _ _=>?_;refine SS ?_;refine cu cE (KR (c7 ?_));show av prog cZ (Z dP 17) false [] _ (Z dP 17).toList _ [];refine ag ?_;refine af (bh (k+1,_) (aw eH) ⟨oM,qf M⟩ oM)
      |some g'=>
       rw[nX] at qe;have py:vN c l x= !(o5 c.aW x.b !=g'.result):=by unfold vN;rw[nX]
       obtain⟨bn,MS⟩:∃ bn:Nat,x.b=bn:=⟨x.b.toNat,oG⟩
       obtain⟨u,hu⟩:∃ u,c.aW[bn]? =some u:=⟨_,a8 oG⟩
       obtain⟨kd,a,bb,to,gN,nm,ins,args,aU,zc⟩:=x;dsimp only at*
       subst MS;have D3:o5 c.aW (bn:Int)=u:=by simp[o5,du,hu]
       refine az ?_;refine aV ?_;refine cl qe ?_;refine cm ?_;refine af ⟨_,fv (i:=nx+1+1+1) (cs:=aY g') (e:=48) (al _ _ _) (l:=[(1,bi l),(2,.pt (a6 dC dC c)),(14,cL c.blocks),(15,I c.blocks.length),(16,I k),(7,.pt (bE ⟨kd,a,(bn:Int),to,gN,nm,ins,args,aU,zc⟩)),(10,.pt (aY g')),(11,B true)]) ⟨rfl,rfl,rfl,rfl,rfl,rfl,lC,rfl,trivial⟩,eg EM ?_⟩;refine bt ?_;refine aV ?_;refine cu cE (aR rfl (fun hp=>aj ?_) fun hp=>c7 ?_)
       .have jL:jg c l b=false:=by
         rw[C,py,D3];simpa using hp
        rw[iU jL];refine SS ?_;exact af (bH (ez (cv (bD (aJ rfl rfl)))))
       .have M:jg c l b=true:=by
         rw[C,py,D3];simpa using hp
        show av prog cZ (Z dP 17) false [] _ (Z dP 17).toList _ [];refine ag ?_;refine af (bh (k+1,_) (aw eH) ⟨oM,qf M⟩ oM)
     .have X:¬ x.kind=8:=by simpa using X
      have M:jg c l b=true:=by rw[C,if_neg X]
      refine c7 ?_;show av prog cZ (Z dP 17) false [] _ (Z dP 17).toList _ [];refine ag ?_;refine af (bh (k+1,_) (aw eH) ⟨oM,qf M⟩ oM)
   |some g=>
    rw[ho] at px;have Vb:=Y5 ho;refine ay ?_;refine cl px ?_;refine cm ?_;refine af ⟨_,fv (i:=nx+1+1) (cs:=(aY g)) (e:=48) (al _ _ _) (l:=[(1,bi l),(2,.pt (a6 dC dC c)),(14,cL c.blocks),(15,I c.blocks.length),(16,I k),(7,.pt (bE x)),(8,.pt (aY g)),(9,B true)]) ⟨rfl,rfl,rfl,rfl,rfl,rfl,lC,rfl,trivial⟩,aj ?_⟩;refine ag ?_;refine af (pE (aj ?_));refine ag ?_;refine af (aR rfl (fun J=>?_) fun J=>?_)
    .have J:x.kind=6:=by simpa using J
     rw[if_pos J] at C;have zb:xZ c l x=(!g.iter&&(pd c g x.args&& !(decide (0<=x.a)&&(o5 c.aW x.a !=g.result)))):=by unfold xZ;rw[ho]
     have uQ:=uQ (c:=c) (g:=g) (args:=x.args) (dD (.inl J)).1 (hc.fl g Vb) (dD (.inl J)).2;generalize pd c g x.args=fb at uQ zb;by_cases ha:0<=x.a
     .have zd:=hcA J;obtain⟨an,MT⟩:∃ an:Nat,x.a=an:=⟨x.a.toNat,oG⟩
      obtain⟨u,hu⟩:∃ u,c.aW[an]? =some u:=⟨_,a8 oG⟩
      obtain⟨kd,a,bb,to,gN,nm,ins,args,aU,zc⟩:=x;dsimp only at*
      subst MT;have uq:decide ((0:Int)<=(an:Int))=true:=by simpa using ha
      refine eg Jl ?_;refine bt ?_;refine ag ?_;refine gc uQ ?_;refine bA ?_;refine bw rfl rfl (Ah rfl rfl uq) (fun hc=>⟨ak,rfl⟩) ?_;refine bt ?_;refine aV ?_;refine cu cE (aR rfl (fun hp=>aj ?_) fun hp=>c7 ?_)
      .have jL:jg c l b=false:=by
        rw[C,zb];revert hp;cases g.iter<;>cases fb<;>simp[o5,du,hu]
       rw[iU jL];refine SS ?_;exact af (bH (ez (cv (bD (aJ rfl rfl)))))
      .have M:jg c l b=true:=by
        rw[C,zb];revert hp;cases g.iter<;>cases fb<;>simp[o5,du,hu]
       show av prog cZ (Z dP 17) false [] _ (Z dP 17).toList _ [];refine ag ?_;refine af (bh (k+1,_) (aw eH) ⟨oM,qf M⟩ oM)
     .have uq:decide (0<=x.a)=false:=by simpa using ha
      refine eg Jl ?_;refine bt ?_;refine ag ?_;refine gc uQ ?_;refine bA ?_;refine bw rfl rfl (Ah rfl rfl uq) (fun hc=>⟨ak,rfl⟩) ?_;refine SS ?_;refine jf rfl (congrArg some (Bool.and_false _)) fun _ _=>?_;refine jf rfl (congrArg some (Bool.and_false _)) fun _ _=>?_;refine jf rfl (congrArg some (Bool.and_false _)) fun _ _=>?_;refine jf rfl (congrArg some (Bool.and_false _)) fun _ _=>?_;refine jf rfl (congrArg some (Bool.and_false _)) fun _ _=>?_;refine jf rfl (congrArg some (Bool.and_false _)) fun _ _=>?_;refine jf rfl (congrArg some (Bool.and_false _)) fun _ _=>?_;refine jf rfl (congrArg some (Bool.and_false _)) fun _ _=>?_;refine jf rfl (congrArg some (Bool.and_false _)) fun _ _=>?_;refine jf rfl (congrArg some (Bool.and_false _)) fun _ _=>?_;refine ag ?_;refine cu cE (aR rfl (fun hp=>aj ?_) fun hp=>c7 ?_)
      .have jL:jg c l b=false:=by
        rw[C,zb];revert hp;cases g.iter<;>cases fb<;>simp[ha]
       rw[iU jL];refine SS ?_;exact af (bH (ez (cv (bD (aJ rfl rfl)))))
      .have M:jg c l b=true:=by
        rw[C,zb];revert hp;cases g.iter<;>cases fb<;>simp[ha]
       show av prog cZ (Z dP 17) false [] _ (Z dP 17).toList _ [];refine ag ?_;refine af (bh (k+1,_) (aw eH) ⟨oM,qf M⟩ oM)
    .have J:¬ x.kind=6:=by simpa using J
     rw[if_neg J] at C;refine ws ?_;refine ag ?_;refine af (aR rfl (fun U=>?_) fun U=>?_)
     .have U:x.kind=7:=by simpa using U
      rw[if_pos U] at C;have wK:yc c l x=(g.iter&&pd c g x.args):=by unfold yc;rw[ho]
      have uQ:=uQ (c:=c) (g:=g) (args:=x.args) (dD (.inr U)).1 (hc.fl g Vb) (dD (.inr U)).2;generalize pd c g x.args=fb at uQ wK;refine ws ?_;refine bt ?_;refine ay ?_;refine gc uQ ?_;refine ag ?_;refine af (aR rfl (fun hp=>aj ?_) fun hp=>c7 ?_)
      .have jL:jg c l b=false:=by
        rw[C,wK];revert hp;cases g.iter<;>cases fb<;>simp
       rw[iU jL];refine SS ?_;exact af (bH (ez (cv (bD (aJ rfl rfl)))))
      .have M:jg c l b=true:=by
        rw[C,wK];revert hp;cases g.iter<;>cases fb<;>simp
       show av prog cZ (Z dP 17) false [] _ (Z dP 17).toList _ [];refine ag ?_;refine af (bh (k+1,_) (aw eH) ⟨oM,qf M⟩ oM)
     have U:¬ x.kind=7:=by simpa using U
     rw[if_neg U] at C;refine ws ?_;refine ag ?_;refine af (aR rfl (fun X=>?_) fun X=>?_)
     .have X:x.kind=8:=by simpa using X
      rw[if_pos X] at C;obtain⟨My,MO⟩:=T5 X;have qe:=qe (c:=c) (l:=l) (r:=x.a) hl dk;cases nX:wk c l x.a with
      |none=>
       rw[nX] at qe;have M:jg c l b=true:=by rw[C];unfold vN;rw[nX]
       refine az ?_;refine aV ?_;refine cl qe ?_;refine cm ?_;refine af ⟨_,fv (i:=nx+1+1+1) (cs:=jG) (e:=48) (al _ _ _) (l:=[(1,bi l),(2,.pt (a6 dC dC c)),(14,cL c.blocks),(15,I c.blocks.length),(16,I k),(7,.pt (bE x)),(10,.pt jG),(11,B false)]) ⟨rfl,rfl,rfl,rfl,rfl,rfl,lC,rfl,trivial⟩,eg EM ?_⟩;refine fV ?_;(iterate 2 refine z fun _ _=>?_);refine ag ?_;refine z fun _ _=>?_;refine SS ?_;refine cu cE (KR (c7 ?_));show av prog cZ (Z dP 17) false [] _ (Z dP 17).toList _ [];refine ag ?_;refine af (bh (k+1,_) (aw eH) ⟨oM,qf M⟩ oM)
      |some g'=>
       rw[nX] at qe;have py:vN c l x= !(o5 c.aW x.b !=g'.result):=by unfold vN;rw[nX]
       obtain⟨bn,MS⟩:∃ bn:Nat,x.b=bn:=⟨x.b.toNat,oG⟩
       obtain⟨u,hu⟩:∃ u,c.aW[bn]? =some u:=⟨_,a8 oG⟩
       obtain⟨kd,a,bb,to,gN,nm,ins,args,aU,zc⟩:=x;dsimp only at*
       subst MS;have D3:o5 c.aW (bn:Int)=u:=by simp[o5,du,hu]
       refine az ?_;refine aV ?_;refine cl qe ?_;refine cm ?_;refine af ⟨_,fv (i:=nx+1+1+1) (cs:=aY g') (e:=48) (al _ _ _) (l:=[(1,bi l),(2,.pt (a6 dC dC c)),(14,cL c.blocks),(15,I c.blocks.length),(16,I k),(7,.pt (bE ⟨kd,a,(bn:Int),to,gN,nm,ins,args,aU,zc⟩)),(10,.pt (aY g')),(11,B true)]) ⟨rfl,rfl,rfl,rfl,rfl,rfl,lC,rfl,trivial⟩,eg EM ?_⟩;refine bt ?_;refine aV ?_;refine cu cE (aR rfl (fun hp=>aj ?_) fun hp=>c7 ?_)
       .have jL:jg c l b=false:=by
         rw[C,py,D3];simpa using hp
        rw[iU jL];refine SS ?_;exact af (bH (ez (cv (bD (aJ rfl rfl)))))
       .have M:jg c l b=true:=by
         rw[C,py,D3];simpa using hp
        show av prog cZ (Z dP 17) false [] _ (Z dP 17).toList _ [];refine ag ?_;refine af (bh (k+1,_) (aw eH) ⟨oM,qf M⟩ oM)
     .have X:¬ x.kind=8:=by simpa using X
      have M:jg c l b=true:=by rw[C,if_neg X]
      refine c7 ?_;show av prog cZ (Z dP 17) false [] _ (Z dP 17).toList _ [];refine ag ?_;refine af (bh (k+1,_) (aw eH) ⟨oM,qf M⟩ oM)
  .have bq:¬ k<c.blocks.length:=by simpa using h
   exact⟨nx,aw trivial,fun j y hy=>hinv j y (by have:=(bM.1 hy).1;omega) hy⟩
 .rintro s ⟨nx,hg,bx⟩
  have hf:tV c l=true:=by
   unfold tV;rw[bV];intro y hy;obtain⟨j,hj⟩:=ep hy;exact bx j y hj
  rw[hf];refine⟨_,hg,aj ?_⟩;refine SS ?_;exact af (aJ rfl rfl)
theorem HL{l:List au}(hc:(∀ f∈l,fi f=0)->∀ f∈l,JR f l)(hlen:l.length<=1000000):aD prog 30 [bi l] (.aM [I (cW l).1,I (cW l).2]):=by
 refine bj ah4 (.cons (iB l) .nil) (.aM (.cons (.s _) (.cons (.s _) .nil))) ?_;rw[ah5];refine ws ?_;refine ag ?_;refine af (aC (aj ?_));refine ay ?_;refine af (ct rfl (fun h=>aC (aj ?_)) fun h=>bX (aC (az ?_)))
 .have h:60<l.length:=by
   have:(60:Int)<l.length:=by simpa using h
   omega
  have he:cW l=(0,2):=by unfold cW;rw[if_pos h]
  rw[he];refine ag ?_;exact af (ew (fH rfl rfl rfl))
 have wL:¬ 60<l.length:=by
  have:¬ (60:Int)<l.length:=by simpa using h
  omega
 clear h;refine ay ?_
 refine af (cz (fun s=>(∃ nx,aL prog s ⟨aA [(0,bi l)],fun _=>none,nx⟩)/\∀ j,j<l.length->kQ l j=0) (cy (α:=Nat×Nat) (fun s=>⟨aA [(0,bi l),(12,bi l),(13,I l.length),(14,I s.1)],fun _=>none,s.2⟩)
  (fun s=>s.1<=l.length/\∀ j,j<s.1->kQ l j=0) (fun s=>l.length - s.1) (0,0) (aw eH) ⟨Nat.zero_le _,fun j hj=>by omega⟩ ?_) ?_)
 .rintro⟨k,nx⟩ ⟨hk,hinv⟩;dsimp only at hk hinv ⊢;refine SS ?_;refine af ⟨_,rfl,fun h=>?_,fun h=>?_⟩
  .have ah:k<l.length:=by simpa using h
   clear h;obtain⟨f,hf⟩:∃ f,l[k]? =some f:=⟨_,a8 ah⟩
   have qu:=qu (f:=f);have C:kQ l k=if fi f=0 then(if decide (0<k)&&AS (oY l (k - 1)) f.name then 1 else 0) else fi f:=by unfold kQ;rw[hf]
   have Dv:kQ l k≠0->cW l=(↑k,kQ l k):=fun h=>by
    unfold cW;rw[if_neg wL,OJ ah (by simpa using h) fun j hj=>by simp[hinv j hj]]
   refine az ?_;refine cm ?_;refine af ⟨_,fv (i:=nx) (cs:=aY f) (e:=48) (al _ _ _) (l:=[(0,bi l),(12,bi l),(13,I l.length),(14,I k),(4,I k),(5,.pt (aY f))]) ⟨rfl,rfl,rfl,rfl,rfl,lC,trivial⟩,aC (aj ?_)⟩;generalize fi f=e at qu C;refine SS ?_;refine cl qu ?_;refine SS ?_;refine af (aC (aj ?_));refine ag ?_;refine af (ct rfl (fun h=>aC (aj ?_)) fun h=>bX (eg aaL ?_))
   .have h:e≠0:=by simpa using h
    rw[if_neg h] at C;rw[Dv (by rw[C];exact h),C];refine aV ?_;exact af (ew (cv (bD (fH rfl rfl rfl))))
   have h:e=0:=by simpa using h
   rw[if_pos h] at C;clear h qu
   have qf:kQ l k=0->∀ j,j<k+1->kQ l j=0:=fun h j hj=>by
    by_cases e:j=k
    .subst e;exact h
    .exact hinv j oG
   cases k with
   |zero=>
    have hz:kQ l 0=0:=by rw[C];simp
    refine bA ?_;refine bw rfl rfl (KG rfl rfl oG) (fun hc=>⟨ak,rfl⟩) ?_
    (iterate 3 refine z fun _ _=>?_);refine ag ?_;refine z fun _ _=>?_;refine SS ?_
    refine cu cE (KR (c7 ?_));refine ag ?_;exact af (bh (0+1,_) (aw eH) ⟨oM,qf hz⟩ oM)
   |succ k'=>
    obtain⟨U,X⟩:∃ U,l[k']? =some U:=⟨_,a8 oG⟩
    have MT:oY l (k'+1 - 1)=U.name:=by unfold oY;rw[Nat.add_sub_cancel,X]
    rw[MT] at C;have wc:(((k'+1:Nat):Int) - 1=(k':Int))/\ -9223372036854775808<=(k':Int)/\(k':Int)<=9223372036854775807:=by omega
    have wa:decide ((0:Int)<((k'+1:Nat):Int))=true:=by simp
    refine cm ?_;refine bw rfl rfl (sk rfl rfl V.h V.h (vd) oN) (fun hc=>⟨ak,(sq V.h (vd) oN)⟩) ?_;refine aV ?_;refine bw rfl rfl (RZ rfl rfl) (fun hc=>⟨ak,trivial⟩) ?_;refine SS ?_;refine cu cE (aR rfl (fun hp=>aj ?_) fun hp=>c7 ?_)
    .have h1:kQ l (k'+1)=1:=by
      rw[C,if_pos];simpa[AS] using hp
     rw[Dv (by rw[h1];decide),h1];refine ay ?_;exact af (bH (cv (bD (fH rfl rfl rfl))))
    .have hz:kQ l (k'+1)=0:=by
      rw[C,if_neg];simpa[AS] using hp
     refine ag ?_;exact af (bh (k'+1+1,_) (aw eH) ⟨oM,qf hz⟩ oM)
  .have bq:¬ k<l.length:=by simpa using h
   exact⟨⟨nx,aw eH⟩,fun j hj=>hinv j oG⟩
 .rintro s ⟨⟨nx,hg⟩,bx⟩
  have j5:∀ f∈l,fi f=0:=fun f hf=>by
   obtain⟨j,hj⟩:=ep hf;have dw:=(bM.1 hj).1;have h1:=bx j dw;unfold kQ at h1;rw[hj] at h1;dsimp only at h1;by_cases h2:fi f=0
   .exact h2
   .rw[if_neg h2] at h1;exact absurd h1 h2
  have hc:=hc j5;have oK:(range l.length).find? (fun i=>kQ l i !=0)=none:=OK fun j hj=>by simp[bx j hj]
  refine⟨_,hg,aC (az ?_)⟩;clear hg;refine ay ?_
  refine af (cz (fun s=>(∃ nx,aL prog s ⟨aA [],fun _=>none,nx⟩)/\∀ j,j<l.length->vm l j=false) (cy (α:=Nat×Nat) (fun s=>⟨aA [(0,bi l),(40,bi l),(41,I l.length),(42,I s.1)],fun _=>none,s.2⟩)
   (fun s=>s.1<=l.length/\∀ j,j<s.1->vm l j=false) (fun s=>l.length - s.1) (0,nx) (aw eH) ⟨Nat.zero_le _,fun j hj=>by omega⟩ ?_) ?_)
  .rintro⟨k,nx⟩ ⟨hk,hinv⟩;dsimp only at hk hinv ⊢;refine SS ?_;refine af ⟨_,rfl,fun h=>?_,fun h=>?_⟩
   .have ah:k<l.length:=by simpa using h
    clear h;obtain⟨f,hf⟩:∃ f,l[k]? =some f:=⟨_,a8 ah⟩
    have HK:=HK (hc f (bz hf));have J:vm l k= !tV f l:=by unfold vm;rw[hf]
    refine az ?_;refine cm ?_;refine af ⟨_,fv (i:=nx) (cs:=aY f) (e:=48) (al _ _ _) (l:=[(0,bi l),(40,bi l),(41,I l.length),(42,I k),(7,I k),(8,.pt (aY f))]) ⟨rfl,rfl,rfl,rfl,rfl,lC,trivial⟩,aj ?_⟩;generalize tV f l=cb at HK J;refine ay ?_;refine cl HK ?_;refine SS ?_;refine af (aR rfl (fun hp=>aj ?_) fun hp=>c7 ?_)
    .have J:vm l k=true:=by rw[J];simpa using hp
     have hr:cW l=(↑k,82):=by
      unfold cW;rw[if_neg wL,oK,OJ ah J hinv]
     rw[hr];refine ay ?_;exact af (bH (cv (bD (fH rfl rfl rfl))))
    .have J:vm l k=false:=by rw[J];simpa using hp
     refine ag ?_;refine af (bh (k+1,_) (aw eH) ⟨oM,fun j hj=>?_⟩ oM);by_cases e:j=k
     .subst e;exact J
     .exact hinv j (by dsimp only at hj;omega)
   .have bq:¬ k<l.length:=by simpa using h
    exact⟨⟨nx,aw trivial⟩,fun j hj=>hinv j oG⟩
  .rintro s ⟨⟨nx,hg⟩,M⟩
   have hr:cW l=(0,0):=by
    unfold cW;rw[if_neg wL,oK,OK M]
   rw[hr];refine⟨_,hg,aj ?_⟩;refine ag ?_;exact af (fH rfl rfl rfl)
end Go.Proofs.Tryz.K
end
namespace Go.Argus
abbrev W8:=List UInt8
def lW:List W8->W8
 |[]=>[]
 |[w]=>w
 |w::v::l=>w++32::lW (v::l)
def yh(wsq:List W8):W8:=lW wsq++[10]
def yi(C:List (List W8)):W8:=C.flatMap yh
def xK(w:W8):Prop:=(32:UInt8)∉w/\(10:UInt8)∉w
theorem Kt{α:Type}{c:α}:∀ {x y s t:List α},c∉x->c∉y->x++c::s=y++c::t->x=y/\s=t
 |[],[],s,t,_,_,h=>⟨rfl,by simpa using h⟩
 |[],b::y,s,t,_,hy,h=>by
  simp only[List.nil_append,List.cons_append,List.cons.injEq] at h;exact absurd (by rw[h.1];exact List.mem_cons_self) hy
 |a::x,[],s,t,hx,_,h=>by
  simp only[List.nil_append,List.cons_append,List.cons.injEq] at h;exact absurd (by rw[<- h.1];exact List.mem_cons_self) hx
 |a::x,b::y,s,t,hx,hy,h=>by
  simp only[List.cons_append,List.cons.injEq] at h;obtain⟨h1,h2⟩:=Kt (fun h=>hx (List.mem_cons_of_mem _ h)) (fun h=>hy (List.mem_cons_of_mem _ h)) h.2;exact⟨by rw[h.1,h1],h2⟩
theorem Jt:∀ {a:List W8},(∀ w∈a,xK w)->(10:UInt8)∉lW a
 |[],_=>by simp[lW]
 |[w],h=>(h w oS).2
 |w::v::l,h=>by
  have ih:=Jt (a:=v::l) fun u hu=>h u (List.mem_cons_of_mem _ hu);simp only[lW,List.mem_append,List.mem_cons,not_or];exact⟨(h w oS).2,oC,ih⟩
theorem PI:∀ {a b:List W8},a≠[]->b≠[]->(∀ w∈a,xK w)->(∀ w∈b,xK w)->lW a=lW b->a=b
 |[],_,h,_,_,_,_=>absurd rfl h
 |_::_,[],_,h,_,_,_=>absurd rfl h
 |[w],[v],_,_,_,_,h=>by simpa[lW] using h
 |[w],v::u::l,_,_,ha,_,h=>by
  have h1:=(ha w oS).1;simp only[lW] at h;exact absurd (by rw[h];simp) h1
 |w::u::l,[v],_,_,_,hb,h=>by
  have h1:=(hb v oS).1;simp only[lW] at h;exact absurd (by rw[<- h];simp) h1
 |w::u::l,v::x::m,_,_,ha,hb,h=>by
  simp only[lW] at h;obtain⟨h1,h2⟩:=Kt (ha w oS).1 (hb v oS).1 h;have ih:=PI (a:=u::l) (b:=x::m) oS oS (fun y hy=>ha y (List.mem_cons_of_mem _ hy)) (fun y hy=>hb y (List.mem_cons_of_mem _ hy)) h2;rw[h1,ih]
def J2(C:List (List W8)):Prop:=∀ l∈C,l≠[]/\∀ w∈l,xK w
theorem PJ:∀ {a b:List (List W8)},J2 a->J2 b->yi a=yi b->a=b
 |[],[],_,_,_=>rfl
 |[],y::b,_,_,h=>by simp[yi,yh] at h
 |x::a,[],_,_,h=>by simp[yi,yh] at h
 |x::a,y::b,ha,hb,h=>by
  simp only[yi,List.flatMap_cons,yh,List.append_assoc,List.cons_append,List.nil_append] at h;have hx:=ha x oS;have hy:=hb y oS;obtain⟨h1,h2⟩:=Kt (Jt hx.2) (Jt hy.2) h;have e:=PI hx.1 hy.1 hx.2 hy.2 h1;have ih:=PJ (fun l hl=>ha l (List.mem_cons_of_mem _ hl)) (fun l hl=>hb l (List.mem_cons_of_mem _ hl)) h2;rw[e,ih]
end Go.Argus
namespace Go.Argus
open Go
theorem I4:∀ (u:Nat),∀ c∈Lib.decDigits u,48<=c.toNat/\c.toNat<=57:=fun u=>by
 induction u using Nat.strongRecOn with
 |_ u ih=>
  intro c hc;rw[Lib.decDigits] at hc;split at hc
  .simp only[List.mem_cons,List.not_mem_nil,or_false] at hc;subst hc;rw[UInt8.toNat_ofNat_of_lt' (by simp[UInt8.size];omega)];omega
  .rw[List.mem_append] at hc;rcases hc with hc|hc
   .exact ih (u / 10) oG c hc
   .simp only[List.mem_cons,List.not_mem_nil,or_false] at hc;subst hc;rw[UInt8.toNat_ofNat_of_lt' (by simp[UInt8.size];omega)];omega
def Kv(l:List UInt8):Nat:=l.foldl (fun n c=>10*n+(c.toNat - 48)) 0
theorem O6(u:Nat):Kv (Lib.decDigits u)=u:=by
 induction u using Nat.strongRecOn with
 |_ u ih=>
  rw[Lib.decDigits];split
  .rename_i h;simp only[Kv,List.foldl_cons,List.foldl_nil];rw[UInt8.toNat_ofNat_of_lt' (by simp[UInt8.size];omega)];omega
  .rename_i h;have:=ih (u / 10) oG;unfold Kv at this ⊢;rw[List.foldl_append,this];simp only[List.foldl_cons,List.foldl_nil];rw[UInt8.toNat_ofNat_of_lt' (by simp[UInt8.size];omega)];omega
theorem RT{u v:Nat}(h:Lib.decDigits u=Lib.decDigits v):u=v:=by rw[<- O6 u,h,O6]
theorem Yq(n:Int):∀ c∈Lib.itoa n,c.toNat=45\/(48<=c.toNat/\c.toNat<=57):=fun c hc=>by
 unfold Lib.itoa at hc;split at hc
 .rcases List.mem_cons.1 hc with rfl|hc
  .exact .inl rfl
  .exact .inr (I4 _ c hc)
 .exact .inr (I4 _ c hc)
theorem abE{m n:Int}(h:Lib.itoa m=Lib.itoa n):m=n:=by
 have key:∀ a b:Nat,Lib.decDigits a≠45::Lib.decDigits b:=fun a b e=>by
  have:=I4 a 45 (by rw[e];simp);revert this;decide
 unfold Lib.itoa at h;split at h<;>split at h
 .have:=RT (List.cons.inj h).2;omega
 .exact absurd h.symm (key _ _)
 .exact absurd h (key _ _)
 .have:=RT h;omega
theorem Yr{u:Nat}:∀ (k:Nat),u<10 ^ (k+1)->Lib.nDigits u<=k+1:=fun k h=>by
 refine Classical.byContradiction fun hn=>?_
 have h1:∀ (j v:Nat),j+1<Lib.nDigits v->10 ^ (j+1)<=v:=by
  intro j
  induction j with
  |zero=>
   intro v hv;refine Classical.byContradiction fun hc=>?_;rw[Lib.nDigits_small oG] at hv;omega
  |succ j ih=>
   intro v hv;by_cases C:v<10
   .rw[Lib.nDigits_small C] at hv;omega
   .rw[Lib.nDigits_big C] at hv;have:=ih (v / 10) oG;rw[Nat.pow_succ];omega
 have:=h1 k u oG;omega
theorem Xq(n:Int):xK (Lib.itoa n):=by
 constructor<;>intro h<;>have:=Yq n _ h<;>revert this<;>decide
theorem join_eq:∀ l:List W8,Lib.join l [32]=lW l
 |[]=>rfl
 |[w]=>by rw[Lib.join_one];rfl
 |w::v::l=>by
  have ih:=join_eq (v::l);rw[Lib.join_cons] at ih ⊢;rw[lW, <- ih];simp[Lib.joinTail]
theorem PS:∀ l:List W8,(lW l).length<=(l.map fun w=>w.length+1).sum
 |[]=>by simp[lW]
 |[w]=>by simp[lW]
 |w::v::l=>by
  have ih:=PS (v::l);simp only[lW,List.length_append,List.length_cons,List.map_cons,List.sum_cons] at ih ⊢;omega
end Go.Argus
section
open Go Go.Abs Go.Proofs Go.Argus
namespace Go.Argus
def dT(n:Int):Prop:= -1000000000<=n/\n<=1000000000
theorem dT.i{n:Int}(h:dT n):i64 n:=by unfold dT at h;unfold i64;omega
structure xL(x:cV):Prop where
 to:dT x.to
 a:dT x.a
 b:dT x.b
 n:dT x.n
 args:∀ r∈x.args,dT r
 len:x.args.length<=1200
theorem tP{l:List Int}{r:Int}(hl:l.length<=1200)(h:jn l r):dT r:=by unfold jn at h;unfold dT;omega
theorem eK:dT 0:=by unfold dT;omega
theorem lH{l:List Int}(h:l.length=0):(∀ r∈l,dT r)/\l.length<=1200:=by
 cases l with
 |nil=>exact⟨oS,oS⟩
 |cons a l=>simp at h
theorem I5{l:List Int}{r want of:Int}(hl:l.length<=1200)(h:o7 l r want of=true):dT r:=by
 by_cases C:want=0
 .unfold o7 at h;rw[if_pos C] at h;have:r=0:=by simpa using h
  rw[this];exact eK
 .exact tP hl (E' h C)
theorem Ys:(oc++np).all (fun x=>decide (-1000000000<=x.2.low)&&decide (x.2.high<=1000000000))=true:=by decide
theorem O7{l:List Int}{x:cV}{s:Shape}(hl:l.length<=1200)(hm:(x.op,s)∈oc\/(x.op,s)∈np)(h:vr l x s=true):xL x:=by
 have hs:=bV.1 Ys (x.op,s) (List.mem_append.2 hm);simp only[ba,decide_eq_true_eq] at hs;unfold vr at h;simp only[ba] at h;obtain⟨h1,h2,M,C,U⟩:=h;have hn:dT x.n:=by have:=kP.1 U;unfold dT;omega
 have J:(∀ r∈x.args,dT r)/\x.args.length<=1200:=by
  unfold wZ at C;split at C
  .rw[ba] at C;have:=kP.1 C.1;exact⟨fun r hr=>tP hl (tx C.2 r hr),oG⟩
  .split at C
   .rw[ba] at C;have:(x.args.length:Int)=1:=by simpa using C.1
    exact⟨fun r hr=>tP hl (tx C.2 r hr),oG⟩
   .exact lH (by have:(x.args.length:Int)=0:=by simpa using C
                 omega)
 exact⟨I5 hl h1,I5 hl h2,I5 hl M,hn,J.1,J.2⟩
theorem Z3{f:au}{b:Int}{ahead:Nat}{x:cV}{phis:Bool}(hl:f.aW.length<=1200)(hs:∀ k∈f.cr,k≠0)(mQ:f.cr.length<=60)(ha:ahead<=1200)(h:kY f b x phis ahead=true):xL x:=by
 unfold kY at h;have J:tX x=true->(∀ r∈x.args,dT r)/\x.args.length<=1200:=fun h=>lH (by unfold tX at h;simp at h;simp[h]);split at h
 .simp only[ba,gQ] at h;obtain⟨h1,h2,C,M,h5⟩:=h;exact⟨by rw[h1];exact eK,tP hl (ki oG),by rw[C];exact eK,by rw[M];exact eK,(J h5).1,(J h5).2⟩
 split at h
 .simp only[ba,gQ] at h;obtain⟨h1,h2,C,M⟩:=h;obtain⟨X,g2,U⟩:=Ft hs M;exact⟨tP hl X,by rw[h1];exact eK,by rw[h2];exact eK,by unfold dT;omega,(J C).1,(J C).2⟩
 split at h
 .simp only[ba,gQ] at h;obtain⟨h1,h2,C,M⟩:=h;obtain⟨X,g2,U⟩:=Ft hs M;exact⟨by rw[h1];exact eK,tP hl X,by rw[h2];exact eK,by unfold dT;omega,(J C).1,(J C).2⟩
 split at h
 .simp only[ba,gQ] at h;obtain⟨_,_,U,g4,g5,g6,g7,g8⟩:=h;have hk:dx f.aW x.to≠0:=fun e=>by simp[oa,e] at U
  refine⟨tP hl (rU U),by rw[g4];exact eK,by rw[g5];exact eK,by rw[g6];exact eK,fun r hr=>?_,oG⟩
  have:dm (dx f.aW r) (dx f.aW x.to)=true:=by
   simp only[Bool.not_eq_true',List.any_eq_false] at g8;simpa using g8 r hr
  rw[gQ] at this;exact tP hl (ki (by rw[this];exact hk))
 .rw[ba] at h;cases lp:jA oc x.op with
  |none=>rw[lp] at h;simp at h
  |some s=>rw[lp] at h;exact O7 hl (.inl (BQ lp)) h.2
abbrev bW(w:ByteArray):W8:=w.data.toList
theorem acR(s:ByteArray):∀ (n i:Nat) (r:List UInt8),s.size - i=n->ByteArray.toList.loop s i r=r.reverse++s.data.toList.drop i:=by
 intro n
 induction n with
 |zero=>
  intro i r h;unfold ByteArray.toList.loop;rw[if_neg oG,List.drop_eq_nil_of_le (by show s.data.size<=i;have:s.size=s.data.size:=rfl;omega)];simp
 |succ n ih=>
  intro i r h;unfold ByteArray.toList.loop;rw[if_pos oG,ih (i+1) _ oG];have hi:i<s.data.toList.length:=by show i<s.data.size;have:s.size=s.data.size:=rfl;omega
  have h2:i<s.data.size:=hi;rw[List.drop_eq_getElem_cons hi]
  have:s.get! i=s.data.toList[i]:=by
   show s.data[i]! =_;rw[getElem!_pos s.data i h2];rfl
  rw[this];simp
theorem tv(s:ByteArray):s.toList=s.data.toList:=by
 unfold ByteArray.toList;rw[acR s _ 0 [] rfl];simp
theorem xE{a b:ByteArray}(h:bW a=bW b):a=b:=by
 obtain⟨⟨l⟩⟩:=a;obtain⟨⟨m⟩⟩:=b;simp at h;simp[h]
def iZ(w:ByteArray):Prop:=w.size<=120/\xK (bW w)
theorem Et{s:ByteArray}{c:UInt8}(h:c∈bW s):(c.toNat:Int)∈qJ s:=List.mem_map_of_mem (f:=fun c=>(c.toNat:Int)) h
theorem J4{s:ByteArray}(h:n9 s=true):iZ s:=by
 unfold n9 at h;simp only[ba,Bool.not_eq_true',List.any_eq_false] at h;have h1:=kP.1 h.1;refine⟨oG,fun hc=>?_,fun hc=>?_⟩
 .exact absurd (h.2 _ (Et hc)) oC
 .exact absurd (h.2 _ (Et hc)) oC
theorem J5{s:ByteArray}(h:isName s=true):iZ s:=by
 unfold isName at h;simp only[ba,Bool.not_eq_true',List.any_eq_false] at h;have h1:=kP.1 h.1;refine⟨oG,fun hc=>?_,fun hc=>?_⟩
 .exact absurd (h.2 _ (Et hc)) oC
 .exact absurd (h.2 _ (Et hc)) oC
theorem An{s:ByteArray}(h:s.toList=[]):iZ s:=by
 rw[tv] at h;refine⟨?_,?_⟩
 .have:s.size=(bW s).length:=rfl;rw[this];unfold bW;rw[h];simp
 .unfold bW;rw[h];simp[xK]
structure Kw(x:End):Prop where
 kind:1<=x.kind/\x.kind<=9
 a:dT x.a
 b:dT x.b
 to:dT x.to
 gN:dT x.gN
 others:dT x.others
 args:∀ r∈x.args,dT r
 len:x.args.length<=1200
 ins:xL x.ins
 aU:x.aU.length<=7
 wh:∀ w∈x.aU,dT w.to/\isName w.name=true
 name:iZ x.name
theorem abF{x:End}(h:vV x=true):(x.kind=0/\x.a=0/\x.b=0/\x.to=0/\x.gN=0/\x.others= -1)/\x.args.length=0/\x.aU.length=0/\x.name.toList=[]/\xL x.ins:=by
 simp only[vV,ba,decide_eq_true_eq,Gm,beq_iff_eq] at h;obtain⟨h1,h2,h3,h4,h5,h6,h7,h8,h9,VU,C,J,M,U,X⟩:=h;have:=lH (l:=x.ins.args) oG;exact⟨⟨h1,h2,h3,h4,h5,h7⟩,oG,oG,h6,by rw[C];exact eK,by rw[J];exact eK,by rw[M];exact eK,by rw[U];exact eK,this.1,this.2⟩
theorem Xr{f:au}{x:End}(hb:f.blocks.length<=1200)(h:n2 f x=true):x.aU.length<=7/\(∀ w∈x.aU,dT w.to/\isName w.name=true)/\dT x.others:=by
 obtain⟨h1,h2,J⟩:=EC h;refine⟨h1,fun w C=>⟨by have:=h2 w C;unfold dT;omega,?_⟩,?_⟩
 .unfold n2 at h;rw[ba] at h;obtain⟨i,hi⟩:=ep C;have:=bV.1 h.1 (w,i) (List.mem_zipIdx_iff_getElem?.2 hi);simp only[q7,ba] at this;exact this.1
 .by_cases h0:0<=x.others
  .have:=J h0;unfold dT;omega
  .unfold n2 at h;rw[ba,ba,Bool.or_eq_true] at h;rcases h.2.2 with h|h
   .have:x.others= -1:=by simpa using h
    unfold dT;omega
   .rw[ei,kP] at h;unfold dT;omega
theorem Z4{f:au}{x:End}(hl:f.aW.length<=1200)(mW:f.blocks.length<=1200)(hr:vi f=true)(h:ji f x=true):Kw x:=by
 have X:∀ {r:Int},jn f.aW r->dT r:=fun h=>tP hl h;unfold ji at h;rw[ba] at h;obtain⟨h,hb⟩:=h;have hb:=abF hb;have U:∀ {t:Int},ei f t=true->dT t:=fun h=>by rw[ei,kP] at h;unfold dT;omega
 have wV:dT (-1):=by unfold dT;omega
 have hh:=Xr (x:=x) mW;obtain⟨kind,a,b,to,gN,name,ins,args,aU,others⟩:=x;simp only[eJ] at h hb;by_cases h1:kind=1
 .subst h1;simp only[if_true] at h hb;obtain⟨⟨b1,b2,b3,b4,b5,b6⟩,b7,b8,b9,lu⟩:=hb;have M:aU=[]:=List.length_eq_zero_iff.1 b8;subst M b2 b3 b5 b6;exact⟨(⟨oC,oC⟩:(1:Int)<=1/\(1:Int)<=9),eK,eK,U h,eK,wV,(lH b7).1,(lH b7).2,lu,oS,oS,An b9⟩
 by_cases h2:kind=2
 .subst h2;simp only[Int.reduceEq,if_false,if_true,ba,gQ] at h hb;obtain⟨⟨b1,b2,b3,b4,b5,b6⟩,b7,b8,b9,lu⟩:=hb;have M:aU=[]:=List.length_eq_zero_iff.1 b8;subst M b3 b6;exact⟨(⟨oC,oC⟩:(1:Int)<=2/\(2:Int)<=9),X (ki (l:=f.aW) (r:=a) oG),eK,U h.2.1,U h.2.2,wV,(lH b7).1,(lH b7).2,lu,oS,oS,An b9⟩
 by_cases C:kind=3
 .subst C;simp only[Int.reduceEq,if_false,if_true] at h hb;obtain⟨⟨b1,b2,b3,b4,b5,b6⟩,b7,b8,b9,lu⟩:=hb;have M:aU=[]:=List.length_eq_zero_iff.1 b8;subst M b3 b4 b5 b6;refine⟨(⟨oC,oC⟩:(1:Int)<=3/\(3:Int)<=9),?_,eK,eK,eK,wV,(lH b7).1,(lH b7).2,lu,oS,oS,An b9⟩;split at h
  .rename_i hc;rw[gQ] at h;exact X (ki (by rw[h];exact hc.1))
  .rw[gQ] at h;show dT a;rw[h];exact wV
 by_cases J:kind=4
 .subst J;simp only[Int.reduceEq,if_false,if_true] at h hb;obtain⟨⟨b1,b2,b3,b4,b5,b6⟩,b7,b8,b9,lu⟩:=hb;have M:aU=[]:=List.length_eq_zero_iff.1 b8;subst M b2 b3 b4 b5 b6;exact⟨(⟨oC,oC⟩:(1:Int)<=4/\(4:Int)<=9),eK,eK,eK,eK,wV,(lH b7).1,(lH b7).2,lu,oS,oS,J5 h⟩
 by_cases h5:kind=5
 .subst h5;simp only[Int.reduceEq,if_false,if_true,ba] at h hb;obtain⟨⟨b1,b2,b3,b4,b5,b6⟩,b7,b8,b9,lu⟩:=hb;obtain⟨h1,h2,C,J⟩:=h;obtain⟨g1,g2,g3⟩:=hh J;subst b2 b3 b5;refine⟨(⟨oC,oC⟩:(1:Int)<=5/\(5:Int)<=9),eK,eK,U C,eK,g3,(lH b7).1,(lH b7).2,?_,g1,g2,An b9⟩;cases lp:jA np ins.op with
  |none=>rw[lp] at h1;simp at h1
  |some s=>rw[lp] at h2;exact O7 hl (.inr (BQ lp)) h2
 by_cases h6:kind=6
 .subst h6;simp only[Int.reduceEq,if_false,if_true,ba,decide_eq_true_eq,Bool.or_eq_true,gQ] at h hb;obtain⟨⟨b1,b2,b3,b4,b5,b6⟩,b7,b8,b9,lu⟩:=hb;obtain⟨h1,h2,C,J,h5,h6⟩:=h;obtain⟨g1,g2,g3⟩:=hh h6;subst b3 b5;refine⟨(⟨oC,oC⟩:(1:Int)<=6/\(6:Int)<=9),?_,eK,U h5,eK,g3,fun r hr=>X (tx C r hr),?_,lu,g1,g2,J4 h1⟩
  .show dT a;rcases J with rfl|J
   .exact wV
   .exact X (rU J)
  .show args.length<=1200;omega
 by_cases h7:kind=7
 .subst h7;simp only[Int.reduceEq,if_false,if_true,ba,decide_eq_true_eq,gQ] at h hb;obtain⟨⟨b1,b2,b3,b4,b5,b6⟩,b7,b8,b9,lu⟩:=hb;obtain⟨h1,h2,C,J,h5⟩:=h;have M:aU=[]:=List.length_eq_zero_iff.1 b8;subst M b3 b5 b6;refine⟨(⟨oC,oC⟩:(1:Int)<=7/\(7:Int)<=9),X (ki (l:=f.aW) (r:=a) oG),eK,U h5,eK,wV,fun r hr=>X (tx C r hr),?_,lu,oS,oS,J4 h1⟩;show args.length<=1200;omega
 by_cases h8:kind=8
 .subst h8;simp only[Int.reduceEq,if_false,if_true,ba,gQ] at h hb;obtain⟨⟨b1,b2,b3,b4,b5,b6⟩,b7,b8,b9,lu⟩:=hb;obtain⟨h1,h2,C,J,h5⟩:=h;obtain⟨g1,g2,g3⟩:=hh h5;exact⟨(⟨oC,oC⟩:(1:Int)<=8/\(8:Int)<=9),X (ki (l:=f.aW) (r:=a) oG),X (rU h2),U C,U J,g3,(lH b7).1,(lH b7).2,lu,g1,g2,An b9⟩
 by_cases h9:kind=9
 .subst h9;simp only[Int.reduceEq,if_false,if_true,ba,gQ] at h hb;obtain⟨⟨b1,b2,b3,b4,b5,b6⟩,b7,b8,b9,lu⟩:=hb;obtain⟨h1,h2,C⟩:=h;have M:aU=[]:=List.length_eq_zero_iff.1 b8;subst M b3 b5 b6;refine⟨(⟨oC,oC⟩:(1:Int)<=9/\(9:Int)<=9),X (ki (l:=f.aW) (r:=a) ?_),eK,U C,eK,wV,(lH b7).1,(lH b7).2,lu,oS,oS,An b9⟩;rw[h2];intro e;simp[vi,e,h1] at hr
 .simp only[h1,h2,C,J,h5,h6,h7,h8,h9,if_false] at h;cases h
def jh(b:bI):Bool:=decide (b.fin.kind=6)||decide (b.fin.kind=7)
def eh(bs:List bI):List ByteArray:=(bs.filter jh).map (·.fin.name)
theorem WK(bs:List bI)(b:bI):eh (bs++[b])=eh bs++if jh b then [b.fin.name] else []:=by
 unfold eh;rw[List.filter_append,List.map_append];cases h:jh b<;>simp[h]
theorem wX(bs:List bI):(eh bs).length<=bs.length:=by
 unfold eh;rw[List.length_map];exact List.length_filter_le _ _
end Go.Argus
end
namespace Go.Argus
open Go Go.Abs
def J1(l:List Int):Prop:=∀ (i j:Nat) x y,i<=j->l[i]? =some x->l[j]? =some y->x<=y
def aj'(l:List Int)(j k:Nat):Prop:=(∀ p q,p<q->q<=k->p≠j->q≠j->l.getD p 0<=l.getD q 0)/\∀ q,j<q->q<=k->l.getD j 0<=l.getD q 0
def UI(l:List Int)(k:Nat):Prop:=∀ p q,p<=q->q<=k->l.getD p 0<=l.getD q 0
theorem PH{l:List Int}{j:Nat}(h:j+1<l.length)(i:Nat):(swapAt l j).getD i 0=if i=j then l.getD (j+1) 0 else if i=j+1 then l.getD j 0 else l.getD i 0:=by
 unfold swapAt;simp only[du,List.getElem?_set,List.length_set];by_cases e:j=i
 .subst e;rw[if_pos rfl,if_pos rfl,if_pos oG];rfl
 .rw[if_neg e,if_neg (show ¬ i=j from fun h=>e h.symm)];by_cases e2:j+1=i
  .subst e2;rw[if_pos rfl,if_pos rfl,if_pos h];rfl
  .rw[if_neg e2,if_neg (show ¬ i=j+1 from fun h=>e2 h.symm)]
theorem RL{k:Nat}:∀ {j:Nat} {l:List Int},j<=k->k<l.length->aj' l j k->UI (oB l j) k
 |0,l,_,_,h=>fun p q C hq=>by
  rw[oB];rcases Nat.lt_or_ge p q with g|g
  .by_cases hp:p=0
   .subst hp;exact h.2 q g hq
   .exact h.1 p q g hq hp oG
  .have:p=q:=by omega
   subst this;exact Int.le_refl _
 |j+1,l,hj,hk,h=>by
  rw[oB];split
  .rename_i ah;have hs:=PH (l:=l) (j:=j) oG;refine RL oG (by simpa using hk) ⟨fun p q C hq hp M=>?_,fun q hq J=>?_⟩
   .rw[hs,hs,if_neg hp,if_neg M];by_cases e1:p=j+1
    .rw[if_pos e1,if_neg oG];exact h.1 j q oG hq oG oG
    .rw[if_neg e1];by_cases e2:q=j+1
     .rw[if_pos e2];exact h.1 p j oG oG e1 oG
     .rw[if_neg e2];exact h.1 p q C hq e1 e2
   .rw[hs,hs,if_pos rfl,if_neg oG];by_cases e2:q=j+1
    .rw[if_pos e2];omega
    .rw[if_neg e2];exact h.2 q oG J
  .rename_i U;intro p q C hq;rcases Nat.lt_or_ge p q with g|g
   .by_cases e1:p=j+1
    .subst e1;exact h.2 q g hq
    .by_cases e2:q=j+1
     .subst e2;by_cases e3:p=j
      .subst e3;omega
      .have:=h.1 p j oG oG oG oG;omega
     .exact h.1 p q g hq e1 e2
   .have:p=q:=by omega
    subst this;exact Int.le_refl _
theorem QG{i:Nat}:∀ {j:Nat} {l:List Int},j<i->j<l.length->(oB l j).getD i 0=l.getD i 0
 |0,l,_,_=>rfl
 |j+1,l,h,hl=>by
  rw[oB];split
  .rw[QG oG oP,PH oG,if_neg oG,if_neg oG]
  .rfl
theorem QH{l:List Int}:∀ k,k<l.length->UI (mD l k) k/\∀ i,k<i->(mD l k).getD i 0=l.getD i 0
 |0,_=>⟨fun p q C hq=>by
  have:p=q:=by omega
  subst this;exact Int.le_refl _,fun _ _=>rfl⟩
 |k+1,hk=>by
  obtain⟨h1,h2⟩:=QH (l:=l) k oG;rw[mD];refine⟨RL (bc _) (by simpa using hk) ⟨fun p q C hq hp J=>h1 p q oG oG,fun q hq J=>by omega⟩,fun i hi=>?_⟩;rw[QG hi oP];exact h2 i oG
theorem WR(l:List Int):J1 (nB l):=fun i j x y C hx hy=>by
 obtain⟨hj,J⟩:=bM.1 hy;have hl:(nB l).length=l.length:=Pr l;have h:=(QH (l:=l) (l.length - 1) oG).1 i j C oG;have e:mD l (l.length - 1)=nB l:=rfl;rw[e,du,du,hx,hy] at h;exact h
theorem Sy{d:List Int}(hs:J1 d):∀ t,t<=d.length->(fe d t).Pairwise (·<·)/\(0<t->∀ x∈fe d t,x<=d.getD (t - 1) 0)
 |0,_=>⟨by simp[fe],fun h=>absurd h (Nat.lt_irrefl 0)⟩
 |t+1,ht=>by
  obtain⟨h1,h2⟩:=Sy hs t oG
  have hg:∀ i,i<d.length->d[i]? =some (d.getD i 0):=fun i hi=>by
   have:=a8 hi;rw[du,this];rfl
  have C:∀ x∈fe d t,x<=d.getD t 0:=fun x hx=>by
   have h0:0<t:=by
    cases t with
    |zero=>simp[fe] at hx
    |succ t=>omega
   have a:=h2 h0 x hx;have b:=hs (t - 1) t _ _ oG (hg _ oG) (hg _ oG);omega
  rw[fe];split
  .rw[List.append_nil];exact⟨h1,fun _ x hx=>by rw[Nat.add_sub_cancel];exact C x hx⟩
  .rename_i J;refine⟨?_,fun _ x hx=>?_⟩
   .rw[List.pairwise_append];refine⟨h1,oS,fun x hx y hy=>?_⟩;rw[List.mem_singleton] at hy;subst hy
    have h0:0<t:=by
     cases t with
     |zero=>simp[fe] at hx
     |succ t=>omega
    have a:=h2 h0 x hx;have b:=hs (t - 1) t _ _ oG (hg _ oG) (hg _ oG);have c:d.getD t 0≠d.getD (t - 1) 0:=fun e=>J ⟨oG,e⟩;omega
   .rw[Nat.add_sub_cancel];rw[List.mem_append,List.mem_singleton] at hx;rcases hx with hx|hx
    .exact C x hx
    .rw[hx];exact Int.le_refl _
theorem Xo{d:List Int}(hs:J1 d):(ng d).Pairwise (·<·):=(Sy hs _ (bc _)).1
theorem ZV(x:End):(Go.Proofs.Tryz.K.nextR x).Pairwise (·<·):=Xo (WR _)
theorem Yn{b:Nat}:∀ (l:List Int) (L:Nat->List Int),l.Pairwise (·<·)->(∀ t∈l,0<=t)->(∀ i,(L i).Pairwise (·<·)/\∀ x∈L i,x<(b:Int))->
 ∀ i,(l.foldl (jC b) L i).Pairwise (·<·)/\(∀ x∈l.foldl (jC b) L i,x<(b:Int)+1):=fun l=>by
 have key:∀ (l:List Int) (L:Nat->List Int),l.Pairwise (·<·)->(∀ t∈l,0<=t)->∀ i,l.foldl (jC b) L i=L i++(if(i:Int)∈l then [(b:Int)] else []):=fun l=>by
  induction l with
  |nil=>intro L _ _ i;simp
  |cons t l ih=>
   intro L hp h0 i;rw[List.pairwise_cons] at hp;have ht:=h0 t oS;obtain⟨C,rfl⟩:=iQ ht;rw[List.foldl_cons,ih _ hp.2 (fun t h=>h0 t (by simp[h]))];unfold jC;simp only[iv,up];by_cases e:i=C
   .subst e;rw[if_pos rfl,if_neg (fun h=>by have:=hp.1 _ h;omega),if_pos oS,List.append_nil]
   .rw[if_neg e];congr 1;have:¬ (i:Int)=C:=by omega
    simp[this]
 intro L hp h0 J i;rw[key l L hp h0 i];obtain⟨h1,h2⟩:=J i;split
 .refine⟨?_,fun x hx=>?_⟩
  .rw[List.pairwise_append];exact⟨h1,oS,fun x hx y hy=>by rw[List.mem_singleton] at hy;rw[hy];exact h2 x hx⟩
  .rw[List.mem_append,List.mem_singleton] at hx;rcases hx with hx|hx
   .have:=h2 x hx;omega
   .omega
 .rw[List.append_nil];exact⟨h1,fun x hx=>by have:=h2 x hx;omega⟩
theorem O0{bs:List bI}(h0:∀ b∈bs,∀ t∈Go.Proofs.Tryz.K.nextR b.fin,0<=t):∀ k i,(df bs k i).Pairwise (·<·)/\∀ x∈df bs k i,x<(k:Int)
 |0,i=>by simp[df]
 |k+1,i=>by
  have ih:=O0 h0 k;have e:df bs (k+1)=pM bs (df bs k) k:=by rw[df,List.range_succ,List.foldl_append];rfl
  rw[e];unfold pM;cases hx:bs[k]? with
  |none=>exact⟨(ih i).1,fun x hx=>by have:=(ih i).2 x hx;omega⟩
  |some b=>
   obtain⟨h1,h2⟩:=Yn (b:=k) (Go.Proofs.Tryz.K.nextR b.fin) (df bs k) (ZV _) (h0 b (bz hx)) ih i;exact⟨h1,fun x hx=>by have:=h2 x hx;omega⟩
theorem RM:∀ {l:List Int} {a k:Nat},l.Pairwise (·<·)->(∀ x∈l,(a:Int)<=x/\x<(k:Int))->l.length<=k - a
 |[],_,_,_,_=>Nat.zero_le _
 |x::l,a,k,hp,h=>by
  rw[List.pairwise_cons] at hp;have hx:=h x oS;obtain⟨C,rfl⟩:=iQ (show 0<=x by omega)
  have:=RM (l:=l) (a:=C+1) (k:=k) hp.2 fun y hy=>by
   have:=hp.1 y hy;have:=h y (by simp[hy]);omega
  rw[List.length_cons];omega
end Go.Argus
section
open Go Go.Abs Go.Proofs Go.Argus
namespace Go.Proofs.Tryz.K
theorem Qm{σ:D->D}(h:∀ n,sub σ (.s n)=.s n)(l:List ByteArray):(l.map S).map (sub σ)=l.map S:=by
 rw[List.map_map];exact List.map_congr_left fun c _=>h _
theorem MV{f:au}(dk:f.blocks.length<=1000000):aD prog 65 [.agg (aY f)] (bZ (eh f.blocks)):=by
 refine bj ah6 (.cons (.agg (nb f)) .nil) (jb _) ?_;rw[ah7];refine az ?_;refine ag ?_;refine af (bJ (dE [(0,aY f,48)] eH (l:=[(1,.pt (aY f))]) eH) (az ?_));refine SS ?_;refine af ⟨_,.sd _ _ _ 3 9 rfl,aC (az ?_)⟩;refine aV ?_
 refine af (cz (fun s=>∃ r nx,aL prog s ⟨aA [(3,.rs r 0 (eh f.blocks).length)],bu [(r,.cells ((eh f.blocks).map S) 9)],nx⟩) (cy (α:=Nat×Nat×Nat)
  (fun s=>⟨aA [(3,.rs s.2.1 0 (eh (f.blocks.take s.1)).length),(7,cL f.blocks),(8,I f.blocks.length),(9,I s.1)],bu [(s.2.1,.cells ((eh (f.blocks.take s.1)).map S) 9)],s.2.2⟩)
  (fun s=>s.1<=f.blocks.length/\s.2.1<s.2.2) (fun s=>f.blocks.length - s.1) (0,1,2)
  (cq eH eH) ⟨Nat.zero_le _,oC⟩ ?_) ?_)
 .rintro⟨k,r,nx⟩ ⟨hk,hr⟩;dsimp only at hk hr ⊢;refine SS ?_;refine af ⟨_,rfl,fun h=>?_,fun h=>?_⟩
  .have ah:k<f.blocks.length:=by simpa using h
   clear h;obtain⟨b,hb⟩:∃ b,f.blocks[k]? =some b:=⟨_,a8 ah⟩
   have C:eh (f.blocks.take (k+1))=eh (f.blocks.take k)++if jh b then [b.fin.name] else []:=by
    rw[List.take_add_one,hb, <- WK];rfl
   have rG:(eh (f.blocks.take k)).length<=1000000:=by
    have:=wX (f.blocks.take k);have:(f.blocks.take k).length<=f.blocks.length:=List.length_take_le' _ _;omega
   have M:jh b=(decide (b.fin.kind=6)||decide (b.fin.kind=7)):=rfl;generalize eh (f.blocks.take k)=cs at*
   have J:bu [(r,Row.cells (cs.map S) 9)] r=some (.cells (cs.map S) 9):=by simp[bu]
   refine az ?_;refine aV ?_;refine af ⟨_,qG (i:=nx) (cs:=bS b) (e:=59) (al _ _ _) (l:=[(3,.rs r 0 cs.length),(7,cL f.blocks),(8,I f.blocks.length),(9,I k),(5,.pt (bS b))]) ⟨zP oG,rfl,rfl,rfl,lC,trivial⟩ (ml:=[(r,.cells (cs.map S) 9)]) ⟨Rq oG (ai oG (ai oG J)) (congrArg (Row.cells · 9) (Qm (fun _=>rfl) cs)),trivial⟩,aj ?_⟩;refine dM ?_;refine ag ?_;have aq:=J;refine af (aR rfl (fun hp=>?_) fun hp=>?_)
   .have hc:jh b=true:=by
     rw[M];revert hp;cases U:(b.fin.kind==6)<;>simp_all
    rw[if_pos hc] at C;refine ly ?_;refine fV ?_;refine af ?_;show av prog cZ (Z o6 7) false [] _ (Z o6 7).toList _ [];refine ag ?_;refine af (bh (k+1,nx+1+1,nx+1+1+1) ?_ ⟨oM,?_⟩ oM)
    .dsimp only;rw[C];refine cq ⟨?_,rfl,rfl,rfl,trivial⟩ ⟨(al _ _ _).trans (by simp;rfl),trivial⟩;rw[List.length_append];rfl
    .dsimp only;omega
   .have hc:jh b=false:=by
     rw[M];revert hp;cases U:(b.fin.kind==6)<;>simp_all
    rw[hc,if_neg oS,List.append_nil] at C;refine c7 ?_;refine ag ?_;refine af (bh (k+1,r,nx+1) ?_ ⟨oM,?_⟩ oM)
    .dsimp only;rw[C];exact aw eH
    .dsimp only;omega
  .have X:¬ k<f.blocks.length:=by simpa using h
   have:k=f.blocks.length:=by omega
   subst this;rw[List.take_length];exact⟨r,nx,aw eH⟩
 .rintro s ⟨r,nx,hg⟩;refine⟨_,hg,az ?_⟩;refine ag ?_;refine af (bJ (fv (i:=r) (cs:=(eh f.blocks).map S) (e:=9) (by simp[bu]) (l:=[(2,bZ (eh f.blocks))]) ⟨?_,trivial⟩) (aJ rfl rfl));exact(jR (by rw[c9];simp)).trans oS
theorem Il{P:Program}{Y:eb}{rf:Bool}{Q:Exit->St->Prop}{st:St}{b:Code}{c:Operand}{x y:Code}(hc:opd st.env c=.ub)(ht:AW P Y rf (.seq x b) Q st)(hf:AW P Y rf (.seq y b) Q st):AW P Y rf (.seq (.cond c x y) b) Q st:=Rn hc ht hf
theorem Vf{l:List Int}(hl:l.length<=1000000):aD prog 91 [iA l] (iA l):=by
 refine bj ah8 (.cons (o0 l) .nil) (o0 l) ?_;rw[ah9];refine ws ?_;refine SS ?_;cases l with
 |nil=>
  refine af (aC (aj ?_));refine ax (dO (v:=.sl [] 0) rfl) aP trivial ?_;refine ax (Gh rfl) aP AT ?_;refine af (Il rfl (aC (az ?_)) (bX (az ?_)))
  .refine SS ?_;exact af (bJ (xc (n0:=2) rfl) (ew (aJ rfl rfl)))
  .have C:(([]:List Int).map U8).take (0*1)=[]:=rfl;refine ag ?_;refine jq (je rfl rfl rfl HM c5 (qI C) rfl) aP ⟨AT,rfl,oS,oC,rfl,oC,oC,oS⟩ ?_;refine SS ?_;refine af (bJ (fv (i:=1) rfl (l:=[(2,iA [])]) ⟨?_,trivial⟩) (aJ rfl rfl));exact(jR (by simp[c5])).trans oS
 |cons x J=>
  have M:(x::J).length≠0:=by simp
  generalize x::J=l at*
  have C:(l.map U8).take (l.length*1)=l.map U8:=dv oS;refine af (aC (aj ?_));refine ax (dO (v:=.sl _ _) rfl) aP trivial ?_;refine ax (Gi rfl M) aP AT ?_;refine af (nv (bX (az ?_)));refine ag ?_;refine jq (je rfl rfl rfl HM c5 (qI C) rfl) aP ⟨AT,rfl,oS,oC,rfl,by unfold maxLen;omega,by rw[b5];omega,oS⟩ ?_;refine SS ?_;refine af (bJ (fv (i:=1) rfl (l:=[(2,iA l)]) ⟨?_,trivial⟩) (aJ rfl rfl));exact(jR (by simp[c5])).trans oS
theorem MW{l:List ByteArray}(hl:l.length<=1000000):aD prog 92 [bZ l] (bZ l):=by
 refine bj ah' (.cons (jb l) .nil) (jb l) ?_;rw[aia];refine ws ?_;refine SS ?_;cases l with
 |nil=>
  refine af (aC (aj ?_));refine ax (dO (v:=.sl [] 0) rfl) aP trivial ?_;refine ax (Gh rfl) aP uu ?_;refine af (Il rfl (aC (az ?_)) (bX (az ?_)))
  .refine SS ?_;exact af (bJ (xc (n0:=2) rfl) (ew (aJ rfl rfl)))
  .have C:(([]:List ByteArray).map S).take (0*1)=[]:=rfl;refine ag ?_;refine jq (je rfl rfl rfl rI c9 (qI C) rfl) aP ⟨uu,rfl,oS,oC,rfl,oC,oC,oS⟩ ?_;refine SS ?_;refine af (bJ (fv (i:=1) rfl (l:=[(2,bZ [])]) ⟨?_,trivial⟩) (aJ rfl rfl));exact(jR (by simp[c9])).trans oS
 |cons x J=>
  have M:(x::J).length≠0:=by simp
  generalize x::J=l at*
  have C:(l.map S).take (l.length*1)=l.map S:=dv oS;refine af (aC (aj ?_));refine ax (dO (v:=.sl _ _) rfl) aP trivial ?_;refine ax (Gi rfl M) aP uu ?_;refine af (nv (bX (az ?_)));refine ag ?_;refine jq (je rfl rfl rfl rI c9 (qI C) rfl) aP ⟨uu,rfl,oS,oC,rfl,by unfold maxLen;omega,by rw[b9];omega,oS⟩ ?_;refine SS ?_;refine af (bJ (fv (i:=1) rfl (l:=[(2,bZ l)]) ⟨?_,trivial⟩) (aJ rfl rfl));exact(jR (by simp[c9])).trans oS
theorem MX{l:List iK}(hl:l.length<=1000000):aD prog 94 [lz l] (lz l):=by
 refine bj aib (.cons (ja l) .nil) (ja l) ?_;rw[aic];refine ws ?_;refine SS ?_;cases l with
 |nil=>
  refine af (aC (aj ?_));refine ax (dO (v:=.sl [] 0) rfl) aP trivial ?_;refine ax (Gh rfl) aP Dw ?_;refine af (Il rfl (aC (az ?_)) (bX (az ?_)))
  .refine SS ?_;exact af (bJ (xc (n0:=2) rfl) (ew (aJ rfl rfl)))
  .have C:(([]:List iK).flatMap gR).take (0*2)=[]:=rfl;refine ag ?_;refine jq (je rfl rfl rfl MY HN (qI C) rfl) aP ⟨Dw,rfl,oS,oC,rfl,oC,oC,oS⟩ ?_;refine SS ?_;refine af (bJ (fv (i:=1) (cs:=[]) rfl (l:=[(2,lz [])]) ⟨?_,trivial⟩) (aJ rfl rfl));exact jR (sz:=2) rfl
 |cons x M=>
  have J:(x::M).length≠0:=by simp
  generalize x::M=l at*
  have C:(l.flatMap gR).take (l.length*2)=l.flatMap gR:=by rw[B3 (f:=gR) (sz:=2) (fun _=>rfl),List.take_length]
  have U:(l.flatMap gR).length=l.length*2:=by clear C J;induction l with|nil=>rfl|cons x l ih=>rw[List.flatMap_cons,List.length_append,ih (by simp at hl;omega),List.length_cons];show 2+l.length*2=_;omega
  refine af (aC (aj ?_));refine ax (dO (v:=.sl _ _) rfl) aP trivial ?_;refine ax (Gi rfl J) aP Dw ?_;refine af (nv (bX (az ?_)));refine ag ?_;refine jq (je rfl rfl rfl MY HN (qI C) rfl) aP ⟨Dw,rfl,Nat.le_of_eq U.symm,oC,rfl,by unfold maxLen;omega,by rw[Vg];omega,oS⟩ ?_;refine SS ?_;refine af (bJ (fv (i:=1) (cs:=l.flatMap gR) rfl (l:=[(2,lz l)]) ⟨?_,trivial⟩) (aJ rfl rfl));exact(jR (by rw[HN,Nat.zero_add];exact U)).trans (by rw[Nat.zero_add];rfl)
end Go.Proofs.Tryz.K
namespace Go.Argus
structure Ao(b:bI):Prop where
 len:b.ins.length<=200
 ins:∀ x∈b.ins,xL x
 fin:Kw b.fin
structure qU(f:au):Prop where
 name:iZ f.name
 args:i64 f.args
 aW:f.aW.length<=1200
 cr:f.cr.length<=60
 sigs:f.signals.length<=6
 sig:∀ s∈f.signals,isName s=true
 j7:f.blocks.length<=1200
 bG:∀ b∈f.blocks,Ao b
theorem tH{f:au}(h:ni f=true):qU f:=by
 have C:=Ks h;unfold ni at h;simp only[ba] at h;obtain⟨h1,h2,h3,X,h5⟩:=h;unfold tM at h1;simp only[ba] at h1;unfold xq at h2;simp only[ba,Bool.not_eq_true',decide_eq_false_iff_not,List.any_eq_false] at h2;refine⟨J4 h1.1,by have:=C.args;unfold i64;omega,C.aW,C.cr.2,oG,fun s hs=>by simpa using h2.2.2.2.2 s hs,C.j7,fun b hb=>?_⟩;obtain⟨k,hk⟩:=ep hb;have U:k<f.blocks.length:=(bM.1 hk).1;have he:=bV.1 X k (List.mem_range.2 U);unfold lF at he;rw[getD_some hk] at he;simp only[ba,Bool.not_eq_true',decide_eq_false_iff_not] at he;refine⟨oG,fun x hx=>?_,Z4 C.aW C.j7 h1.2.2.1 he.1⟩;obtain⟨j,hj⟩:=ep hx;have hr:=C.right k b hk j x hj;refine Z3 C.aW C.cr.1 C.cr.2 ?_ hr;obtain⟨J,M⟩:=O0 (bs:=f.blocks) (fun b hb t ht=>((C.bG b hb).to t ht).1) f.blocks.length k;have:=RM (a:=0) J fun x hx=>⟨by obtain⟨b,rfl,_⟩:=IC.1 hx;omega,M x hx⟩
 have:=C.j7;omega
theorem O8(wsq:List ByteArray):bW (gV wsq)=yh (wsq.map bW):=by
 unfold gV yh bW;rw[ByteArray.data_append,Array.toList_append, <- join_eq];rfl
theorem Jx:∀ C:List (List ByteArray),bW (eN C)=yi (C.map fun l=>l.map bW)
 |[]=>rfl
 |l::C=>by
  have ih:=Jx C;unfold bW at ih;simp only[eN,yi,List.map_cons,List.flatMap_cons,bW,ByteArray.data_append,Array.toList_append];rw[ih];have:=O8 l;unfold bW at this;rw[this];rfl
def LB(l:List ByteArray):Prop:=l≠[]/\l.length<=1210/\∀ w∈l,iZ w
theorem Yt{n:Int}(h:i64 n):(Lib.itoa n).length<=20:=by
 have:∀ u:Nat,u<10 ^ 19->(Lib.decDigits u).length<=19:=fun u hu=>by
  rw[Lib.decDigits_length];exact Yr 18 hu
 unfold i64 at h;unfold Lib.itoa;split
 .have:=this n.natAbs oG;simp;omega
 .have:=this n.toNat oG;omega
theorem GB{n:Int}(h:i64 n):iZ (eM n):=by
 refine⟨?_,by unfold bW eM;simpa using Xq n⟩;have:(eM n).size=(Lib.itoa n).length:=by unfold eM;rfl
 have:=Yt h;omega
theorem F3{l:List Int}(h:∀ n∈l,i64 n):∀ w∈l.map eM,iZ w:=fun w C=>by
 obtain⟨n,hn,rfl⟩:=List.mem_map.1 C;exact GB (h n hn)
theorem UL(l:List Int):∀ n∈l.map iy,i64 n:=fun n hn=>by
 obtain⟨m,_,rfl⟩:=List.mem_map.1 hn;exact zV m
theorem pS{w:ByteArray}(h:(Nat.ble w.size 120&&(!(bW w).contains 32&& !(bW w).contains 10))=true):iZ w:=by
 simp only[ba,Bool.not_eq_true',List.contains_eq_mem,decide_eq_false_iff_not] at h;exact⟨bF h.1,h.2.1,h.2.2⟩
theorem RU:iZ xX/\iZ TE/\iZ TF/\iZ Az/\iZ CF/\iZ EZ/\iZ o4/\iZ sO/\iZ Du/\iZ GO/\iZ AR/\iZ TG:=by
 exact⟨pS oC,pS oC,pS oC,pS oC,pS oC,pS oC,pS oC,pS oC,pS oC,pS oC,pS oC,pS oC⟩
theorem Jy{x:cV}(h:xL x):Hd x:=fun n hn=>by
 unfold wg at hn;simp only[List.mem_cons] at hn;rcases hn with rfl|rfl|rfl|rfl|rfl|hn
 .exact zV _
 .exact h.to.i
 .exact h.a.i
 .exact h.b.i
 .exact h.n.i
 .exact(h.args n hn).i
theorem SD{word:ByteArray}{x:cV}(C:iZ word)(h:xL x):LB (nK word x):=by
 refine⟨by simp[nK],?_,fun w hm=>?_⟩
 .have:=h.len;simp[nK,wg];omega
 .rcases List.mem_cons.1 hm with rfl|hm
  .exact C
  .exact F3 (Jy h) w hm
theorem QP{x:End}(h:Kw x):∀ n∈uv x,i64 n:=fun n hn=>by
 unfold uv at hn;simp only[List.mem_cons] at hn;rcases hn with rfl|rfl|rfl|rfl|rfl|rfl|hn
 .exact zV _
 .exact h.a.i
 .exact h.b.i
 .exact h.to.i
 .exact h.gN.i
 .exact h.others.i
 .exact(h.args n hn).i
theorem abG{b:bI}(h:Ao b):∀ l∈lJ b,LB l:=fun l hl=>by
 obtain⟨wf,wp,wi,wr,wsq,VX,X,J,we,wn,wt,ww⟩:=RU;unfold lJ at hl;simp only[List.mem_cons,List.mem_append] at hl;rcases hl with rfl|hl|rfl|hl|hl|hl
 .exact⟨oS,oS,fun w C=>by simp at C;subst C;exact X⟩
 .obtain⟨x,hx,rfl⟩:=List.mem_map.1 hl;exact SD J (h.ins x hx)
 .refine⟨by simp[rk],?_,fun w hm=>?_⟩
  .have:=h.fin.len;simp[rk,uv];omega
  .rcases List.mem_cons.1 hm with rfl|hm
   .exact we
   .exact F3 (QP h.fin) w hm
 .unfold jX at hl;split at hl
  .simp at hl
  .simp only[List.mem_cons,List.not_mem_nil,or_false] at hl;subst hl
   exact⟨oS,oS,fun w C=>by
    simp only[List.mem_cons,List.not_mem_nil,or_false] at C;rcases C with rfl|rfl
    .exact wn
    .exact h.fin.name⟩
 .unfold lj at hl;split at hl
  .simp only[List.mem_cons,List.not_mem_nil,or_false] at hl;subst hl;exact SD wt h.fin.ins
  .simp at hl
 .obtain⟨x,hx,rfl⟩:=List.mem_map.1 hl;obtain⟨M,U⟩:=h.fin.wh x hx
  exact⟨by simp[lP],by simp[lP],fun w C=>by
   simp only[lP,List.mem_cons,List.not_mem_nil,or_false] at C;rcases C with rfl|rfl|rfl
   .exact ww
   .exact J5 U
   .exact GB M.i⟩
theorem RV{f:au}(h:qU f):∀ l∈jW f,LB l:=fun l hl=>by
 obtain⟨M,X,U,wr,wsq,J,wb,VY,we,wn,wt,ww⟩:=RU;unfold jW Dh at hl;rw[List.mem_append] at hl;rcases hl with hl|hl
 .simp only[List.mem_cons,List.not_mem_nil,or_false] at hl;rcases hl with rfl|rfl|rfl|rfl
  .refine⟨oS,oS,fun w C=>?_⟩;simp only[List.mem_cons,List.not_mem_nil,or_false] at C;rcases C with rfl|rfl|rfl|rfl|rfl
   .exact M
   .exact h.name
   .unfold sH;split
    .exact U
    .exact X
   .exact GB h.args
   .exact GB (zV _)
  .refine⟨oS,by have:=h.aW;simp;omega,fun w C=>?_⟩;rcases List.mem_cons.1 C with rfl|C
   .exact wr
   .exact F3 (UL _) w C
  .refine⟨oS,by have:=h.cr;simp;omega,fun w C=>?_⟩;rcases List.mem_cons.1 C with rfl|C
   .exact wsq
   .exact F3 (UL _) w C
  .refine⟨oS,by have:=h.sigs;simp;omega,fun w C=>?_⟩;rcases List.mem_cons.1 C with rfl|C
   .exact J
   .exact J5 (h.sig w C)
 .obtain⟨b,hb,hl⟩:=List.mem_flatMap.1 hl;exact abG (h.bG b hb) l hl
theorem Z5{l:List ByteArray}(h:LB l):(gV l).size<=150000:=by
 have h1:(gV l).size=(bW (gV l)).length:=rfl;rw[h1,O8];unfold yh;rw[List.length_append,List.length_singleton];have h2:=PS (l.map bW)
 have C:∀ l:List ByteArray,(∀ w∈l,iZ w)->((l.map bW).map fun w=>w.length+1).sum<=l.length*121:=fun l=>by
  induction l with
  |nil=>simp
  |cons a l ih=>
   intro h;have:=ih fun w J=>h w (List.mem_cons_of_mem _ J);have ha:(bW a).length<=120:=(h a oS).1;simp only[List.map_cons,List.sum_cons,List.length_cons];omega
 have:=C l h.2.2;have:=h.2.1;omega
theorem QQ:∀ {C:List (List ByteArray)},(∀ l∈C,LB l)->(eN C).size<=C.length*150000
 |[],_=>by simp[eN]
 |l::C,h=>by
  have:=QQ fun x hx=>h x (List.mem_cons_of_mem _ hx);have:=Z5 (h l oS);simp only[eN,ByteArray.size_append,List.length_cons];omega
theorem Z6{b:bI}(h:Ao b):(lJ b).length<=220:=by
 have h1:=h.len;have h2:=h.fin.aU;have C:(jX b.fin).length<=1:=by unfold jX;split<;>simp
 have J:(lj b.fin).length<=1:=by unfold lj;split<;>simp
 simp only[lJ,q6,List.length_cons,List.length_append,List.length_map];omega
theorem abH{f:au}(h:qU f):(jW f).length<=300000:=by
 have:∀ bs:List bI,(∀ b∈bs,Ao b)->(bs.flatMap lJ).length<=bs.length*220:=fun bs=>by
  induction bs with
  |nil=>simp
  |cons b bs ih=>
   intro h;have:=ih fun x hx=>h x (List.mem_cons_of_mem _ hx);have:=Z6 (h b oS);simp only[List.flatMap_cons,List.length_append,List.length_cons];omega
 have:=this f.blocks h.bG;have:=h.j7;simp only[jW,Dh,List.length_append,List.length_cons,List.length_nil];omega
theorem adr{f:au}(h:qU f):CE f:=by
 refine⟨h.args,by have:=h.aW;omega,by have:=h.cr;omega,by have:=h.sigs;omega,by have:=h.j7;omega,fun b hb=>by have:=(h.bG b hb).len;omega,fun b hb x hx=>?_,fun b hb=>?_,?_⟩
 .have:=(h.bG b hb).ins x hx;exact⟨Jy this,by have:=this.len;omega⟩
 .have:=(h.bG b hb).fin;exact⟨QP this,by have:=this.len;omega,Jy this.ins,by have:=this.ins.len;omega,by have:=this.aU;omega,fun w C=>(this.wh w C).1.i⟩
 .have h1:=QQ (RV h);have h2:=abH h;unfold lO;omega
def yB:List W8->Bool
 |w::k::_=>w==bW Du&&(k==Lib.itoa 6||k==Lib.itoa 7)
 |_=>false
theorem zI{w:W8}{l:List W8}(h:(w==bW Du)=false):yB (w::l)=false:=by
 cases l with
 |nil=>rfl
 |cons k l=>simp only[yB];rw[h];rfl
theorem adR(n:Int):bW (eM n)=Lib.itoa n:=by simp[bW,eM]
theorem BY{α:Type}{p:α->Bool}{l:List α}(h:∀ x∈l,p x=false):l.countP p=0:=by
 rw[List.countP_eq_zero];intro x hx;rw[h x hx];simp
theorem Xs{b:bI}(h:Ao b):((lJ b).map fun l=>l.map bW).countP yB=if jh b then 1 else 0:=by
 have hk:=h.fin.kind
 have e:yB ((rk b.fin).map bW)=jh b:=by
  simp only[rk,uv,List.map_cons,yB];rw[adR];have J:iy b.fin.kind=b.fin.kind:=by unfold iy IntKind.wrap;simp[IntKind.signed,IntKind.bits];omega
  rw[J]
  have C:∀ n:Int,(Lib.itoa b.fin.kind==Lib.itoa n)=decide (b.fin.kind=n):=fun n=>by
   by_cases e:b.fin.kind=n
   .rw[e];simp
   .rw[decide_eq_false e];exact beq_eq_false_iff_ne.2 fun h=>e (abE h)
  rw[C,C];simp[jh]
 simp only[lJ,List.map_cons,List.map_append,List.countP_cons,List.countP_append];rw[e,zI oC,BY (l:=(q6 b).map _),BY (l:=(jX b.fin).map _),BY (l:=(lj b.fin).map _),BY (l:=(b.fin.aU.map lP).map _)]
 .simp
 .intro l hl;simp only[List.mem_map] at hl;obtain⟨_,⟨w,_,rfl⟩,rfl⟩:=hl;exact zI oC
 .intro l hl;obtain⟨x,hx,rfl⟩:=List.mem_map.1 hl;unfold lj at hx;split at hx
  .simp only[List.mem_cons,List.not_mem_nil,or_false] at hx;subst hx;exact zI oC
  .simp at hx
 .intro l hl;obtain⟨x,hx,rfl⟩:=List.mem_map.1 hl;unfold jX at hx;split at hx
  .simp at hx
  .simp only[List.mem_cons,List.not_mem_nil,or_false] at hx;subst hx;exact zI oC
 .intro l hl;simp only[q6,List.mem_map] at hl;obtain⟨_,⟨x,_,rfl⟩,rfl⟩:=hl;exact zI oC
theorem O9{f:au}(h:qU f):((jW f).map fun l=>l.map bW).countP yB=(eh f.blocks).length:=by
 have hb:∀ bs:List bI,(∀ b∈bs,Ao b)->((bs.flatMap lJ).map fun l=>l.map bW).countP yB=(eh bs).length:=fun bs=>by
  induction bs with
  |nil=>intro _;rfl
  |cons b bs ih=>
   intro h;have ih:=ih fun x hx=>h x (List.mem_cons_of_mem _ hx);have e:=Xs (h b oS);simp only[List.flatMap_cons,List.map_append,List.countP_append];rw[ih,e];unfold eh;rw[List.filter_cons];split<;>simp;omega
 unfold jW;rw[List.map_append,List.countP_append,hb f.blocks h.bG,BY,Nat.zero_add];intro l hl;unfold Dh at hl;simp only[List.map_cons,List.map_nil,List.mem_cons,List.not_mem_nil,or_false] at hl;rcases hl with rfl|rfl|rfl|rfl<;>exact zI oC
theorem QR{f:au}(h:qU f):J2 ((jW f).map fun l=>l.map bW):=fun l hl=>by
 obtain⟨x,hx,rfl⟩:=List.mem_map.1 hl;obtain⟨h1,_,h2⟩:=RV h x hx;refine⟨by simpa using h1,fun w C=>?_⟩;obtain⟨y,hy,rfl⟩:=List.mem_map.1 C;exact(h2 y hy).2
theorem Yu{f g:au}(hf:qU f)(hg:qU g)(h:lO f=lO g):(jW f).map (fun l=>l.map bW)=(jW g).map fun l=>l.map bW:=by
 refine PJ (QR hf) (QR hg) ?_;rw[<- Jx, <- Jx];exact congrArg bW h
theorem Yv{f g:au}(hf:qU f)(hg:qU g)(h:lO f=lO g):(eh f.blocks).length=(eh g.blocks).length:=by
 rw[<- O9 hf, <- O9 hg,Yu hf hg h]
end Go.Argus
namespace Go.Argus
open Go.Proofs.Tryz.K (nextR)
section
variable{to:ByteArray->ByteArray}
def dR(to:ByteArray->ByteArray)(b:bI):bI:=if jh b then { b with fin:={ b.fin with name:=to b.fin.name } } else b
def ik(f:au)(name:ByteArray)(to:ByteArray->ByteArray):au:={ f with name:=name,blocks:=f.blocks.map (dR to) }
theorem Kx(b:bI):(dR to b).ins=b.ins:=by unfold dR;split<;>rfl
theorem J6(b:bI):(dR to b).fin.kind=b.fin.kind:=by unfold dR;split<;>rfl
theorem RW(b:bI):nextR (dR to b).fin=nextR b.fin:=by unfold dR;split<;>rfl
theorem acS(b:bI):iq (dR to b).fin=iq b.fin:=by unfold dR;split<;>rfl
theorem IE(b:bI):mq (dR to b)=mq b:=by unfold dR;split<;>rfl
theorem adS(b:bI):gy (dR to b).fin=gy b.fin:=by unfold dR;split<;>rfl
theorem acT(b:bI):jh (dR to b)=jh b:=by unfold jh;rw[J6]
theorem F4(bs:List bI)(i:Nat):(bs.map (dR to)).getD i k8=dR to (bs.getD i k8):=by
 rw[du,du,List.getElem?_map];cases bs[i]? <;>rfl
theorem abI(bs:List bI):pM (bs.map (dR to))=pM bs:=by
 funext L b;unfold pM;rw[List.getElem?_map];cases bs[b]? with
 |none=>rfl
 |some x=>simp only[Option.map_some,RW]
theorem QS(bs:List bI)(k:Nat):df (bs.map (dR to)) k=df bs k:=by unfold df;rw[abI]
theorem acU(bs:List bI):iG (bs.map (dR to))=iG bs:=by
 funext s k;unfold iG;rw[List.getElem?_map];cases bs[k]? with
 |none=>rfl
 |some x=>simp only[Option.map_some,RW,adS,IE]
theorem Yw(bs:List bI):pC (bs.map (dR to))=pC bs:=by funext s;unfold pC;rw[acU,List.length_map]
theorem Yx(bs:List bI)(n:Nat):qN (bs.map (dR to)) n=qN bs n:=by
 induction n with
 |zero=>rfl
 |succ n ih=>funext s;simp only[qN];rw[Yw,ih]
theorem acV(bs:List bI)(a:Nat):pf (bs.map (dR to)) a=pf bs a:=by unfold pf;rw[Yx,List.length_map]
theorem acW(bs:List bI)(s:CS)(b:Nat)(y:cV):uj (bs.map (dR to)) s b y=uj bs s b y:=by
 unfold uj tL;simp only[List.length_map,QS,F4,acS,IE]
theorem acX(bs:List bI)(a:Nat):tA (bs.map (dR to)) a=tA bs a:=by
 unfold tA rT;simp only[List.length_map,acV,F4,IE,Kx];congr 1;funext b;congr 2;congr 1;funext y;exact acW bs _ b y
theorem acY(bs:List bI)(k:Nat):o2 (bs.map (dR to)) k=o2 bs k:=by
 unfold o2;rw[<- List.map_take];generalize bs.take k=l
 induction l with
 |nil=>rfl
 |cons b l ih=>
  simp only[List.map_cons,List.filter_cons,J6];split
  .simp only[List.map_cons,ih,List.cons.injEq,and_true];unfold dR;split<;>rfl
  .exact ih
theorem acZ{f:au}{C:ByteArray}{b:bI}(h:ji f b.fin=true)(hn:jh b=true->n9 (to b.fin.name)=true):ji (ik f C to) (dR to b).fin=true:=by
 have hb:∀ n,ei (ik f C to) n=ei f n:=fun n=>by simp[ei,ik]
 have hh:∀ x,n2 (ik f C to) x=n2 f x:=fun x=>by
  unfold n2 Gn q7;simp only[hb]
 have he:∀ x,ji (ik f C to) x=ji f x:=fun x=>by
  unfold ji eJ;simp only[hb,hh];rfl
 rw[he];unfold dR;split
 .rename_i hc;have J:=hn hc;unfold jh at hc;simp only[Bool.or_eq_true,decide_eq_true_eq] at hc;unfold ji at h ⊢;rcases hc with hc|hc
  .simp only[eJ,hc,Int.reduceEq,if_false,if_true,ba] at h ⊢;exact⟨⟨J,h.1.2⟩,h.2⟩
  .simp only[eJ,hc,Int.reduceEq,if_false,if_true,ba] at h ⊢;exact⟨⟨J,h.1.2⟩,h.2⟩
 .exact h
theorem abJ{f:au}{J:ByteArray}(h:ni f=true)(h1:n9 J=true)(hn:∀ b∈f.blocks,jh b=true->n9 (to b.fin.name)=true):ni (ik f J to)=true:=by
 unfold ni at h ⊢;simp only[ba] at h ⊢;obtain⟨C,M,U,X,g5⟩:=h;refine⟨?_,M,U,bV.2 fun k hk=>?_,bV.2 fun k hk=>?_⟩
 .unfold tM at C ⊢;simp only[ba] at C ⊢;refine⟨h1,C.2.1,C.2.2.1,C.2.2.2.1,C.2.2.2.2.1,?_⟩;have:=C.2.2.2.2.2;simpa[ik] using this
 .have hk:k<f.blocks.length:=by simpa[ik] using hk
  have:=bV.1 X k (List.mem_range.2 hk);unfold lF at this ⊢;have e:(ik f J to).blocks.getD k k8=dR to (f.blocks.getD k k8):=F4 _ _;have e2:o2 (ik f J to).blocks k=o2 f.blocks k:=acY _ _;have hm:f.blocks.getD k k8∈f.blocks:=bz (dn hk);simp only[e,e2,Kx,J6];simp only[ba] at this ⊢;refine⟨acZ this.1 (hn _ hm),this.2.1,?_⟩;have e3:(dR to (f.blocks.getD k k8)).fin.a=(f.blocks.getD k k8).fin.a:=by unfold dR;split<;>rfl
  rw[e3];exact this.2.2
 .have hk:k<f.blocks.length:=by simpa[ik] using hk
  have:=bV.1 g5 k (List.mem_range.2 hk);unfold tB at this ⊢;have e:(ik f J to).blocks.getD k k8=dR to (f.blocks.getD k k8):=F4 _ _
  have e2:qO (ik f J to)=qO f:=by
   funext b l j;unfold qO ik;simp only[QS,List.length_map];rfl
  simp only[e,Kx];rw[e2];exact this
theorem ac0{f:au}{C:ByteArray}(h:fi f=0)(h1:n9 C=true)(hn:∀ b∈f.blocks,jh b=true->n9 (to b.fin.name)=true):fi (ik f C to)=0:=by
 unfold fi at h ⊢;split at h
 .rename_i hf;rw[if_pos (abJ hf h1 hn)];split at h
  .rename_i hr;rw[if_pos (by rw[show(ik f C to).blocks=f.blocks.map (dR to) from rfl,acX];exact hr)]
  .cases h
 .cases h
theorem checked{f:au}(h:fi f=0):ni f=true:=by
 unfold fi at h;split at h
 .assumption
 .cases h
theorem WU(bs:List bI):eh (bs.map (dR to))=(eh bs).map to:=by
 unfold eh
 induction bs with
 |nil=>rfl
 |cons b bs ih=>
  simp only[List.map_cons,List.filter_cons,acT];split
  .rename_i h;simp only[List.map_cons,ih,List.cons.injEq,and_true];unfold dR;rw[if_pos h]
  .exact ih
end
def kM:ByteArray:=⟨#[95]⟩
def yd(f:au):au:=ik f kM fun _=>kM
def pK(f:au):ByteArray:=lO (yd f)
theorem ON{f:au}(h:fi f=0):fi (yd f)=0:=ac0 h oC fun _ _ _=>by decide
theorem Jn{f:au}(h:fi f=0):qU (yd f):=tH (checked (ON h))
theorem Og{f g:au}(hf:fi f=0)(hg:fi g=0)(h:pK f=pK g):(eh f.blocks).length=(eh g.blocks).length:=by
 have:=Yv (Jn hf) (Jn hg) h
 have e:∀ f:au,(eh (yd f).blocks).length=(eh f.blocks).length:=fun f=>by
  show(eh (f.blocks.map (dR _))).length=_;rw[WU,List.length_map]
 rw[e,e] at this;exact this
end Go.Argus
namespace Go.Argus
def hC(l:List Int):ByteArray:=mkStr (l.map (·+33))
theorem WL(a b:List Int):mkStr (a++b)=mkStr a++mkStr b:=by
 refine xE ?_;simp[mkStr,bW]
theorem Y6(l:List Int)(n:Int):hC (l++[n])=hC l++mkStr [n+33]:=by simp[hC,WL]
theorem IP(l:List Int):(hC l).size=l.length:=by
 show(hC l).data.size=_;simp[hC,mkStr]
theorem Y7{x:Int}(h:0<=x/\x<90):IntKind.i32.wrap (x+33)=x+33:=by
 unfold IntKind.wrap;simp[IntKind.signed,IntKind.bits];omega
def cM(l:List au)(sh:List ByteArray)(ca:List (List Int)):List D:=[bi l,bZ sh,bT ca]
@[simp] theorem al6 (l : List au) (sh : List ByteArray) (ca : List (List Int)) : (cM l sh ca).length = 3 := rfl
theorem E0(l:List au)(sh:List ByteArray)(ca:List (List Int)):∀ a∈cM l sh ca,Tr a:=.cons (iB l) (.cons (jb sh) (.cons (qL ca) .nil))
section
variable{κ:Type}[DecidableEq κ]
def jI(fs:List κ)(k:κ):Nat:=fs.idxOf k
def fA(fs:List κ)(k:κ):Bool:=decide (k∈fs)
theorem IQ(a s:κ)(fs:List κ):fA (a::fs) s=(decide (a=s)||fA fs s):=by
 unfold fA;by_cases h:a=s
 .subst h;simp
 .have:s∈a::fs↔s∈fs:=by
   constructor
   .intro hm;rcases List.mem_cons.1 hm with e|e
    .exact absurd e.symm h
    .exact e
   .exact List.mem_cons_of_mem _
  rw[decide_eq_false h,Bool.false_or];exact decide_eq_decide.2 this
theorem IS(a s:κ)(fs:List κ):jI (a::fs) s=if a=s then 0 else jI fs s+1:=by
 unfold jI;rw[List.idxOf_cons];by_cases h:a=s
 .subst h;simp
 .rw[if_neg h,beq_eq_false_iff_ne.2 h];rfl
theorem Qn{ks:List κ}{k:Nat}{s:κ}(h:ks[k]? =some s):
 bm (ks.take (k+1))=(if fA (bm (ks.take k)) s then bm (ks.take k) else bm (ks.take k)++[s])/\(bp ks).take (k+1)=(bp ks).take k++[if fA (bm (ks.take k)) s then jI (bm (ks.take k)) s else(bm (ks.take k)).length]:=by
 have h1:ks.take (k+1)=ks.take k++[s]:=by rw[List.take_add_one,h];rfl
 have h2:bm (ks.take (k+1))=(if s∈bm (ks.take k) then bm (ks.take k) else bm (ks.take k)++[s]):=by rw[h1,Y8]
 unfold fA jI;simp only[decide_eq_true_eq];refine⟨h2,?_⟩;rw[List.take_add_one,E2 h];congr 1;show [(bm ks).idxOf s]=_
 have hp:bm (ks.take (k+1))<+:bm ks:=by
  have:=Od (ks.take (k+1)) (ks.drop (k+1))
  rwa[List.take_append_drop] at this
 rw[OL hp (by rw[nd,h1];simp),h2];split
 .rfl
 .rename_i hn;rw[List.idxOf_append,if_neg hn];simp
end
def eR(fs:List ByteArray):List (Value×D):=fs.zipIdx.map fun x=>(.string x.1,I (x.2:Nat))
theorem Pn(s:ByteArray):∀ (fs:List ByteArray) (j:Nat),cQ (.string s) ((fs.zipIdx j).map fun x=>(Value.string x.1,I (x.2:Nat)))=if fA fs s then some (jI fs s,I ((jI fs s+j:Nat):Int)) else none
 |[],j=>rfl
 |a::fs,j=>by
  have ih:=Pn s fs (j+1);simp only[List.zipIdx_cons,List.map_cons,cQ];rw[IQ,IS];by_cases h:a=s
  .subst h;have hv:kJ (Value.string a) (.string a)=true:=by show(a.data.toList==a.data.toList)=true;simp
   simp[hv]
  .have hv:kJ (Value.string a) (.string s)=false:=beq_eq_false_iff_ne.2 fun e=>h (xE e);simp only[hv,h,decide_false,Bool.false_or,Bool.false_eq_true,if_false];rw[ih];cases fA fs s with
   |false=>rfl
   |true=>
    simp only[if_true,Option.map_some];rw[show jI fs s+(j+1)=jI fs s+1+j by omega]
theorem Jm(s:ByteArray)(fs:List ByteArray):cQ (.string s) (eR fs)=if fA fs s then some (jI fs s,I (jI fs s:Nat)) else none:=Pn s fs 0
theorem Y9(fs:List ByteArray)(s:ByteArray):eR (fs++[s])=eR fs++[(.string s,I (fs.length:Nat))]:=by
 unfold eR;rw[List.zipIdx_append,List.map_append];simp
theorem Rr{s:ByteArray}{fs:List ByteArray}(h:fA fs s=false):fY (.string s) (I (fs.length:Nat)) (eR fs)=eR (fs++[s]):=by
 unfold fY;rw[Jm,h,Y9];rfl
theorem Qo(fs:List ByteArray):(eR fs).length=fs.length:=by simp[eR]
end Go.Argus
namespace Go.Proofs.Tryz.K
theorem aid{s:ByteArray}:aD prog 112 [S s] (S kM):=by
 refine bj ae0 (.cons (.s _) .nil) (Tr.s _) ?_;rw[ae1];refine ws ?_;refine SS ?_;refine er ?_;refine SS ?_;exact af (aJ rfl rfl)
theorem iV{l:List au}{sh:List ByteArray}{ca:List (List Int)}:aD prog 48 [.agg (cM l sh ca)] (I l.length):=by
 refine bj aie (.cons (.agg (E0 l sh ca)) .nil) (Tr.s _) ?_;rw[aif];refine az ?_;refine ag ?_;refine af (bJ (dE [(0,cM l sh ca,82)] eH (l:=[(1,.pt (cM l sh ca))]) eH) (aj ?_));refine aV ?_;exact af (aJ rfl rfl)
theorem MZ{l:List Int}(h:∀ n∈l,0<=n/\n<90)(hl:l.length<=100000)(U:l≠[]):aD prog 83 [aQ l] (S (hC l)):=by
 refine bj aih (.cons (c6 l) .nil) (Tr.s _) ?_;rw[aii];refine ws ?_;refine SS ?_;refine er ?_;refine G5 (aac rfl V.h V.h) ak ?_;refine af (aC (az ?_));refine ay ?_
 refine af (cz (fun s=>∃ u q m nx,aL prog s ⟨aA [(3,.rp 0 0)],m,nx⟩/\m 0=some (.bs u (.rs q 0 (hC l).size) 183)/\m q=some (.cells (fj (hC l)) 5)) (cy (α:=Nat×Bool×D×Option Nat×Mem×Nat)
  (fun s=>⟨aA [(3,.rp 0 0),(6,aQ l),(7,I l.length),(8,I s.1)],s.2.2.2.2.1,s.2.2.2.2.2⟩)
  (fun s=>s.1<=l.length/\s.2.2.2.2.1 0=some (.bs s.2.1 s.2.2.1 183)/\s5 s.2.2.2.2.1 s.2.2.1 (hC (l.take s.1)) s.2.2.2.1/\(∀ i,s.2.2.2.1=some i->i≠0/\i<s.2.2.2.2.2)/\0<s.2.2.2.2.2/\(0<s.1->s.2.2.2.1≠none)) (fun s=>l.length - s.1) (0,false,.z,none,_,_)
  (aw eH) ⟨Nat.zero_le _,rfl,⟨rfl,rfl⟩,(fun i hi=>by cases hi),oM,fun h=>absurd h (Nat.lt_irrefl 0)⟩ ?_) ?_)
 .rintro⟨k,u,x,o,m,nx⟩ ⟨hk,J,hb,ho,X,M⟩;dsimp only at hk J hb ho X M ⊢;refine SS ?_;refine af ⟨_,rfl,fun ah=>?_,fun bq=>?_⟩
  .have gM:k<l.length:=by simpa using ah
   clear ah;obtain⟨y,hy⟩:∃ y,l[k]? =some y:=⟨_,a8 gM⟩
   have C:=h y (bz hy);have hw:=Y7 C;have hr:0<=IntKind.i32.wrap (y+33)/\IntKind.i32.wrap (y+33)<128:=by rw[hw];omega
   have fu:hC (l.take (k+1))=hC (l.take k)++mkStr [IntKind.i32.wrap (y+33)]:=by rw[List.take_add_one,hy,hw, <- Y6];rfl
   have bC:(hC (l.take k)).size<=100000:=by rw[IP,List.length_take];omega
   generalize hC (l.take k)=a at*
   refine ws ?_;refine ay ?_;refine af (fF ?_);refine ay ?_;refine rh (ac9 rfl V.h V.h (by first|assumption|omega)) ak ?_;refine gm (Hb (s:=mkStr [IntKind.i32.wrap (y+33)]) J kr hb ho X (by rw[show(mkStr [IntKind.i32.wrap (y+33)]).size=1 from rfl];omega)) rfl aP fun d m' ao hp=>?_;obtain⟨rfl,rfl,rfl⟩:=hp;refine af ?_;dsimp only[St.put];refine ag ?_;refine af (bh (k+1,true,.rs nx 0 (a++mkStr [IntKind.i32.wrap (y+33)]).size,some nx,y9 m nx 0 183 (a++mkStr [IntKind.i32.wrap (y+33)]) o,nx+1) (aw eH) ?_ oM);dsimp only;refine⟨oG,al _ _ _,?_,fun i hi=>by cases hi;omega,oG,fun _=>by simp⟩;rw[fu];exact⟨rfl,(aB _ _ oG).trans (al _ _ _)⟩
  .have gM:¬ k<l.length:=by simpa using bq
   have:k=l.length:=by omega
   subst this;rw[List.take_length] at hb;cases o with
   |none=>exact absurd rfl (M (by cases l with|nil=>exact absurd rfl U|cons a l=>simp))
   |some q=>
    obtain⟨rfl,hq⟩:=hb;exact⟨u,q,m,nx,aw eH,J,hq⟩
 .rintro s ⟨u,q,m,nx,hg,h0,hq⟩;refine⟨_,hg,aj ?_⟩;refine gm (T3 h0 hq (by rw[IP];cases l with|nil=>exact absurd rfl U|cons a l=>simp) (by rw[IP];omega)) rfl aP fun d m' ao hp=>?_;obtain⟨rfl,rfl,rfl⟩:=hp;dsimp only[St.put];refine SS ?_;exact af (aJ rfl rfl)
theorem u9:prog.underlying 9=some .string:=kr
theorem vO(s:ByteArray):cI prog 9 (.string s)=true:=by simp[cI,u9]
theorem GQ(fs:List ByteArray):(eR fs).all (fun e=>cI prog 9 e.1)=true:=by
 refine bV.2 fun e he=>?_;obtain⟨x,_,rfl⟩:=List.mem_map.1 he;exact vO _
theorem Td:lM prog (la prog 144)=I 0:=kr
theorem acg(s:ByteArray)(fs:List ByteArray):fz prog 144 true (cQ (.string s) (eR fs))=.aM [I (if fA fs s then(jI fs s:Nat) else 0:Int),B (fA fs s)]:=by
 rw[Jm];cases fA fs s with
 |true=>rfl
 |false=>
  show(D.aM [lM prog (la prog 144),_])=_;rw[Td];rfl
theorem D4{ks:List ByteArray}(hl:ks.length<=100000):aD prog 82 [bZ ks] (.aM [aQ (ap (bp ks)),I (bm ks).length]):=by
 refine bj aij (.cons (jb ks) .nil) (.aM (.cons (c6 _) (.cons (.s _) .nil))) ?_;rw[aik];refine ws ?_;refine ag ?_;refine er ?_;refine ag ?_;refine af (az ?_);refine SS ?_;refine af ⟨_,.sd _ _ _ 5 3 rfl,aC (az ?_)⟩;refine ay ?_
 refine af (cz (fun s=>∃ r nx,r≠0/\aL prog s ⟨aA [(4,.mp 0),(5,.rs r 0 ks.length)],bu [(0,.map (eR (bm ks))),(r,.cells ((ap (bp ks)).map I) 3)],nx⟩) (cy (α:=Nat×Nat×Nat)
  (fun s=>⟨aA [(4,.mp 0),(5,.rs s.2.1 0 s.1),(11,bZ ks),(12,I ks.length),(13,I s.1)],bu [(0,.map (eR (bm (ks.take s.1)))),(s.2.1,.cells ((ap ((bp ks).take s.1)).map I) 3)],s.2.2⟩)
  (fun s=>s.1<=ks.length/\0<s.2.1/\s.2.1<s.2.2) (fun s=>ks.length - s.1) (0,1,2)
  (cq eH eH) ⟨Nat.zero_le _,oC,oC⟩ ?_) ?_)
 .rintro⟨k,r,nx⟩ ⟨hk,X,hr⟩;dsimp only at hk X hr ⊢;refine SS ?_;refine af ⟨_,rfl,fun h=>?_,fun h=>?_⟩
  .have ah:k<ks.length:=by simpa using h
   clear h;obtain⟨y,hy⟩:∃ y,ks[k]? =some y:=⟨_,a8 ah⟩
   obtain⟨C,J⟩:=Qn hy;have DK:(bm (ks.take k)).length<=100000:=by have:=vo (ks.take k);simp at this;omega
   have U:((bp ks).take k).length=k:=by simp;omega
   generalize bm (ks.take k)=fs at*
   generalize (bp ks).take k=out at*
   have aq:bu [(0,Row.map (eR fs)),(r,.cells ((ap out).map I) 3)] 0=some (.map (eR fs)):=rfl;have gT:bu [(0,Row.map (eR fs)),(r,.cells ((ap out).map I) 3)] r=some (.cells ((ap out).map I) 3):=by simp[bu];omega
   have mS:((ap out).map I).length=k:=by simp[U]
   refine ws ?_;refine ay ?_;refine er ?_;refine ag ?_;refine ax (EW rfl aq rfl C0 (acg y fs)) aP ⟨C',vO y,GQ fs⟩ ?_;refine bA ?_;cases hm:fA fs y with
   |true=>
    rw[hm] at C J;simp only[if_true] at C J ⊢;refine af (aC (aj ?_));refine ag ?_;refine af (ct rfl (fun h=>by cases h) fun _=>bX (fF ?_));refine bA ?_;refine af ?_;refine ag ?_;refine af (bh (k+1,nx+1,nx+1+1) ?_ ⟨oM,oM,oM⟩ oM);dsimp only;rw[C,J];refine cq eH ⟨?_,?_,trivial⟩
    .exact ai oG (ai oG (ai oG aq))
    .exact(al _ _ _).trans (by simp;rfl)
   |false=>
    rw[hm] at C J;simp only[Bool.false_eq_true,if_false] at C J ⊢;refine af (aC (aj ?_));refine ag ?_;refine af (ct rfl (fun _=>aC (aj ?_)) fun h=>by cases h);refine SS ?_;refine rh (Kc rfl rfl V.h) ak ?_;refine SS ?_;rw[Qo];refine er ?_;refine ay ?_;refine bL (xB (key:=.string y) (v:=I (fs.length:Nat)) rfl aq rfl rfl C0) aP ⟨C',vO y,GQ fs⟩ ?_;rw[Rr hm];have M:up (bu [(0,Row.map (eR fs)),(r,.cells ((ap out).map I) 3)]) 0 (some (.map (eR (fs++[y])))) 0=some (.map (eR (fs++[y]))):=al _ _ _;have gT:=ai (f:=bu [(0,Row.map (eR fs)),(r,.cells ((ap out).map I) 3)]) (k:=0) (v:=some (.map (eR (fs++[y])))) oG gT;refine af (fF ?_);refine bA ?_;refine af ?_;refine ag ?_;refine af (bh (k+1,nx+1,nx+1+1) ?_ ⟨oM,oM,oM⟩ oM);dsimp only;rw[C,J];refine cq eH ⟨?_,?_,trivial⟩
    .exact ai oG (ai oG (ai oG M))
    .exact(al _ _ _).trans (by simp;rfl)
  .have bq:¬ k<ks.length:=by simpa using h
   have:k=ks.length:=by omega
   subst this;rw[List.take_length,dv oS];exact⟨r,nx,oG,aw eH⟩
 .rintro s ⟨r,nx,hr,hg⟩;refine⟨_,hg,az ?_⟩;have aq:bu [(0,Row.map (eR (bm ks))),(r,.cells ((ap (bp ks)).map I) 3)] 0=some (.map (eR (bm ks))):=rfl;refine ag ?_;refine rh (Kc rfl rfl V.h) ak ?_;refine ag ?_;rw[Qo];refine af (bJ (fv (i:=r) (cs:=(ap (bp ks)).map I) (e:=3) (by simp[bu,hr]) (l:=[(2,aQ (ap (bp ks))),(3,I (bm ks).length)]) ⟨?_,rfl,trivial⟩) (fH rfl rfl rfl));exact(jR (by rw[c3];simp)).trans oS
end Go.Proofs.Tryz.K
namespace Go.Abs
def de(i:Nat)(cs:List D)(sz:Nat)(m:Mem):Mem:=fun j=>if j=i then none else(m j).map (Row.sub (cJ i cs sz))
theorem lv{P:Program}{env:Env}{m:Mem}{nx i:Nat}{cs:List D}{e:TypeId}{l:List (Nat×D)}(hm:m i=some (.cells cs e))(hl:kV l fun t=>sub (cJ i cs (P.cellsOf e)) (env t)):aL P ⟨env,m,nx⟩ ⟨aA l,de i cs (P.cellsOf e) m,nx⟩:=
 (aL.freeze env m nx i cs e hm).trans (aw hl)
theorem gS{i j sz:Nat}{cs:List D}{m:Mem}{r:Row}(h:m j=some r)(hj:j≠i)(hr:lK (fun k=>k=i) r):de i cs sz m j=some r:=by
 unfold de;rw[if_neg hj,h];exact congrArg some (hr i cs sz rfl)
end Go.Abs
namespace Go.Argus
theorem BT{X:Nat->Prop}{α:Type}{f:α->List D}(h:∀ x,∀ d∈f x,fJ X d)(l:List α){e:TypeId}:lK X (.cells (l.flatMap f) e):=lK.cells fun d hd=>by
 obtain⟨x,_,hx⟩:=List.mem_flatMap.1 hd;exact h x d hx
theorem amd{X:Nat->Prop}(x:cV):∀ d∈cA x,fJ X d:=fun d hd=>by
 simp only[cA,List.mem_cons,List.not_mem_nil,or_false] at hd;rcases hd with rfl|rfl|rfl|rfl|rfl|rfl<;>first|exact .s _|exact .sl _ _
theorem Y'{X:Nat->Prop}(x:End):∀ d∈bE x,fJ X d:=fun d hd=>by
 simp only[bE,List.mem_cons,List.not_mem_nil,or_false] at hd;rcases hd with rfl|rfl|rfl|rfl|rfl|rfl|rfl|rfl|rfl|rfl|rfl|rfl|rfl|rfl|rfl<;>first|exact .s _|exact .sl _ _
theorem Xj{X:Nat->Prop}(b:bI):∀ d∈bS b,fJ X d:=fun d hd=>by
 rcases List.mem_cons.1 hd with rfl|hd
 .exact .sl _ _
 .exact Y' _ d hd
def headD(f:au)(x:D):List D:=[S f.name,B f.iter,I f.args,U8 f.result,iA f.aW,iA f.cr,bZ f.signals,x]
theorem XX{X:Nat->Prop}{f:au}{x:D}(h:fJ X x):∀ d∈headD f x,fJ X d:=fun d hd=>by
 simp only[headD,List.mem_cons,List.not_mem_nil,or_false] at hd;rcases hd with rfl|rfl|rfl|rfl|rfl|rfl|rfl|rfl<;>first|exact .s _|exact .sl _ _|exact h
theorem Oe{X:Nat->Prop}:∀ d∈jG,fJ X d:=fun d hd=>by
 simp only[jG,List.mem_cons,List.not_mem_nil,or_false] at hd;rcases hd with rfl|rfl|rfl|rfl|rfl|rfl|rfl|rfl<;>first|exact .s _|exact .z
def Grow(m:Mem)(lo hi:Nat)(x:D)(n:Nat)(cs:List D)(e:TypeId):Prop:=(n=0/\cs=[]/\x=.z)\/∃ r,lo<=r/\r<hi/\x=.rs r 0 n/\m r=some (.cells cs e)
theorem Grow.mono{m m':Mem}{lo hi C:Nat}{x:D}{n:Nat}{cs:List D}{e:TypeId}(h:Grow m lo hi x n cs e)(hm:∀ j,lo<=j->j<hi->m' j=m j)(hh:hi<=C):Grow m' lo C x n cs e:=by
 rcases h with h|⟨r,h1,h2,J,M⟩
 .exact .inl h
 .exact .inr ⟨r,h1,oG,J,by rw[hm r h1 h2,M]⟩
theorem Grow.nV{m:Mem}{lo hi C i sz:Nat}{x:D}{n:Nat}{cs cs':List D}{e:TypeId}(h:Grow m lo hi x n cs e)(U:hi<=i)(hh:hi<=C)(hr:lK (fun k=>k=i) (.cells cs e)):Grow (de i cs' sz m) lo C x n cs e:=by
 rcases h with h|⟨r,h1,h2,J,M⟩
 .exact .inl h
 .exact .inr ⟨r,h1,oG,J,gS M oG hr⟩
theorem Grow.Te{m:Mem}{lo hi i:Nat}{x:D}{n:Nat}{cs:List D}{e:TypeId}(h:Grow m lo hi x n cs e)(C:hi<=i):fJ (fun k=>k=i) x:=by
 rcases h with⟨_,_,rfl⟩|⟨r,h1,h2,rfl,J⟩
 .exact .z
 .exact .rs oG
structure TB(m:Mem)(nx:Nat)(f:au)(x:D)(bs:List bI):Prop where
 r1:m 1=some (.cells jG 48)
 r2:m 2=some (.cells (headD f x) 48)
 lt:2<nx
 gr:Grow m 3 nx x bs.length (bs.flatMap bS) 59
theorem TB.mono{m m':Mem}{nx C:Nat}{f:au}{x:D}{bs:List bI}(h:TB m nx f x bs)(hm:∀ j,j<nx->m' j=m j)(hn:nx<=C):TB m' C f x bs:=
 ⟨by rw[hm 1 (by have:=h.lt;omega)];exact h.r1,by rw[hm 2 h.lt];exact h.r2,by have:=h.lt;omega,h.gr.mono (fun j _ hj=>hm j hj) hn⟩
theorem TB.nV{m:Mem}{nx C i sz:Nat}{f:au}{x:D}{bs:List bI}{cs:List D}(h:TB m nx f x bs)(hi:nx<=i)(hn:nx<=C):TB (de i cs sz m) C f x bs:=
 ⟨gS h.r1 (by have:=h.lt;omega) (.cells Oe),gS h.r2 (by have:=h.lt;omega) (.cells (XX (h.gr.Te hi))),by have:=h.lt;omega,h.gr.nV hi hn (BT Xj _)⟩
end Go.Argus
namespace Go.Proofs.Tryz.K
theorem zg{f:au}{name:ByteArray}{g:FuncId}{fs cs:List D}{to:ByteArray->ByteArray}(ht:Tr (.fn (.func g) fs cs))(ru:∀ X:Nat->Prop,fJ X (.fn (.func g) fs cs))(hg:∀ b∈f.blocks,jh b=true->aD prog g (fs++[S b.fin.name]++cs) (S (to b.fin.name)))
 (h1:f.aW.length<=100000) (h2:f.cr.length<=100000) (h3:f.signals.length<=100000) (h4:f.blocks.length<=100000) (h5:∀ b∈f.blocks,b.ins.length<=100000/\(∀ x∈b.ins,x.args.length<=100000)/\b.fin.args.length<=100000/\b.fin.aU.length<=100000/\b.fin.ins.args.length<=100000):
 aD prog 57 [.agg (aY f),S name,.fn (.func g) fs cs] (.agg (aY (ik f name to))):=by
 have kr:=Vf (l:=f.aW) oG;have ks:=Vf (l:=f.cr) oG;have MW:=MW (l:=f.signals) oG;refine bj ail (.cons (.agg (nb f)) (.cons (.s _) (.cons ht .nil))) (.agg (nb _)) ?_;rw[aim];refine az ?_;refine ag ?_;refine af ⟨_,qG (i:=0) (cs:=aY f) (e:=48) rfl (l:=[(1,S name),(2,.fn (.func g) fs cs),(3,.pt (aY f)),(6,.rp 1 0)]) ⟨rfl,ru _ _ _ _ rfl,lQ,rfl,trivial⟩ (ml:=[(1,.cells jG 48)]) eH,aj ?_⟩;refine ay ?_;refine er ?_;refine ay ?_;refine af (eg aaM ?_);refine ag ?_;refine nu kr rfl aP ?_;refine ag ?_;refine nu ks rfl aP ?_;refine ag ?_;refine cl MW ?_;refine cm ?_;refine cu cE (az ?_);refine ag ?_;have DU:∀ i (iW:List D) sz,sub (cJ i iW sz) (.fn (.func g) fs cs)=.fn (.func g) fs cs:=fun i iW sz=>ru (fun k=>k=i) i iW sz rfl;generalize hF:ik f name to=F at*
 have hn:F.name=name:=by rw[<- hF];rfl
 refine af ⟨_,cq (l:=[(2,.fn (.func g) fs cs),(3,.pt (aY f)),(6,.rp 1 0),(7,.rp 2 0)]) eH (ml:=[(1,.cells jG 48),(2,.cells (headD F .z) 48)]) ⟨rfl,by subst hF;rfl,trivial⟩,aC (az ?_)⟩;refine aV ?_;have Bo:∀ k,(F.blocks.take k)=(f.blocks.take k).map (dR to):=fun k=>by rw[<- hF];exact List.map_take.symm
 have DK:F.blocks.length=f.blocks.length:=by rw[<- hF];simp[ik]
 refine af (cz (fun s=>∃ x m nx,TB m nx F x F.blocks/\aL prog s ⟨aA [(6,.rp 1 0),(7,.rp 2 0)],m,nx⟩) (cy (α:=Nat×D×Mem×Nat)
  (fun s=>⟨aA [(2,.fn (.func g) fs cs),(6,.rp 1 0),(7,.rp 2 0),(30,cL f.blocks),(31,I f.blocks.length),(32,I s.1)],s.2.2.1,s.2.2.2⟩)
  (fun s=>s.1<=f.blocks.length/\TB s.2.2.1 s.2.2.2 F s.2.1 (F.blocks.take s.1)) (fun s=>f.blocks.length - s.1) (0,.z,_,_)
  (aw eH) ⟨Nat.zero_le _,rfl,rfl,oM,.inl ⟨rfl,rfl,rfl⟩⟩ ?_) ?_)
 .rintro⟨k,x7,m,nx⟩ ⟨hk,M⟩;dsimp only at hk M ⊢;refine SS ?_;refine af ⟨_,rfl,fun h=>?_,fun h=>?_⟩
  .have ah:k<f.blocks.length:=by simpa using h
   clear h;obtain⟨b,hb⟩:∃ b,f.blocks[k]? =some b:=⟨_,a8 ah⟩
   have Bu:b∈f.blocks:=bz hb;obtain⟨MO,MP,gu,ql,hb5⟩:=h5 b Bu;have hgb:=hg b Bu;have fu:F.blocks.take (k+1)=F.blocks.take k++[dR to b]:=by rw[Bo,Bo,List.take_add_one,hb,List.map_append];rfl
   refine az ?_;refine aV ?_;refine af ⟨_,lv (i:=nx) (cs:=bS b) (e:=59) (al _ _ _) (l:=[(2,.fn (.func g) fs cs),(6,.rp 1 0),(7,.rp 2 0),(30,cL f.blocks),(31,I f.blocks.length),(32,I k),(9,.pt (bS b))]) ⟨DU _ _ _,gk (by have:=M.lt;omega),gk (by have:=M.lt;omega),rfl,rfl,rfl,lC,trivial⟩,aj ?_⟩;have HJ:TB (de nx (bS b) (prog.cellsOf 59) _) (nx+1) F x7 (F.blocks.take k):=(M.mono (m':=up (up m nx (some (.cells (a7 prog 59) 59))) nx (some (.cells (bS b) 59))) (fun j hj=>(aB _ _ oG).trans (aB _ _ oG)) (bc _)).nV (bc _) oG;have cC:=M.lt;have ain:a7 prog 59=_:=z59;rw[ain] at HJ;generalize de nx (bS b) (prog.cellsOf 59) _=m1 at*
   clear M;refine ay ?_;refine er ?_;have aq:∀ {r},up (up m1 (nx+1) r) (nx+1) (some (.cells (bS b) 59)) (nx+1)=some (.cells (lD b.ins::bE b.fin) 59):=al _ _ _;refine SS ?_;refine bL (eF (d:=.z) (cs':=_) rfl rfl aq rfl rfl) ak (bY V.h V.h (by first|(simp;done)|exact⟨rfl,bF rfl⟩|(simp;omega)) rfl) ?_;refine af (aC (az ?_));refine aV ?_
   refine af (cz (fun s=>∃ m' C,TB m' (nx+1) F x7 (F.blocks.take k)/\m' (nx+1)=some (.cells (bS b) 59)/\nx+2<=C/\aL prog s ⟨aA [(2,.fn (.func g) fs cs),(6,.rp 1 0),(7,.rp 2 0),(9,.pt (bS b)),(10,.rp (nx+1) 0),(30,cL f.blocks),(31,I f.blocks.length),(32,I k)],m',C⟩) (cy (α:=Nat×D×Mem×Nat)
    (fun s=>⟨aA [(2,.fn (.func g) fs cs),(6,.rp 1 0),(7,.rp 2 0),(9,.pt (bS b)),(10,.rp (nx+1) 0),(30,cL f.blocks),(31,I f.blocks.length),(32,I k),(39,lD b.ins),(40,I b.ins.length),(41,I s.1)],s.2.2.1,s.2.2.2⟩)
    (fun s=>s.1<=b.ins.length/\TB s.2.2.1 (nx+1) F x7 (F.blocks.take k)/\s.2.2.1 (nx+1)=some (.cells (s.2.1::bE b.fin) 59)/\Grow s.2.2.1 (nx+2) s.2.2.2 s.2.1 s.1 ((b.ins.take s.1).flatMap cA) 54/\nx+2<=s.2.2.2) (fun s=>b.ins.length - s.1) (0,.z,_,_)
    (aw eH) ⟨Nat.zero_le _,HJ.mono (fun j hj=>(aB _ _ oG).trans ((aB _ _ oG).trans (aB _ _ oG))) (bc _),al _ _ _,.inl ⟨rfl,rfl,rfl⟩,oM⟩ ?_) ?_)
   .rintro⟨j,y0,m',C⟩ ⟨hj,wM,hq,hG,AU⟩;dsimp only at hj wM hq hG AU ⊢;refine SS ?_;refine af ⟨_,rfl,fun h=>?_,fun h=>?_⟩
    .have dw:j<b.ins.length:=by simpa using h
     clear h;obtain⟨y,hy⟩:∃ y,b.ins[j]? =some y:=⟨_,a8 dw⟩
     have rJ:=rJ (l:=y.args) (MP y (bz hy));have T7:b.ins.take (j+1)=b.ins.take j++[y]:=by rw[List.take_add_one,hy];rfl
     have M0:((b.ins.take j).flatMap cA).length=j*6:=by
      rw[Eu (sz:=6) (fun _=>rfl),List.length_take];congr 1;omega
     generalize b.ins.take j=l0 at*
     refine ws ?_;refine aV ?_;refine er ?_;refine SS ?_;refine ax (j9 rfl (al _ _ _) rfl V.h) ak (ka V.h V.h rfl) ?_;refine cl rJ ?_;refine SS ?_;refine bL (eF (d:=.sl _ _) (cs':=_) rfl rfl (al _ _ _) rfl rfl) ak (bY V.h V.h (by first|(simp;done)|exact⟨rfl,bF rfl⟩|(simp;omega)) rfl) ?_;refine af (fF ?_);have aq:∀ {a J c},up (up (up m' C a) C J) C c (nx+1)=some (.cells (y0::bE b.fin) 59):=ai oG (ai oG (ai oG hq));have kd:(y0::bE b.fin).drop 0=y0::bE b.fin:=rfl;refine aV ?_;rcases hG with⟨rfl,D6,rfl⟩|⟨r,uS,wN,rfl,kH⟩
     .refine eC (Ac rfl rfl V.h V.h (kN (al _ _ _) rfl)) ak ⟨V.h,(by first|omega|exact bF rfl|(simp;done)|(simp;omega)),oC,(by unfold maxLen;first|omega|(simp;omega)),(by rw[M1];first|omega|(simp;omega))⟩ ?_;have aq:∀ {a J c d e2},up (up (up (up (up m' C a) C J) C c) (C+1) d) (C+1+1) e2 (nx+1)=some (.cells (.z::bE b.fin) 59):=ai oG (ai oG (ai oG (ai oG (ai oG hq))));refine ag ?_;refine af ?_;refine ag ?_;refine af (bh (0+1,.rs (C+1+1) 0 1,_,C+1+1+1) (aw eH) ?_ oM);dsimp only;refine⟨oG,wM.mono (fun i hi=>(aB _ _ oG).trans ((aB _ _ oG).trans ((aB _ _ oG).trans ((aB _ _ oG).trans ((aB _ _ oG).trans (aB _ _ oG)))))) (bc _),al _ _ _,.inr ⟨C+1+1,oG,oG,rfl,(aB _ _ oG).trans ((al _ _ _).trans ?_)⟩,oG⟩;rw[T7,List.flatMap_append,D6];simp;rfl
     .have gT:∀ {a J c d},up (up (up (up m' C a) C J) C c) (C+1) d r=some (.cells (l0.flatMap cA) 54):=ai oG (ai oG (ai oG (ai oG kH)));refine jq (je rfl gT rfl Vh M3 (kN (al _ _ _) rfl) rfl) aP ⟨T8,rfl,bF rfl,oC,by rw[M0];omega,by unfold maxLen;omega,by rw[M1];omega,by simp;omega⟩ ?_;have aq:∀ {a J c d e1 e2},up (up (up (up (up (up m' C a) C J) C c) (C+1) d) r e1) (C+1+1) e2 (nx+1)=some (.cells (.rs r 0 j::bE b.fin) 59):=ai oG (ai oG (ai oG (ai oG (ai oG (ai oG hq)))));refine ag ?_;refine af ?_;refine ag ?_;refine af (bh (j+1,.rs (C+1+1) 0 (j+1),_,C+1+1+1) (aw eH) ?_ oM);dsimp only;refine⟨oG,wM.mono (fun i hi=>(aB _ _ oG).trans ((aB _ _ oG).trans ((aB _ _ oG).trans ((aB _ _ oG).trans ((aB _ _ oG).trans ((aB _ _ oG).trans (aB _ _ oG))))))) (bc _),al _ _ _,.inr ⟨C+1+1,oG,oG,rfl,(aB _ _ oG).trans ((al _ _ _).trans ?_)⟩,oG⟩;rw[T7,List.flatMap_append];simp;rfl
    .have bq:¬ j<b.ins.length:=by simpa using h
     have:j=b.ins.length:=by omega
     subst this;rw[List.take_length] at hG;rcases hG with⟨h0,D6,rfl⟩|⟨r,uS,wN,rfl,kH⟩
     .have gZ:b.ins=[]:=List.length_eq_zero_iff.1 h0;refine⟨up m' (nx+1) (some (.cells (bS b) 59)),C,wM.mono (fun j hj=>aB _ _ oG) (bc _),al _ _ _,AU,?_⟩;refine(aw (l:=[(2,.fn (.func g) fs cs),(6,.rp 1 0),(7,.rp 2 0),(9,.pt (bS b)),(10,.rp (nx+1) 0),(30,cL f.blocks),(31,I f.blocks.length),(32,I k)]) eH).trans (aL.nD _ _ _ _ _ (fun t=>tG _) fun i=>?_);by_cases hi:i=nx+1
      .subst hi;refine .inr ⟨_,bS b,59,hq,al _ _ _,rfl,fun k d d' hd eZ=>?_⟩;cases k with
       |zero=>
        simp only[List.getElem?_cons_zero,aH,bS] at hd eZ;subst hd eZ;rw[gZ];exact AV
       |succ k=>
        simp only[List.getElem?_cons_succ,bS] at hd eZ;rw[hd] at eZ;cases eZ;exact tG _
      .exact .inl (aB _ _ hi)
     .refine⟨de r _ (prog.cellsOf 54) m',C,wM.nV oG (bc _),?_,AU,lv kH ⟨DU _ _ _,gk oG,gk oG,rfl,gk oG,rfl,rfl,rfl,trivial⟩⟩;unfold de;rw[if_neg oG,hq];show some (Row.cells (sub (cJ r (b.ins.flatMap cA) (prog.cellsOf 54)) (.rs r 0 b.ins.length)::bE b.fin) 59)=_;rw[AB,M3,List.drop_zero,B3 (f:=cA) (sz:=6) (fun _=>rfl),List.take_length];rfl
   .rintro s ⟨m',C,wM,hq,AU,dG⟩;refine⟨_,dG,?_⟩;clear dG;have kA:=rJ (l:=b.fin.args) gu;have MX:=MX (l:=b.fin.aU) oG;have kI:=rJ (l:=b.fin.ins.args) hb5;refine eg Za ?_;have aq:=hq;refine ay ?_;refine nu kA rfl aP ?_;refine ay ?_;refine cl MX ?_;refine aV ?_;refine nu kI rfl aP ?_;refine ay ?_;have aq:∀ {a},up m' (nx+1) a (nx+1)=a:=al _ _ _;refine ay ?_;have aq:∀ {a J},up (up m' (nx+1) a) (nx+1) J (nx+1)=J:=al _ _ _;refine aV ?_;refine cu cE ?_;refine iC (fun s=>∃ U,TB U (nx+1) F x7 (F.blocks.take k)/\U (nx+1)=some (.cells (bS (dR to b)) 59)/\aL prog s ⟨aA [(2,.fn (.func g) fs cs),(6,.rp 1 0),(7,.rp 2 0),(9,.pt (bS b)),(10,.rp (nx+1) 0),(30,cL f.blocks),(31,I f.blocks.length),(32,I k)],U,C⟩) ?_ ?_
    .refine ws ?_;refine dM ?_;refine ag ?_;refine af (aR rfl (fun hp=>su ?_) fun hp=>cO ?_)
     .have hc:jh b=true:=by
       show(decide (b.fin.kind=6)||decide (b.fin.kind=7))=true;revert hp;cases h6:(b.fin.kind==6)<;>simp_all
      have kc:=hgb hc;have aq:∀ {a J c},up (up (up m' (nx+1) a) (nx+1) J) (nx+1) c (nx+1)=c:=al _ _ _;refine aV ?_;refine cl kc ?_;refine ag ?_;refine bL (eF (d:=.s (.string _)) (cs':=_) rfl rfl aq rfl rfl) ak (bY V.h V.h (by first|(simp;done)|exact⟨rfl,bF rfl⟩|(simp;omega)) rfl) ?_;refine af ⟨_,wM.mono (fun i hi=>(aB _ _ oG).trans ((aB _ _ oG).trans ((aB _ _ oG).trans (aB _ _ oG)))) (bc _),?_,aw eH⟩;rw[dR,if_pos hc];exact al _ _ _
     .have hc:¬ jh b=true:=by
       show ¬ (decide (b.fin.kind=6)||decide (b.fin.kind=7))=true;revert hp;cases h6:(b.fin.kind==6)<;>simp_all
      refine⟨_,wM.mono (fun i hi=>(aB _ _ oG).trans ((aB _ _ oG).trans (aB _ _ oG))) (bc _),?_,aw eH⟩;rw[dR,if_neg hc];exact al _ _ _
    .rintro s ⟨U,Bv,yL,dG⟩;refine⟨_,dG,fF ?_⟩;clear dG;have lk:(F.blocks.take k).length=k:=by rw[List.length_take];omega
     have lc:((F.blocks.take k).flatMap bS).length=k*16:=by rw[Eu (sz:=16) (fun _=>rfl),lk]
     have aq:=Bv.r2;have kd:(headD F x7).drop (0+7)=x7::[]:=rfl;refine ag ?_;have aq:=yL;refine ax (ff (vs:=bS _) rfl aq V.h V.h rfl) ak (fh V.h V.h (by first|(simp;done)|omega|exact bF rfl)) ?_;refine SS ?_;rcases Bv.gr with⟨h0,D6,rfl⟩|⟨r,uS,wN,rfl,kH⟩
     .refine eC (Ac rfl rfl V.h V.h (kN (al _ _ _) rfl)) ak ⟨V.h,(by first|omega|exact bF rfl|(simp;done)|(simp;omega)),oC,(by unfold maxLen;first|omega|(simp;omega)),(by rw[M4];first|omega|(simp;omega))⟩ ?_;have aq:∀ {a J},up (up U C a) (C+1) J 2=some (.cells (headD F .z) 48):=ai oG (ai oG Bv.r2);refine ag ?_;refine af ?_;refine ag ?_;refine af (bh (k+1,.rs (C+1) 0 1,_,C+1+1) (aw eH) ?_ oM);dsimp only;have sY:k=0:=by omega
      subst sY;refine⟨oG,(aB _ _ oG).trans ((aB _ _ oG).trans Bv.r1),rfl,oG,.inr ⟨C+1,oG,oG,?_,(aB _ _ oG).trans ((al _ _ _).trans ?_)⟩⟩
      .rw[fu];rfl
      .rw[fu,List.flatMap_append,D6];simp;rfl
     .have gT:∀ {a},up U C a r=some (.cells ((F.blocks.take k).flatMap bS) 59):=ai oG kH;refine jq (je rfl gT rfl M5 HO (kN (al _ _ _) rfl) rfl) aP ⟨LM,rfl,bF rfl,oC,by rw[lc,lk];omega,by unfold maxLen;omega,by rw[M4];omega,by simp;omega⟩ ?_;have aq:∀ {a J c},up (up (up U C a) r J) (C+1) c 2=some (.cells (headD F (.rs r 0 (F.blocks.take k).length)) 48):=ai oG (ai oG (ai oG Bv.r2));refine ag ?_;refine af ?_;refine ag ?_;refine af (bh (k+1,.rs (C+1) 0 ((F.blocks.take k).length+1),_,C+1+1) (aw eH) ?_ oM);dsimp only;refine⟨oG,(aB _ _ oG).trans ((aB _ _ oG).trans ((aB _ _ oG).trans Bv.r1)),rfl,oG,.inr ⟨C+1,oG,oG,?_,(aB _ _ oG).trans ((al _ _ _).trans ?_)⟩⟩
      .rw[fu,List.length_append];rfl
      .rw[fu,List.flatMap_append];simp;rfl
  .have bq:¬ k<f.blocks.length:=by simpa using h
   have:k=f.blocks.length:=by omega
   subst this;rw[dv oG] at M;exact⟨x7,m,nx,M,aw eH⟩
 .rintro s ⟨x,m,nx,M,dG⟩
  have nR:∃ U gL,aL prog s ⟨aA [(6,.rp 1 0),(7,.rp 2 0)],U,gL⟩/\U 1=some (.cells jG 48)/\U 2=some (.cells (aY F) 48):=by
   rcases M.gr with⟨h0,D6,rfl⟩|⟨r,uS,wN,rfl,kH⟩
   .have gZ:F.blocks=[]:=List.length_eq_zero_iff.1 h0;refine⟨up m 2 (some (.cells (aY F) 48)),nx,dG.trans (aL.nD _ _ _ _ _ (fun t=>tG _) fun i=>?_),(aB _ _ oG).trans M.r1,al _ _ _⟩;by_cases hi:i=2
    .subst hi;refine .inr ⟨_,aY F,48,M.r2,al _ _ _,rfl,fun k d d' hd eZ=>?_⟩
     match k with
     |0|1|2|3|4|5|6=>cases (show some d=some d' from hd.symm.trans eZ);exact tG _
     |7=>
      have e1:(headD F .z)[7]? =some .z:=rfl;have e2:(aY F)[7]? =some (cL F.blocks):=rfl;rw[e1] at hd;rw[e2] at eZ;cases hd;cases eZ;rw[gZ];exact AV
     |k+8=>simp[headD] at hd
    .exact .inl (aB _ _ hi)
   .refine⟨de r _ (prog.cellsOf 59) m,nx,dG.trans (lv kH ⟨gk oG,gk oG,trivial⟩),gS M.r1 oG (.cells Oe),?_⟩;unfold de;rw[if_neg oG,M.r2];show some (Row.cells (headD F (sub (cJ r (F.blocks.flatMap bS) (prog.cellsOf 59)) (.rs r 0 F.blocks.length))) 48)=_;rw[AB,HO,List.drop_zero,B3 (f:=bS) (sz:=16) (fun _=>rfl),List.take_length];rfl
  obtain⟨U,gL,D7,q1,q2⟩:=nR;refine⟨_,D7,aj ?_⟩;clear D7 dG;have aq:=q2;refine SS ?_;have aq:=q1;refine bL (fg (cs':=aY _) rfl rfl aq rfl) ak (bY V.h V.h (by first|(simp;done)|exact⟨rfl,bF rfl⟩|(simp;omega)) (by rfl)) ?_;exact af (ss (gP (cs:=aY F) (vs:=aY F) rfl rfl za oO rfl t48 (bF rfl)) rfl)
end Go.Proofs.Tryz.K
namespace Go.Argus
theorem aci{f:au}{l:List au}(hl:l.length<=1000000)(h:∀ g∈l,fi g=0)(hf:f∈l):JR f l:=by
 have C:=checked (h f hf);have M:=Ks C
 have J:∀ b∈f.blocks,ji f b.fin=true:=fun b hb=>by
  unfold ni at C;simp only[ba] at C;obtain⟨k,hk⟩:=ep hb;have:=bV.1 C.2.2.2.1 k (List.mem_range.2 (bM.1 hk).1);unfold lF at this;rw[getD_some hk] at this;simp only[ba] at this;exact this.1
 refine⟨hl,by have:=M.j7;omega,fun b hb hk=>?_,fun b hb hk=>?_,fun b hb hk=>?_,fun g hg=>?_⟩
 .have:=J b hb;unfold ji at this;rcases hk with hk|hk<;>simp only[eJ,hk,Int.reduceEq,if_false,if_true,ba,decide_eq_true_eq] at this<;>exact⟨fun r hr=>tx this.1.2.2.1 r hr,by have:=this.1.2.1;omega⟩
 .have:=J b hb;unfold ji at this;simp only[eJ,hk,Int.reduceEq,if_false,if_true,ba,decide_eq_true_eq,Bool.or_eq_true,gQ] at this;rcases this.1.2.2.2.1 with h1|h1
  .omega
  .exact(rU h1).2
 .have:=J b hb;unfold ji at this;simp only[eJ,hk,Int.reduceEq,if_false,if_true,ba,decide_eq_true_eq] at this;exact rU this.1.2.1
 .have:=checked (h g hg);unfold ni tM at this;simp only[ba] at this;have:=kP.1 this.1.2.1;split at this<;>omega
structure pb(l:List au):Prop where
 len:l.length<=60
 rK:∀ f∈l,fi f=0
 uX:∀ i,i+1<l.length->Op.bytesLess (oY l i).toList (oY l (i+1)).toList=true
 calls:∀ f∈l,tV f l=true
theorem tW{l:List au}(h:(cW l).2=0):pb l:=by
 unfold cW at h;split at h
 .cases h
 .rename_i J;split at h
  .rename_i i hi;have:=List.find?_some hi;simp only[bne_iff_ne,ne_eq] at this;exact absurd h this
  .rename_i hn;split at h
   .cases h
   .rename_i hc;rw[List.find?_eq_none] at hn hc
    have h1:∀ i,i<l.length->kQ l i=0:=fun i hi=>by
     have:=hn i (List.mem_range.2 hi);simpa using this
    have C:∀ f∈l,fi f=0:=fun f hf=>by
     obtain⟨i,hi⟩:=ep hf;have:=h1 i (bM.1 hi).1;unfold kQ at this;rw[hi] at this;simp only at this;split at this
     .assumption
     .exact this
    refine⟨oG,C,fun i hi=>?_,fun f hf=>?_⟩
    .have:=h1 (i+1) hi;obtain⟨f,hf⟩:∃ f,l[i+1]? =some f:=⟨_,a8 hi⟩
     unfold kQ at this;rw[hf] at this;simp only[C f (bz hf),if_true] at this;have e:oY l (i+1)=f.name:=by unfold oY;rw[hf]
     rw[e];cases hs:AS (oY l i) f.name with
     |false=>unfold AS at hs;simpa using hs
     |true=>
      rw[show i+1 - 1=i by omega,hs] at this;simp at this
    .obtain⟨i,hi⟩:=ep hf;have:=hc i (List.mem_range.2 (bM.1 hi).1);unfold vm at this;rw[hi] at this;simpa using this
theorem QM:∀ a:List UInt8,Op.bytesLess a a=false
 |[]=>rfl
 |x::a=>by
  have:=QM a;unfold Op.bytesLess;simp[this]
theorem O4:∀ {a b c:List UInt8},Op.bytesLess a b=true->Op.bytesLess b c=true->Op.bytesLess a c=true
 |[],[],_,h,_=>by simp[Op.bytesLess] at h
 |_::_,[],_,h,_=>by simp[Op.bytesLess] at h
 |_,_::_,[],_,h=>by simp[Op.bytesLess] at h
 |[],_::_,_::_,_,_=>by simp[Op.bytesLess]
 |x::a,y::b,z::c,h1,h2=>by
  simp only[Op.bytesLess,Bool.or_eq_true,ba,decide_eq_true_eq,beq_iff_eq] at h1 h2 ⊢;rcases h1 with h1|⟨rfl,h1⟩
  .rcases h2 with h2|⟨rfl,h2⟩
   .exact .inl (UInt8.lt_trans h1 h2)
   .exact .inl h1
  .rcases h2 with h2|⟨rfl,h2⟩
   .exact .inl h2
   .exact .inr ⟨rfl,O4 h1 h2⟩
section
variable{κ:Type}[DecidableEq κ]
theorem QN{fs:List κ}{k:κ}:fA fs k=true↔k∈fs:=by unfold fA;rw[decide_eq_true_eq]
theorem aby{fs:List κ}{k:κ}:fA fs k=false↔k∉fs:=by unfold fA;rw[decide_eq_false_iff_not]
theorem Rt{fs:List κ}{k:κ}(h:fA fs k=true):jI fs k<fs.length:=List.idxOf_lt_length_of_mem (QN.1 h)
end
abbrev kT(l:List au):List ByteArray:=l.map (·.name)
theorem NU{l:List au}{i:Nat}{f:au}(h:l[i]? =some f):oY l i=f.name:=by unfold oY;rw[h]
theorem pb.less{l:List au}(h:pb l):∀ {i j:Nat},i<j->j<l.length->Op.bytesLess (oY l i).toList (oY l j).toList=true
 |i,0,nQ,_=>absurd nQ (Nat.not_lt_zero i)
 |i,j+1,nQ,hj=>by
  have h1:=h.uX j hj;by_cases e:i=j
  .subst e;exact h1
  .exact O4 (h.less (show i<j by omega) oG) h1
theorem pb.nodup{l:List au}(h:pb l):(kT l).Nodup:=by
 rw[List.nodup_iff_pairwise_ne,List.pairwise_iff_getElem];intro i j hi hj M e;have J:i<l.length:=by simpa using hi
 have C:j<l.length:=by simpa using hj
 have h1:=h.less M C;rw[NU (a8 J),NU (a8 C)] at h1;simp only[List.getElem_map] at e;rw[e,QM] at h1;cases h1
theorem pb.fresh{l:List au}(h:pb l){k:Nat}{f:au}(hf:l[k]? =some f):fA ((kT l).take k) f.name=false:=by
 rw[aby];intro hm;obtain⟨i,hi⟩:=ep hm;have C:i<k:=by have:=(bM.1 hi).1;simp at this;omega
 rw[List.getElem?_take,if_pos C] at hi;have hk:(kT l)[k]? =some f.name:=by simp[hf]
 have:=(List.getElem?_inj (bM.1 hi).1 h.nodup).1 (hi.trans hk.symm);omega
def pA(l:List au)(s:ByteArray):Nat:=if fA (kT l) s then jI (kT l) s else 0
def aO(l:List au):List (List Nat):=l.map fun f=>(eh f.blocks).map (pA l)
def br(l:List au):List ByteArray:=l.map pK
def bU(l:List au):List Nat:=bp (br l)
@[simp] theorem QO (l : List au) : (aO l).length = l.length := by simp [aO]
@[simp] theorem amh (l : List au) : (bU l).length = l.length := by simp [bU, br]
theorem pb.known{l:List au}(h:pb l){f:au}(hf:f∈l){s:ByteArray}(hs:s∈eh f.blocks):fA (kT l) s=true:=by
 unfold eh at hs;obtain⟨b,hb,rfl⟩:=List.mem_map.1 hs;rw[List.mem_filter] at hb;have hc:=bV.1 (h.calls f hf) b hb.1;have hk:=hb.2;unfold jh at hk;simp only[Bool.or_eq_true,decide_eq_true_eq] at hk
 have C:∃ g,findF l b.fin.name=some g:=by
  unfold jg at hc;rcases hk with hk|hk
  .rw[if_pos hk] at hc;unfold xZ at hc;split at hc
   .cases hc
   .rename_i g hg;exact⟨g,hg⟩
  .rw[if_neg oG,if_pos hk] at hc;unfold yc at hc;split at hc
   .cases hc
   .rename_i g hg;exact⟨g,hg⟩
 obtain⟨g,hg⟩:=C;have h1:=List.mem_of_find?_eq_some hg;have h2:=List.find?_some hg
 have:g.name=b.fin.name:=by
  simp only[beq_iff_eq] at h2;rw[tv,tv] at h2;exact xE h2
 rw[QN, <- this];exact List.mem_map_of_mem h1
theorem adQ{l:List au}{s:ByteArray}(h:fA (kT l) s=true):pA l s<l.length:=by
 unfold pA;rw[if_pos h];have:=Rt h;simpa using this
theorem E6{l:List au}{i:Nat}{f:au}(h:l[i]? =some f):(aO l).getD i []=(eh f.blocks).map (pA l):=getD_some (by simp[aO,h])
theorem pb.po{l:List au}(h:pb l):pk (aO l):=fun i t ht=>by
 cases hf:l[i]? with
 |none=>
  have:(aO l)[i]? =none:=by simp[aO,hf]
  rw[du,this] at ht;cases ht
 |some f=>
  rw[E6 hf] at ht;obtain⟨s,hs,rfl⟩:=List.mem_map.1 ht;rw[QO];exact adQ (h.known (bz hf) hs)
theorem pb.vT{l:List au}(h:pb l):vS (bU l) (aO l):=fun a b ha hb e=>by
 rw[QO] at ha hb;obtain⟨f,hf⟩:∃ f,l[a]? =some f:=⟨_,a8 ha⟩
 obtain⟨g,hg⟩:∃ g,l[b]? =some g:=⟨_,a8 hb⟩
 rw[E6 hf,E6 hg,List.length_map,List.length_map];have h1:(br l)[a]? =some (pK f):=by simp[br,hf]
 have h2:(br l)[b]? =some (pK g):=by simp[br,hg]
 refine Og (h.rK f (bz hf)) (h.rK g (bz hg)) ((E5 h1 h2).1 ?_);have e1:(bU l)[a]? =some ((bU l).getD a 0):=dn (by simpa using ha);have e2:(bU l)[b]? =some ((bU l).getD b 0):=dn (by simpa using hb);unfold bU at e1 e2 e;rw[e1,e2,e]
def oe(l:List au):List D:=if(cW l).2=0 then cM l (br l) ((aO l).map ap) else [.z,.z,.z]
theorem Qp(l:List au):∀ a∈oe l,Tr a:=by
 unfold oe;split
 .exact E0 _ _ _
 .exact .cons .z (.cons .z (.cons .z .nil))
theorem xe{l:List au}(h:(cW l).2=0):oe l=cM l (br l) ((aO l).map ap):=if_pos h
theorem B4{l:List au}(h:(cW l).2≠0):oe l=[.z,.z,.z]:=if_neg h
theorem aaN{s:ByteArray}{fs:List ByteArray}{k:Nat}(hk:fs.length=k)(h:fA fs s=false):fY (.string s) (I (k:Nat)) (eR fs)=eR (fs++[s]):=by
 subst hk;exact Rr h
structure OB(m:Mem)(q nx:Nat)(l:List au)(x1 x2:D)(sh:List ByteArray)(ca:List (List Int)):Prop where
 r0:m 0=some (.cells [.z,.z,.z] 82)
 rq:m q=some (.cells [bi l,x1,x2] 82)
 lt:0<q/\q<nx
 gr:(sh=[]/\ca=[]/\x1=.z/\x2=.z)\/∃ r1 r2,r1≠r2/\q<r1/\r1<nx/\q<r2/\r2<nx/\x1=.rs r1 0 sh.length/\x2=.rs r2 0 ca.length/\m r1=some (.cells (sh.map S) 9)/\m r2=some (.cells (ca.map aQ) 43)
theorem OB.mono{m m':Mem}{q nx C:Nat}{l:List au}{x1 x2:D}{sh:List ByteArray}{ca:List (List Int)}(h:OB m q nx l x1 x2 sh ca)(hm:∀ j,j<nx->m' j=m j)(hn:nx<=C):OB m' q C l x1 x2 sh ca:=by
 refine⟨by rw[hm 0 (by have:=h.lt;omega)];exact h.r0,by rw[hm q h.lt.2];exact h.rq,by have:=h.lt;omega,?_⟩;rcases h.gr with g|⟨r1,r2,J,M,U,X,g5,g6,g7,g8,g9⟩
 .exact .inl g
 .exact .inr ⟨r1,r2,J,M,oG,X,oG,g6,g7,by rw[hm r1 U,g8],by rw[hm r2 g5,g9]⟩
theorem ach{X:Nat->Prop}(l:List ByteArray):∀ d∈l.map S,fJ X d:=fun d hd=>by
 obtain⟨s,_,rfl⟩:=List.mem_map.1 hd;exact .s _
theorem OM{X:Nat->Prop}(l:List (List Int)):∀ d∈l.map aQ,fJ X d:=fun d hd=>by
 obtain⟨s,_,rfl⟩:=List.mem_map.1 hd;exact .sl _ _
theorem OB.nV{m:Mem}{q nx X i sz:Nat}{l:List au}{x1 x2:D}{sh:List ByteArray}{ca:List (List Int)}{cs:List D}(h:OB m q nx l x1 x2 sh ca)(hi:nx<=i)(hn:nx<=X):OB (de i cs sz m) q X l x1 x2 sh ca:=by
 have hz:∀ d∈[D.z,.z,.z],fJ (fun k=>k=i) d:=fun d hd=>by
  simp only[List.mem_cons,List.not_mem_nil,or_false,or_self] at hd;subst hd;exact .z
 refine⟨gS h.r0 (by have:=h.lt;omega) (.cells hz),?_,by have:=h.lt;omega,?_⟩
 .refine gS h.rq (by have:=h.lt;omega) (.cells fun d hd=>?_);simp only[List.mem_cons,List.not_mem_nil,or_false] at hd;rcases h.gr with⟨_,_,C,J⟩|⟨r1,r2,C,J,g3,g4,g5,M,U,g8,g9⟩
  .subst C J;rcases hd with rfl|rfl|rfl
   .exact .sl _ _
   .exact .z
   .exact .z
  .subst M U;rcases hd with rfl|rfl|rfl
   .exact .sl _ _
   .exact .rs oG
   .exact .rs oG
 .rcases h.gr with g|⟨r1,r2,C,J,g3,g4,g5,M,U,g8,g9⟩
  .exact .inl g
  .exact .inr ⟨r1,r2,C,J,oG,g4,oG,M,U,gS g8 oG (.cells (ach _)),gS g9 oG (.cells (OM _))⟩
end Go.Argus
namespace Go.Proofs.Tryz.K
theorem M6{f:au}(h:fi f=0):aD prog 67 [.agg (aY f)] (S (pK f)):=by
 have hb:=tH (Go.Argus.checked h)
 have zg:aD prog 57 [.agg (aY f),S kM,.fn (.func 112) [] []] (.agg (aY (yd f))):=zg (to:=fun _=>kM) (.fn oS oS) (fun X i cs sz _=>rfl) (fun b _ _=>aid) (by have:=hb.aW;omega) (by have:=hb.cr;omega) (by have:=hb.sigs;omega) (by have:=hb.j7;omega) fun b C=>by
  have h1:=hb.bG b C;have h2:=h1.len;have J:=h1.fin.len;have M:=h1.fin.aU;have U:=h1.fin.ins.len;exact⟨oG,fun x hx=>by have:=(h1.ins x hx).len;omega,oG,oG,oG⟩
 have He:=He (f:=yd f) fun _=>adr (Jn h);rw[ON h,if_pos rfl] at He;refine bj aio (.cons (.agg (nb f)) .nil) (Tr.s _) ?_;rw[aip];refine az ?_;refine ag ?_;refine af (bJ (dE [(0,aY f,48)] eH (l:=[(1,.pt (aY f))]) eH) (aj ?_));refine SS ?_;refine cl zg ?_;refine cl He ?_;refine SS ?_;refine ax (qE (v:=.s (.string _)) rfl rfl) ak (by first|decide|simp) ?_;refine ay ?_;refine er ?_;refine ag ?_;exact af (aJ rfl rfl)
theorem aaO(s:ByteArray)(fs:List ByteArray):fz prog 144 false (cQ (.string s) (eR fs))=I (if fA fs s then(jI fs s:Nat) else 0:Nat):=by
 rw[Jm];cases fA fs s with
 |true=>rfl
 |false=>
  show lM prog (la prog 144)=_;rw[Td];rfl
theorem gO{l:List au}(hl:l.length<=1000):aD prog 43 [bi l] (.aM [.agg (oe l),I (cW l).2]):=by
 have HL:=HL (l:=l) (fun h f hf=>aci oG h hf) oG;refine bj aiq (.cons (iB l) .nil) (.aM (.cons (.agg (Qp l)) (.cons (.s _) .nil))) ?_;rw[air];refine ws ?_;refine ag ?_;refine af (aC (aj ?_));refine SS ?_;refine cl HL ?_;refine bA ?_;refine af (aC (aj ?_));refine ag ?_;have sP:=tW (l:=l);have oJ:=xe (l:=l);have rm:=B4 (l:=l);generalize (cW l).2=err at*
 generalize oe l=oD at*
 refine af (ct rfl (fun h=>aC (aj ?_)) fun h=>bX (aj ?_))
 .have h:err≠0:=by simpa using h
  rw[rm h];refine aV ?_;exact af (ew (mY (gP rfl rfl s7 mh rfl t82 (bc 3)) rfl rfl))
 have h:err=0:=by simpa using h
 subst h;have hL:=sP rfl;rw[oJ rfl];clear oJ rm sP HL;refine ag ?_;refine af (aC (az ?_));refine ay ?_
 refine af (cz (fun s=>∃ nx,0<nx/\aL prog s ⟨aA [(0,bi l),(2,.rp 0 0),(6,.im (eR (kT l)))],bu [(0,.cells [.z,.z,.z] 82)],nx⟩) (cy (α:=Nat×Nat)
  (fun s=>⟨aA [(0,bi l),(2,.rp 0 0),(6,.mp 1),(25,bi l),(26,I l.length),(27,I s.1)],bu [(0,.cells [.z,.z,.z] 82),(1,.map (eR ((kT l).take s.1)))],s.2⟩)
  (fun s=>s.1<=l.length/\1<s.2) (fun s=>l.length - s.1) (0,_) (cq eH eH) ⟨Nat.zero_le _,oM⟩ ?_) ?_)
 .rintro⟨k,nx⟩ ⟨hk,cC⟩;dsimp only at hk cC ⊢;refine SS ?_;refine af ⟨_,rfl,fun h=>?_,fun h=>?_⟩
  .have ah:k<l.length:=by simpa using h
   clear h;obtain⟨f,hf⟩:∃ f,l[k]? =some f:=⟨_,a8 ah⟩
   have MF:=hL.fresh hf;have fu:(kT l).take (k+1)=(kT l).take k++[f.name]:=by rw[List.take_add_one,List.getElem?_map,hf];rfl
   have rG:((kT l).take k).length=k:=by simp;omega
   generalize (kT l).take k=fs at*
   refine ws ?_;refine cm ?_;refine af (fF ?_);have aq:∀ {a b},up (up (bu [(0,.cells [.z,.z,.z] 82),(1,.map (eR fs))]) nx a) nx b nx=b:=al _ _ _;have ae2:∀ {a b},up (up (bu [(0,.cells [.z,.z,.z] 82),(1,.map (eR fs))]) nx a) nx b 1=some (.map (eR fs)):=ai oG (ai oG rfl);have kd:(aY f).drop (0+0)=S f.name::(aY f).drop 1:=rfl;refine aV ?_;refine bL (xB (key:=.string f.name) (v:=I (k:Nat)) rfl ae2 rfl rfl C0) aP ⟨C',vO _,GQ fs⟩ ?_;rw[aaN rG MF];refine af ?_;refine ag ?_;refine af (bh (k+1,nx+1) ?_ ⟨oM,oM⟩ oM);dsimp only;rw[fu];exact cq eH ⟨ai oG (ai oG (ai oG rfl)),al _ _ _,trivial⟩
  .have bq:¬ k<l.length:=by simpa using h
   have:k=l.length:=by omega
   subst this;rw[dv oS];exact⟨nx,oG,(aL.Ce _ _ _ 1 (eR (kT l)) rfl).trans (cq eH eH)⟩
 .rintro s ⟨q,M7,U⟩;refine⟨_,U,aj ?_⟩;clear U;refine aV ?_;refine af (aC (az ?_));refine ay ?_;have mQ:(br l).length=l.length:=by simp[br]
  have dy:((aO l).map ap).length=l.length:=by simp
  refine af (cz (fun s=>∃ x1 x2 m nx,OB m q nx l x1 x2 (br l) ((aO l).map ap)/\aL prog s ⟨aA [(2,.rp 0 0),(9,.rp q 0)],m,nx⟩) (cy (α:=Nat×D×D×Mem×Nat)
   (fun s=>⟨aA [(2,.rp 0 0),(6,.im (eR (kT l))),(9,.rp q 0),(39,bi l),(40,I l.length),(41,I s.1)],s.2.2.2.1,s.2.2.2.2⟩)
   (fun s=>s.1<=l.length/\OB s.2.2.2.1 q s.2.2.2.2 l s.2.1 s.2.2.1 ((br l).take s.1) (((aO l).map ap).take s.1)) (fun s=>l.length - s.1) (0,.z,.z,_,_)
   (aw eH) ⟨Nat.zero_le _,⟨ai oG (ai oG rfl),al _ _ _,⟨M7,oM⟩,.inl ⟨rfl,rfl,rfl,rfl⟩⟩⟩ ?_) ?_)
  .rintro⟨k,x1,x2,m,nx⟩ ⟨hk,J⟩;dsimp only at hk J ⊢;refine SS ?_;refine af ⟨_,rfl,fun h=>?_,fun h=>?_⟩
   .have ah:k<l.length:=by simpa using h
    clear h;obtain⟨f,hf⟩:∃ f,l[k]? =some f:=⟨_,a8 ah⟩
    have uL:=bz hf;have j5:=hL.rK f uL;have HP:=tH (Go.Argus.checked j5);have MV:=MV (f:=f) (by have:=HP.j7;omega);have M6:=M6 j5;have Bl:(eh f.blocks).length<=100000:=by have:=wX f.blocks;have:=HP.j7;omega
    have iT:(br l).take (k+1)=(br l).take k++[pK f]:=by
     have:(br l)[k]? =some (pK f):=by simp[br,hf]
     rw[List.take_add_one,this];rfl
    have HQ:((aO l).map ap).take (k+1)=((aO l).map ap).take k++[ap ((eh f.blocks).map (pA l))]:=by
     have:((aO l).map ap)[k]? =some (ap ((eh f.blocks).map (pA l))):=by simp[aO,hf]
     rw[List.take_add_one,this];rfl
    have hls:((br l).take k).length=k:=by rw[List.length_take];omega
    have Vi:(((aO l).map ap).take k).length=k:=by rw[List.length_take];omega
    generalize (br l).take k=sh at*
    generalize ((aO l).map ap).take k=ca at*
    generalize eh f.blocks=cs at*
    generalize pK f=eN at*
    have amv:=J.lt;refine ws ?_;refine aV ?_;refine af (az ?_);refine SS ?_;refine af ⟨_,.sd _ _ _ 12 3 rfl,aC (az ?_)⟩;have aq:∀ {a b c},up (up (up m nx a) nx b) (nx+1) c nx=b:=ai oG (al _ _ _);refine SS ?_;refine cl MV ?_;refine ag ?_
    refine af (cz (fun s=>∃ m' C,OB m' q nx l x1 x2 sh ca/\m' nx=some (.cells (aY f) 48)/\nx+1<=C/\aL prog s ⟨aA [(2,.rp 0 0),(6,.im (eR (kT l))),(9,.rp q 0),(11,.rp nx 0),(12,aQ (ap (cs.map (pA l)))),(39,bi l),(40,I l.length),(41,I k)],m',C⟩) (cy (α:=Nat×Nat×Mem×Nat)
     (fun s=>⟨aA [(2,.rp 0 0),(6,.im (eR (kT l))),(9,.rp q 0),(11,.rp nx 0),(12,.rs s.2.1 0 s.1),(39,bi l),(40,I l.length),(41,I k),(46,bZ cs),(47,I cs.length),(48,I s.1)],s.2.2.1,s.2.2.2⟩)
     (fun s=>s.1<=cs.length/\OB s.2.2.1 q nx l x1 x2 sh ca/\s.2.2.1 nx=some (.cells (aY f) 48)/\nx<s.2.1/\s.2.1<s.2.2.2/\s.2.2.1 s.2.1=some (.cells ((ap ((cs.take s.1).map (pA l))).map I) 3)) (fun s=>cs.length - s.1) (0,nx+1,_,_)
     (aw eH) ⟨Nat.zero_le _,J.mono (fun j hj=>(aB _ _ oG).trans ((aB _ _ oG).trans (aB _ _ oG))) (bc _),aq,oM,oM,al _ _ _⟩ ?_) ?_)
    .rintro⟨j,r,m',C⟩ ⟨hj,M,y7,uS,wN,kH⟩;dsimp only at hj M y7 uS wN kH ⊢;refine SS ?_;refine af ⟨_,rfl,fun h=>?_,fun h=>?_⟩
     .have dw:j<cs.length:=by simpa using h
      clear h;obtain⟨y,hy⟩:∃ y,cs[j]? =some y:=⟨_,a8 dw⟩
      have Vj:ap ((cs.take (j+1)).map (pA l))=ap ((cs.take j).map (pA l))++[((pA l y:Nat):Int)]:=by rw[List.take_add_one,hy];simp[ap]
      have M0:(ap ((cs.take j).map (pA l))).length=j:=by simp;omega
      generalize ap ((cs.take j).map (pA l))=out at*
      have aq:=kH;have mS:(out.map I).length=j:=by simpa using M0
      refine ws ?_;refine ay ?_;refine af (fF ?_);refine ay ?_;refine ax (zE rfl rfl C0 (aaO y (kT l))) aP ⟨C',vO y,GQ _⟩ ?_;refine ay ?_;refine af ?_;refine ag ?_;refine af (bh (j+1,C+1,_,C+1+1) (aw eH) ?_ oM);dsimp only;refine⟨oG,M.mono (fun i hi=>(aB _ _ oG).trans ((aB _ _ oG).trans (aB _ _ oG))) (bc _),(aB _ _ oG).trans ((aB _ _ oG).trans ((aB _ _ oG).trans (y7))),oG,oG,(al _ _ _).trans ?_⟩;rw[Vj];simp;rfl
     .have bq:¬ j<cs.length:=by simpa using h
      have:j=cs.length:=by omega
      subst this;rw[List.take_length] at kH;refine⟨de r _ (prog.cellsOf 3) m',C,M.nV oG (bc _),gS y7 oG (.cells fun d hd=>?_),oG,lv kH ⟨gk oG,rfl,gk oG,gk oG,?_,rfl,rfl,rfl,trivial⟩⟩
      .rw[<- List.append_nil (aY f)] at hd;simp only[aY,List.append_nil,List.mem_cons,List.not_mem_nil,or_false] at hd;rcases hd with rfl|rfl|rfl|rfl|rfl|rfl|rfl|rfl<;>first|exact .s _|exact .sl _ _
      .show sub (cJ r _ (prog.cellsOf 3)) (.rs r 0 cs.length)=_;rw[AB,c3,List.drop_zero,dv oS];simp
    .rintro s ⟨m',C,M,y7,Hv,U⟩;refine⟨_,U,?_⟩;clear U;refine zU Zb ?_;have aq:=M.rq;have kd:[bi l,x1,x2].drop (0+1)=x1::[x2]:=rfl;have Vk:[bi l,x1,x2].drop (0+2)=x2::[]:=rfl;refine ag ?_;have aq:=y7;refine SS ?_;refine cl M6 ?_;refine SS ?_;rcases M.gr with⟨h1,h2,rfl,rfl⟩|⟨r1,r2,g1,g2,g3,g4,g5,rfl,rfl,g8,g9⟩
     .refine eC (Ac rfl rfl V.h V.h (kN (al _ _ _) rfl)) ak ⟨V.h,(by first|omega|exact bF rfl|(simp;done)|(simp;omega)),oC,(by unfold maxLen;first|omega|(simp;omega)),(by rw[b9];first|omega|(simp;omega))⟩ ?_;have aq:∀ {a b},up (up m' C a) (C+1) b q=some (.cells [bi l,.z,.z] 82):=ai oG (ai oG M.rq);have kd:=Vk;refine aV ?_;refine eC (Ac rfl rfl V.h V.h (kN (al _ _ _) rfl)) ak ⟨V.h,(by first|omega|exact bF rfl|(simp;done)|(simp;omega)),oC,(by unfold maxLen;first|omega|(simp;omega)),(by rw[D8];first|omega|(simp;omega))⟩ ?_;have aq:∀ {a b c d},up (up (up (up m' C a) (C+1) b) (C+1+1) c) (C+1+1+1) d q=some (.cells [bi l,.z,.z] 82):=ai oG (ai oG (ai oG (ai oG M.rq)));refine ag ?_;have aq:∀ {a b c d e},up (up (up (up (up m' C a) (C+1) b) (C+1+1) c) (C+1+1+1) d) q e q=e:=al _ _ _;refine ag ?_;refine cu (by simp[pH];omega) ?_;refine ag ?_;refine af (bh (k+1,.rs (C+1) 0 1,.rs (C+1+1+1) 0 1,_,C+1+1+1+1) (aw eH) ?_ oM);dsimp only;subst h1 h2;have sY:k=0:=by simpa using hls.symm
      subst sY;refine⟨oG,(aB _ _ oG).trans ((aB _ _ oG).trans ((aB _ _ oG).trans ((aB _ _ oG).trans ((aB _ _ oG).trans ((aB _ _ oG).trans (M.r0)))))),al _ _ _,⟨M7,oG⟩,.inr ⟨C+1,C+1+1+1,oG,oG,oG,oG,oG,?_,?_,(aB _ _ oG).trans ((aB _ _ oG).trans ((aB _ _ oG).trans ((aB _ _ oG).trans ((al _ _ _).trans ?_)))),(aB _ _ oG).trans ((aB _ _ oG).trans ((al _ _ _).trans ?_))⟩⟩
      .rw[iT];rfl
      .rw[HQ];rfl
      .rw[iT];rfl
      .rw[HQ];rfl
     .have kx:∀ {a},up m' C a r1=some (.cells (sh.map S) 9):=ai oG g8;refine jq (je rfl kx rfl rI c9 (kN (al _ _ _) rfl) rfl) aP ⟨uu,rfl,bF rfl,oC,oS,by unfold maxLen;omega,by rw[b9];omega,by simp;omega⟩ ?_;have aq:∀ {a b c},up (up (up m' C a) r1 b) (C+1) c q=some (.cells [bi l,.rs r1 0 sh.length,.rs r2 0 ca.length] 82):=ai oG (ai oG (ai oG M.rq));have kd:=Vk;refine aV ?_;have gT:∀ {a b c d},up (up (up (up m' C a) r1 b) (C+1) c) (C+1+1) d r2=some (.cells (ca.map aQ) 43):=ai oG (ai oG (ai oG (ai oG g9)));refine jq (je rfl gT rfl Vl s8 (kN (al _ _ _) rfl) rfl) aP ⟨T9,rfl,bF rfl,oC,oS,by unfold maxLen;omega,by rw[D8];omega,by simp;omega⟩ ?_;have aq:∀ {a b c d e f'},up (up (up (up (up (up m' C a) r1 b) (C+1) c) (C+1+1) d) r2 e) (C+1+1+1) f' q=some (.cells [bi l,.rs r1 0 sh.length,.rs r2 0 ca.length] 82):=ai oG (ai oG (ai oG (ai oG (ai oG (ai oG M.rq)))));refine ag ?_;have aq:∀ {a b c d e f' g},up (up (up (up (up (up (up m' C a) r1 b) (C+1) c) (C+1+1) d) r2 e) (C+1+1+1) f') q g q=g:=al _ _ _;refine ag ?_;refine cu (by simp[pH];omega) ?_;refine ag ?_;refine af (bh (k+1,.rs (C+1) 0 (sh.length+1),.rs (C+1+1+1) 0 (ca.length+1),_,C+1+1+1+1) (aw eH) ?_ oM);dsimp only;refine⟨oG,(aB _ _ oG).trans ((aB _ _ oG).trans ((aB _ _ oG).trans ((aB _ _ oG).trans ((aB _ _ oG).trans ((aB _ _ oG).trans ((aB _ _ oG).trans ((aB _ _ oG).trans (M.r0)))))))),al _ _ _,⟨M7,oG⟩,.inr ⟨C+1,C+1+1+1,oG,oG,oG,oG,oG,?_,?_,(aB _ _ oG).trans ((aB _ _ oG).trans ((aB _ _ oG).trans ((aB _ _ oG).trans ((aB _ _ oG).trans ((al _ _ _).trans ?_))))),(aB _ _ oG).trans ((aB _ _ oG).trans ((al _ _ _).trans ?_))⟩⟩
      .rw[iT,List.length_append];rfl
      .rw[HQ,List.length_append];rfl
      .rw[iT,List.map_append];simp;rfl
      .rw[HQ,List.map_append];rfl
   .have bq:¬ k<l.length:=by simpa using h
    have:k=l.length:=by omega
    subst this;rw[dv oG,dv oG] at J;exact⟨x1,x2,m,nx,J,aw eH⟩
  .rintro s ⟨x1,x2,m,nx,J,U⟩;have ah:=J.lt
   have nR:∃ m2 gL,aL prog s ⟨aA [(2,.rp 0 0),(9,.rp q 0)],m2,gL⟩/\m2 0=some (.cells [.z,.z,.z] 82)/\m2 q=some (.cells (cM l (br l) ((aO l).map ap)) 82):=by
    rcases J.gr with⟨h1,h2,rfl,rfl⟩|⟨r1,r2,g1,g2,g3,g4,g5,rfl,rfl,g8,g9⟩
    .rw[h1,h2];refine⟨up m q (some (.cells (cM l [] []) 82)),nx,U.trans (aL.nD _ _ _ _ _ (fun t=>tG _) fun i=>?_),(aB _ _ oG).trans J.r0,al _ _ _⟩;by_cases hi:i=q
     .subst hi;refine .inr ⟨_,cM l [] [],82,J.rq,al _ _ _,rfl,fun k d d' hd eZ=>?_⟩
      match k with
      |0=>cases (show some d=some d' from hd.symm.trans eZ);exact tG _
      |1|2=>
       simp only[cM,List.getElem?_cons_succ,List.getElem?_cons_zero,aH] at hd eZ;subst hd eZ;exact AV
      |k+3=>simp at hd
     .exact .inl (aB _ _ hi)
    .have hz:∀ X,∀ d∈[D.z,.z,.z],fJ X d:=fun X d hd=>by
      simp only[List.mem_cons,List.not_mem_nil,or_false,or_self] at hd;subst hd;exact .z
     have e1:de r1 ((br l).map S) (prog.cellsOf 9) m r2=some (.cells (((aO l).map ap).map aQ) 43):=gS g9 oG (.cells (OM _))
     have e2:de r1 ((br l).map S) (prog.cellsOf 9) m q=some (.cells [bi l,bZ (br l),.rs r2 0 ((aO l).map ap).length] 82):=by
      unfold de;rw[if_neg oG,J.rq];show some (Row.cells [bi l,sub (cJ r1 ((br l).map S) (prog.cellsOf 9)) (.rs r1 0 (br l).length),sub (cJ r1 ((br l).map S) (prog.cellsOf 9)) (.rs r2 0 ((aO l).map ap).length)] 82)=_;rw[AB,zP oG,c9,List.drop_zero,dv oS]
     refine⟨de r2 _ (prog.cellsOf 43) (de r1 _ (prog.cellsOf 9) m),nx,U.trans ((lv (l:=[(2,.rp 0 0),(9,.rp q 0)]) g8 ⟨gk oG,gk oG,trivial⟩).trans (lv e1 ⟨gk oG,gk oG,trivial⟩)),gS (gS J.r0 oG (.cells (hz _))) oG (.cells (hz _)),?_⟩;generalize de r1 ((br l).map S) (prog.cellsOf 9) m=m1 at*
     unfold de;rw[if_neg oG,e2];show some (Row.cells [bi l,bZ (br l),sub (cJ r2 (((aO l).map ap).map aQ) (prog.cellsOf 43)) (.rs r2 0 ((aO l).map ap).length)] 82)=_;rw[AB,s8,List.drop_zero,dv oS];rfl
   obtain⟨m2,gL,D7,q1,q2⟩:=nR;refine⟨_,D7,aj ?_⟩;clear D7 U;have aq:=q2;refine ax (ff rfl aq V.h V.h rfl) ak (fh V.h V.h (by first|(simp;done)|omega|exact bF rfl)) ?_;have aq:=q1;refine bL (fg rfl rfl aq rfl) ak (bY V.h V.h (by first|(simp;done)|exact⟨rfl,bF rfl⟩|(simp;omega)) (by rfl)) ?_;refine SS ?_;exact af (mY (gP (cs:=cM l (br l) ((aO l).map ap)) (vs:=cM l (br l) ((aO l).map ap)) rfl rfl s7 mh rfl t82 (bc 3)) rfl rfl)
end Go.Proofs.Tryz.K
namespace Go.Abs
section
variable{P:Program}{Y:eb}{rf:Bool}{Q:Exit->St->Prop}{st:St}{id fU:Nat}{body:Code}{α:Type}
theorem Zc[dA Y](S:α->St)(J:α->Prop)(μ:α->Nat)(C:α)(hg:aL P st (S C))(M:J C)(h:∀ x,J x->AW P Y rf body (k6 fU id (xU P S J μ x) Q) (S x)):
 ∃ st',aL P st st'/\AW P Y rf (.block id (.loop (.block fU body))) Q st':=
 Cj (Q:=fx id Q) S J μ C hg M (fun x hx=>P9 (h x hx)) (a:=.skip) fun _ h=>h
theorem xk{k i:Nat}{r:Row}{l:List (Nat×Row)}(h:i≠k):bu ((k,r)::l) i=bu l i:=if_neg h
theorem zW{k:Nat}{r:Row}{l:List (Nat×Row)}:bu ((k,r)::l) k=some r:=if_pos rfl
theorem WB{l:Nat}(h:∃ st',aL P st st'/\AW P Y rf body Q st'):AW P Y rf (.seq (.label l) body) Q st:=h
end
end Go.Abs
namespace Go.Argus
section
variable{κ ι:Type}[DecidableEq κ][DecidableEq ι]
theorem aaP{g:κ->ι}:∀ {fs:List κ} {k:κ},(∀ a∈fs,g a=g k->a=k)->fA (fs.map g) (g k)=fA fs k
 |[],k,_=>rfl
 |a::fs,k,h=>by
  rw[List.map_cons,IQ,IQ,aaP fun b hb=>h b (List.mem_cons_of_mem _ hb)];congr 1;exact decide_eq_decide.2 ⟨h a oS,fun e=>by rw[e]⟩
theorem Qq{g:κ->ι}:∀ {fs:List κ} {k:κ},(∀ a∈fs,g a=g k->a=k)->jI (fs.map g) (g k)=jI fs k
 |[],k,_=>rfl
 |a::fs,k,h=>by
  rw[List.map_cons,IS,IS,Qq fun b hb=>h b (List.mem_cons_of_mem _ hb)];by_cases e:a=k
  .rw[if_pos e,if_pos (by rw[e])]
  .rw[if_neg e,if_neg fun C=>e (h a oS C)]
theorem Qr{g:κ->ι}{ks:List κ}(h:∀ a∈ks,∀ b∈ks,g a=g b->a=b):bm (ks.map g)=(bm ks).map g:=by
 have key:∀ (ks acc:List κ),(∀ a∈acc++ks,∀ b∈acc++ks,g a=g b->a=b)->lA (acc.map g) (ks.map g)=(lA acc ks).map g:=fun ks=>by
  induction ks with
  |nil=>intro acc _;rfl
  |cons k ks ih=>
   intro acc h;simp only[List.map_cons,lA]
   have e:g k∈acc.map g↔k∈acc:=by
    constructor
    .intro hm;obtain⟨a,ha,e⟩:=List.mem_map.1 hm;rw[<- h a (by simp[ha]) k oS e];exact ha
    .exact fun hm=>List.mem_map_of_mem hm
   by_cases hk:k∈acc
   .rw[if_pos hk,if_pos (e.2 hk)];exact ih acc fun a ha b hb=>h a (by simp at ha ⊢;rcases ha with ha|ha<;>simp[ha]) b (by simp at hb ⊢;rcases hb with hb|hb<;>simp[hb])
   .rw[if_neg hk,if_neg fun hm=>hk (e.1 hm)];have:=ih (acc++[k]) fun a ha b hb=>h a (by simpa using ha) b (by simpa using hb)
    rwa[List.map_append] at this
 exact key ks [] (by simpa using h)
theorem aaQ{g:κ->ι}{ks:List κ}(h:∀ a∈ks,∀ b∈ks,g a=g b->a=b):bp (ks.map g)=bp ks:=by
 have e1:∀ (l:List κ),bp l=l.map (jI (bm l)):=fun l=>rfl;have e2:∀ (l:List ι),bp l=l.map (jI (bm l)):=fun l=>rfl;rw[e1,e2,Qr h,List.map_map];exact List.map_congr_left fun k hk=>Qq fun a ha=>h a (nd.1 ha) k hk
end
theorem aaR:∀ {a b:List Nat},(∀ n∈a,n<90)->(∀ n∈b,n<90)->hC (ap a)=hC (ap b)->a=b:=fun {a b} ha hb h=>by
 have h1:bW (hC (ap a))=bW (hC (ap b)):=congrArg bW h
 have e:∀ l:List Nat,bW (hC (ap l))=l.map fun n=>UInt8.ofNat (n+33):=fun l=>by
  simp only[hC,mkStr,ap,List.map_map,bW];refine List.map_congr_left fun n _=>?_;show UInt8.ofNat ((n:Int)+33).toNat=_;congr 1
 rw[e,e] at h1;clear e h
 induction a generalizing b with
 |nil=>cases b with
  |nil=>rfl
  |cons y b=>simp at h1
 |cons x a ih=>cases b with
  |nil=>simp at h1
  |cons y b=>
   simp only[List.map_cons,List.cons.injEq] at h1;have hx:=ha x oS;have hy:=hb y oS;have:=congrArg UInt8.toNat h1.1;rw[UInt8.toNat_ofNat_of_lt' (by simp[UInt8.size];omega),UInt8.toNat_ofNat_of_lt' (by simp[UInt8.size];omega)] at this;rw[ih (fun n hn=>ha n (List.mem_cons_of_mem _ hn)) (fun n hn=>hb n (List.mem_cons_of_mem _ hn)) h1.2,show x=y by omega]
def nz(ca:List (List Nat))(clq:List Nat):List ByteArray:=(eP ca clq).map fun k=>hC (ap k)
theorem IT{ca:List (List Nat)}{clq:List Nat}(h:∀ c∈clq,c<90):∀ k∈eP ca clq,∀ n∈k,n<90:=fun k hk n hn=>by
 have hd:∀ i,clq.getD i 0<90:=fun i=>by
  rw[du];cases he:clq[i]? with
  |none=>decide
  |some c=>exact h c (bz he)
 obtain⟨i,_,rfl⟩:=List.mem_map.1 hk;rcases List.mem_cons.1 hn with rfl|hn
 .exact hd i
 .obtain⟨t,_,rfl⟩:=List.mem_map.1 hn;exact hd t
theorem Zd{ca:List (List Nat)}{clq:List Nat}(h:∀ c∈clq,c<90):bp (nz ca clq)=bp (eP ca clq)/\(bm (nz ca clq)).length=(bm (eP ca clq)).length:=by
 have hi:∀ a∈eP ca clq,∀ b∈eP ca clq,hC (ap a)=hC (ap b)->a=b:=fun a ha b hb e=>aaR (IT h a ha) (IT h b hb) e;refine⟨aaQ hi,?_⟩;unfold nz;rw[Qr hi,List.length_map]
theorem OO{κ:Type}[DecidableEq κ]{ks:List κ}{n:Nat}(h:ks.length<=n):∀ c∈bp ks,c<n:=fun c hc=>by
 obtain⟨i,hi⟩:=ep hc;have h1:=Fs hi;have h2:=vo ks;omega
def fQ(l:List au)(sh:List ByteArray)(ca:List (List Int))(clq:List Int):List D:=[bi l,bZ sh,bT ca,aQ clq]
@[simp] theorem al3 (l : List au) (sh : List ByteArray) (ca : List (List Int)) (clq : List Int) : (fQ l sh ca clq).length = 4 := rfl
theorem Ey(l:List au)(sh:List ByteArray)(ca:List (List Int))(clq:List Int):∀ a∈fQ l sh ca clq,Tr a:=.cons (iB l) (.cons (jb sh) (.cons (qL ca) (.cons (c6 clq) .nil)))
def k7(clq:List Nat)(i k:Nat):List Nat:=(range i).filter fun j=>clq.getD j 0==k
theorem XY(clq:List Nat)(i k:Nat):k7 clq (i+1) k=k7 clq i k++if clq.getD i 0==k then [i] else []:=by
 unfold k7;rw[List.range_succ,List.filter_append];congr 1;simp only[List.filter_cons,List.filter_nil]
theorem aaS{clq:List Nat}{i n:Nat}(h:clq.getD i 0=n):(fun k=>(ap (k7 clq (i+1) k)).map I)=up (fun k=>(ap (k7 clq i k)).map I) n ((ap (k7 clq i n)++[(i:Int)]).map I):=by
 funext k;rw[XY,B5,h];by_cases e:k=n
 .subst e;rw[if_pos rfl,if_pos oS];simp[ap]
 .rw[if_neg e,if_neg (by simpa using fun C=>e C.symm)];simp
theorem Ze(clq:List Nat)(i k:Nat):(k7 clq i k).length<=i:=by
 unfold k7;have:=List.length_filter_le (fun j=>clq.getD j 0==k) (range i);simpa using this
theorem ads(clq:List Nat)(m:Nat):hM clq m=(range m).map fun k=>ap (k7 clq clq.length k):=by
 unfold hM EN k7;rw[List.map_map];rfl
section
variable{κ:Type}[DecidableEq κ]
def jv(ks:List κ)(i:Nat):Nat:=(bm (ks.take i)).length
theorem aaT{ks:List κ}{i:Nat}(hi:i<ks.length):(bp ks).getD i 0<=jv ks i/\jv ks (i+1)=if(bp ks).getD i 0=jv ks i then jv ks i+1 else jv ks i:=by
 obtain⟨s,hs⟩:∃ s,ks[i]? =some s:=⟨_,a8 hi⟩
 obtain⟨h1,h2⟩:=Qn hs
 have C:(bp ks)[i]? =some (if fA (bm (ks.take i)) s then jI (bm (ks.take i)) s else(bm (ks.take i)).length):=by
  have:((bp ks).take (i+1))[i]? =((bp ks).take i++[if fA (bm (ks.take i)) s then jI (bm (ks.take i)) s else(bm (ks.take i)).length])[i]? :=by rw[h2]
  rw[List.getElem?_take,if_pos oG,List.getElem?_append_right oP] at this;rw[this];have e:i - (List.take i (bp ks)).length=0:=by simp;omega
  rw[e];rfl
 rw[tI C];unfold jv;rw[h1];cases hm:fA (bm (ks.take i)) s with
 |true=>
  have:=Rt hm;simp only[if_true];refine⟨oG,?_⟩;rw[if_neg oG]
 |false=>simp
theorem adt{ks:List κ}{i j:Nat}(hj:j<i)(hi:i<=ks.length):(bp ks).getD j 0<jv ks i:=by
 have h1:(bp (ks.take i))[j]? =some ((bp ks).getD j 0):=by
  rw[<- Zf,List.getElem?_take,if_pos hj,dn (d:=0) oP]
 exact Fs h1
theorem Zg{ks:List κ}{i k:Nat}(hi:i<=ks.length)(hk:jv ks i<=k):k7 (bp ks) i k=[]:=by
 unfold k7;rw[List.filter_eq_nil_iff];intro j hj;have:=adt (List.mem_range.1 hj) hi;rw[beq_iff_eq];omega
end
end Go.Argus
namespace Go.Proofs.Tryz.K
theorem zh{l:List au}{sh:List ByteArray}{ca:List (List Nat)}(h1:sh.length=l.length)(h2:ca.length=l.length)(dD:pk ca)(hn:l.length<=60)(hlen:∀ x∈ca,x.length<=10000):
 aD prog 44 [.agg (cM l sh (ca.map ap))] (.agg (fQ l sh (ca.map ap) (ap (nk (bp sh) ca)))):=by
 have ais:=D4 (ks:=sh) oG;refine bj ait (.cons (.agg (E0 _ _ _)) .nil) (.agg (Ey _ _ _ _)) ?_;rw[aiu];refine az ?_;refine ag ?_;refine af ⟨_,qG (i:=0) (cs:=cM l sh (ca.map ap)) (e:=82) rfl (l:=[(1,.pt (cM l sh (ca.map ap))),(2,.rp 1 0)]) ⟨lQ,rfl,trivial⟩ (ml:=[(1,.cells [.z,.z,.z,.z] 86)]) eH,?_⟩;show AW _ _ _ _ (Cw _) _;refine ws ?_;refine ag ?_;refine nu ais rfl aP ?_;refine bA ?_;refine af (WB ?_);have mQ:(bp sh).length=ca.length:=by rw[Jo];omega
 have hR:xm ca ((bp sh).length+1) (bp sh) (bm sh).length=nk (bp sh) ca:=by rw[<- zH];rfl
 have h0s:=OO (ks:=sh) (n:=90) oG;have h0m:=zH sh;have fq:=vo sh;generalize nk (bp sh) ca=RR at*
 refine cz (fun s=>∃ nx,1<nx/\aL prog s ⟨aA [(1,.pt (cM l sh (ca.map ap))),(2,.rp 1 0),(3,aQ (ap RR))],bu [(1,.cells [.z,.z,.z,.z] 86)],nx⟩) (Zc (α:=List Nat×Nat×Nat)
  (fun s=>⟨aA [(1,.pt (cM l sh (ca.map ap))),(2,.rp 1 0),(3,aQ (ap s.1)),(4,I (s.2.1:Nat))],bu [(1,.cells [.z,.z,.z,.z] 86)],s.2.2⟩)
  (fun s=>s.1.length=ca.length/\s.2.1=(bm s.1).length/\(∀ c∈s.1,c<90)/\(∃ ed,ca.length<ed+s.2.1/\xm ca ed s.1 s.2.1=RR)/\1<s.2.2) (fun s=>ca.length - s.2.1) (bp sh,(bm sh).length,_)
  (aw eH) ⟨mQ,h0m.symm,h0s,⟨_,oM,hR⟩,oM⟩ ?_) ?_
 .rintro⟨clq,many,nx⟩ ⟨dy,Tf,M8,⟨ed,hfu,X⟩,U⟩;dsimp only at dy Tf M8 hfu X U ⊢;have iV:=iV (l:=l) (sh:=sh) (ca:=ca.map ap);have gM:(nz ca clq).length=l.length:=by simp[nz];omega
  have hle:many<=ca.length:=by have:=vo clq;omega
  refine az ?_;refine SS ?_;refine af ⟨_,.sd _ _ _ 5 9 rfl,aC (az ?_)⟩;refine SS ?_;refine cl iV ?_;refine SS ?_
  refine af (cz (fun s=>∃ nx,1<nx/\aL prog s ⟨aA [(1,.pt (cM l sh (ca.map ap))),(2,.rp 1 0),(3,aQ (ap clq)),(4,I many),(5,bZ (nz ca clq))],bu [(1,.cells [.z,.z,.z,.z] 86)],nx⟩) (cy (α:=Nat×Nat×Nat)
   (fun s=>⟨aA [(1,.pt (cM l sh (ca.map ap))),(2,.rp 1 0),(3,aQ (ap clq)),(4,I many),(5,.rs s.2.1 0 s.1),(19,I l.length),(20,I s.1)],bu [(1,.cells [.z,.z,.z,.z] 86),(s.2.1,.cells (((nz ca clq).take s.1).map S) 9)],s.2.2⟩)
   (fun s=>s.1<=l.length/\1<s.2.1/\s.2.1<s.2.2) (fun s=>l.length - s.1) (0,nx,nx+1)
   (cq eH ⟨ai oG rfl,al _ _ _,trivial⟩) ⟨Nat.zero_le _,U,oM⟩ ?_) ?_)
  .rintro⟨i,r,nx⟩ ⟨hi,uS,wN⟩;dsimp only at hi uS wN ⊢;refine SS ?_;refine af ⟨_,rfl,fun h=>?_,fun h=>?_⟩
   .have eD:i<l.length:=by simpa using h
    clear h;have HR:(ap clq)[i]? =some ((clq.getD i 0:Nat):Int):=by rw[List.getElem?_map,dn (d:=0) (show i<clq.length by omega)];rfl
    have D9:(ca.map ap)[i]? =some (ap (ca.getD i [])):=by rw[List.getElem?_map,dn (d:=[]) (show i<ca.length by omega)];rfl
    have s6:(ca.getD i []).length<=10000:=hlen _ (bz (dn (show i<ca.length by omega)))
    have fu:(nz ca clq).take (i+1)=(nz ca clq).take i++[hC (ap (lR ca clq i))]:=by
     have:(nz ca clq)[i]? =some (hC (ap (lR ca clq i))):=by
      unfold nz;rw[List.getElem?_map,zC oG];rfl
     rw[List.take_add_one,this];rfl
    have ow:lR ca clq i=clq.getD i 0::(ca.getD i []).map fun t=>clq.getD t 0:=rfl
    have qo:∀ n∈ap (lR ca clq i),0<=n/\n<90:=fun n hn=>by
     obtain⟨c,hc,rfl⟩:=List.mem_map.1 hn;have:=IT M8 (lR ca clq i) (List.mem_map.2 ⟨i,by simp;omega,rfl⟩) c hc;omega
    have ah:(((nz ca clq).take i).map S).length=i:=by simp;omega
    have MZ:=MZ (l:=ap (lR ca clq i)) qo (by rw[ow];simp only[ap,List.length_map,List.length_cons];omega) (by rw[ow];simp[ap]);have dq:∀ t∈ca.getD i [],t<clq.length:=fun t ht=>by rw[dy];exact dD i t ht
    generalize (nz ca clq).take i=done at*
    generalize ca.getD i []=C at*
    generalize lR ca clq i=key at*
    have ae3:∀ {a},up (bu [(1,.cells [.z,.z,.z,.z] 86),(r,.cells (done.map S) 9)]) nx a r=some (.cells (done.map S) 9):=ai oG (by simp[bu];omega);refine ws ?_;refine ag ?_;refine er ?_;refine cm ?_;refine af (aC (az ?_));refine fV ?_
    refine af (cz (fun s=>∃ J,r<J/\aL prog s ⟨aA [(1,.pt (cM l sh (ca.map ap))),(2,.rp 1 0),(3,aQ (ap clq)),(4,I many),(5,.rs r 0 i),(7,aQ (ap key)),(19,I l.length),(20,I i)],bu [(1,.cells [.z,.z,.z,.z] 86),(r,.cells (done.map S) 9)],J⟩) (cy (α:=Nat×Nat×Nat)
     (fun s=>⟨aA [(1,.pt (cM l sh (ca.map ap))),(2,.rp 1 0),(3,aQ (ap clq)),(4,I many),(5,.rs r 0 i),(7,.rs s.2.1 0 (s.1+1)),(19,I l.length),(20,I i),(32,aQ (ap C)),(33,I (ap C).length),(34,I s.1)],bu [(1,.cells [.z,.z,.z,.z] 86),(r,.cells (done.map S) 9),(s.2.1,.cells ((ap (clq.getD i 0::(C.take s.1).map fun t=>clq.getD t 0)).map I) 3)],s.2.2⟩)
     (fun s=>s.1<=C.length/\r<s.2.1/\s.2.1<s.2.2) (fun s=>C.length - s.1) (0,nx,nx+1)
     (cq eH ⟨ai oG rfl,ae3,al _ _ _,trivial⟩) ⟨Nat.zero_le _,wN,oM⟩ ?_) ?_)
    .rintro⟨j,q',J⟩ ⟨hj,bN,hq2⟩;dsimp only at hj bN hq2 ⊢;refine SS ?_;refine af ⟨_,rfl,fun h=>?_,fun h=>?_⟩
     .have dw:j<C.length:=by simpa using h
      clear h;obtain⟨t,ht⟩:∃ t,C[j]? =some t:=⟨_,a8 dw⟩
      have Vj:(ap C)[j]? =some (t:Int):=by rw[List.getElem?_map,ht];rfl
      have gw:(ap clq)[t]? =some ((clq.getD t 0:Nat):Int):=by rw[List.getElem?_map,dn (d:=0) (dq t (bz ht))];rfl
      have ae4:ap (clq.getD i 0::(C.take (j+1)).map fun t=>clq.getD t 0)=ap (clq.getD i 0::(C.take j).map fun t=>clq.getD t 0)++[((clq.getD t 0:Nat):Int)]:=by rw[List.take_add_one,ht];simp only[ap,List.map_append,List.map_cons,Option.toList_some,List.map_nil,List.cons_append]
      have KU:((ap (clq.getD i 0::(C.take j).map fun t=>clq.getD t 0)).map I).length=j+1:=by simp only[ap,List.length_map,List.length_cons,List.length_take];omega
      generalize ap (clq.getD i 0::(C.take j).map fun t=>clq.getD t 0)=out at*
      have aq:bu [(1,.cells [.z,.z,.z,.z] 86),(r,.cells (done.map S) 9),(q',.cells (out.map I) 3)] q'=some (.cells (out.map I) 3):=(xk oG).trans ((xk oG).trans zW);have amk:out.length=j+1:=by simpa using KU
      have ae5:bu [(1,.cells [.z,.z,.z,.z] 86),(r,.cells (done.map S) 9),(q',.cells (out.map I) 3)] r=some (.cells (done.map S) 9):=(xk oG).trans zW;refine ws ?_;refine ay ?_;refine af (fF ?_);refine dM ?_;refine af ?_;refine ag ?_;refine af (bh (j+1,J+1,J+1+1) ?_ ⟨oM,oM,oM⟩ oM);dsimp only;rw[ae4];refine cq eH ⟨ai oG (ai oG (ai oG rfl)),ai oG (ai oG (ai oG ae5)),(al _ _ _).trans (by simp;rfl),trivial⟩
     .have bq:¬ j<C.length:=by simpa using h
      have:j=C.length:=by omega
      subst this;rw[List.take_length, <- ow];have G3:key.length=C.length+1:=by rw[ow];simp
      refine⟨J,oG,qG (i:=q') (cs:=(ap key).map I) (e:=3) ((xk oG).trans ((xk oG).trans zW)) ⟨rfl,gk oG,rfl,rfl,zP oG,?_,rfl,rfl,trivial⟩ ⟨E3 oG rfl rfl,E3 oG ((xk oG).trans zW) (congrArg (Row.cells · 9) (Qm (fun _=>rfl) done)),trivial⟩⟩;exact(jR (by rw[c3];simp;omega)).trans (by show _=D.sl _ _;simp only[ap,List.length_map,G3])
    .rintro s ⟨J,AU,M⟩;refine⟨_,M,fF ?_⟩;clear M;have aq:bu [(1,.cells [.z,.z,.z,.z] 86),(r,.cells (done.map S) 9)] r=some (.cells (done.map S) 9):=(xk oG).trans zW;have ag0:done.length=i:=by simpa using ah
     refine ag ?_;refine cl MZ ?_;refine ay ?_;refine af ?_;refine ag ?_;refine af (bh (i+1,J+1,J+1+1) ?_ ⟨oM,oM,oM⟩ oM);dsimp only;rw[fu];exact cq eH ⟨ai oG (ai oG (ai oG rfl)),(al _ _ _).trans (by rw[List.map_append];simp;rfl),trivial⟩
   .have bq:¬ i<l.length:=by simpa using h
    have:i=l.length:=by omega
    subst this;rw[dv oG];refine⟨nx,oG,qG (i:=r) (cs:=(nz ca clq).map S) (e:=9) (by simp[bu];omega) ⟨rfl,gk oG,rfl,rfl,?_,trivial⟩ ⟨E3 oG rfl rfl,trivial⟩⟩;exact(jR (by rw[c9,List.length_map,gM];omega)).trans (by show _=D.sl _ _;rw[gM])
  .rintro s ⟨nx,U,M⟩;refine⟨_,M,aj ?_⟩;clear M;obtain⟨yQ,D'⟩:=Zd (ca:=ca) M8;have D4:=D4 (ks:=nz ca clq) oG;rw[yQ,D'] at D4;have aml:many<=(bm (eP ca clq)).length:=by rw[Tf];exact Po dy
   have amw:(bm (eP ca clq)).length<=ca.length:=by have:=vo (eP ca clq);simpa using this
   have fP:(bp (eP ca clq)).length=ca.length:=by simp
   have Bf:=zH (eP ca clq);have Bw:=OO (ks:=eP ca clq) (n:=90) oP;cases ed with
   |zero=>omega
   |succ ed=>
   unfold xm at X;generalize (bm (eP ca clq)).length=more at*
   generalize bp (eP ca clq)=pB at*
   refine SS ?_;refine cl D4 ?_;refine bA ?_;refine er ?_;refine ag ?_;refine af (aC (aj ?_));refine ay ?_;refine af (ct rfl (fun h=>tm (abZ oC ?_)) fun h=>bX (fF ?_))
   .have hm:more=many:=by
     have:((more:Nat):Int)=many:=by simpa using h
     omega
    rw[if_pos hm] at X;subst X;exact⟨nx,U,aw eH⟩
   .have hm:¬ more=many:=by
     intro e;subst e;simp at h
    rw[if_neg hm] at X;refine ag ?_;refine af (bh (pB,more,nx) (aw eH) ⟨fP,Bf.symm,Bw,⟨ed,oM,X⟩,U⟩ oM)
 .rintro s ⟨nx,U,M⟩;refine⟨_,M,aj ?_⟩;refine aV ?_;exact af (bH (Fp (ss (gP (cs:=fQ l sh (ca.map ap) (ap RR)) (vs:=fQ l sh (ca.map ap) (ap RR)) rfl rfl Bx wO rfl t86 (bc 4)) rfl)))
end Go.Proofs.Tryz.K
namespace Go.Abs
theorem jP.grow{m m':Mem}{nx M j J n:Nat}{e et:TypeId}{ρ:Nat->Nat}{L:Nat->List D}(h:jP m nx j n e et ρ L)(U:L n=[])(hj:nx<=J)(mP:J<M)(aq:m' J=some (.cells (nM ρ L n++[.z]) e))(hk:∀ q,q<nx->q≠j->m' q=m q):jP m' M J (n+1) e et ρ L:=by
 have ah:∀ i,i<n+1->L i≠[]->i<n:=fun i hi C=>by
  by_cases e:i=n
  .subst e;exact absurd U C
  .omega
 refine⟨?_,mP,fun i hi C=>?_,fun i hi C=>?_,fun i hi C=>?_,fun a b ha hb zi X=>h.inj a b (ah a ha zi) (ah b hb X) zi X⟩
 .rw[aq];unfold nM;rw[List.range_succ,List.map_append];simp[U,jc]
 .have:=ah i hi C;exact(hk _ (h.lt i this C) (h.ne i this C)).trans (h.AY i this C)
 .have:=h.lt i (ah i hi C) C;omega
 .have:=h.lt i (ah i hi C) C;omega
theorem jP.nil{m:Mem}{nx j:Nat}{e et:TypeId}{ρ:Nat->Nat}{L:Nat->List D}(hm:m j=some (.cells [] e))(hj:j<nx):jP m nx j 0 e et ρ L:=
 ⟨hm,hj,fun _ h=>absurd h (Nat.not_lt_zero _),fun _ h=>absurd h (Nat.not_lt_zero _),fun _ h=>absurd h (Nat.not_lt_zero _),fun _ _ h=>absurd h (Nat.not_lt_zero _)⟩
end Go.Abs
namespace Go.Proofs.Tryz.K
theorem By{κ:Type}[DecidableEq κ]{l:List au}{sh:List ByteArray}{ca:List (List Int)}{ks:List κ}(hl:ks.length<=1000):
 aD prog 45 [.agg (fQ l sh ca (ap (bp ks)))] (bT (hM (bp ks) (bm ks).length)):=by
 refine bj aiv (.cons (.agg (Ey _ _ _ _)) .nil) (qL _) ?_;rw[aiw];refine az ?_;refine ag ?_;refine af (bJ (dE [(0,fQ l sh ca (ap (bp ks)),86)] eH (l:=[(1,.pt (fQ l sh ca (ap (bp ks))))]) eH) (az ?_));refine SS ?_;refine af ⟨_,.sd _ _ _ 3 43 rfl,aC (az ?_)⟩;refine aV ?_;have dy:(ap (bp ks)).length=ks.length:=by simp
 refine af (cz (fun s=>∃ j m nx ρ,aL prog s ⟨aA [(3,.rs j 0 (jv ks ks.length))],m,nx⟩/\jP m nx j (jv ks ks.length) 43 3 ρ (fun k=>(ap (k7 (bp ks) ks.length k)).map I)) (cy (α:=Nat×Nat×Mem×Nat)
  (fun s=>⟨aA [(3,.rs s.2.1 0 (jv ks s.1)),(7,aQ (ap (bp ks))),(8,I (ap (bp ks)).length),(9,I s.1)],s.2.2.1,s.2.2.2⟩)
  (fun s=>s.1<=ks.length/\∃ ρ,jP s.2.2.1 s.2.2.2 s.2.1 (jv ks s.1) 43 3 ρ (fun k=>(ap (k7 (bp ks) s.1 k)).map I)) (fun s=>ks.length - s.1) (0,1,_,2)
  (aw eH) ⟨Nat.zero_le _,fun _=>0,jP.nil rfl oM⟩ ?_) ?_)
 .rintro⟨i,j,m,nx⟩ ⟨hi,ρ,M⟩;dsimp only at hi M ⊢;refine SS ?_;refine af ⟨_,rfl,fun h=>?_,fun h=>?_⟩
  .have eD:i<ks.length:=by simpa using h
   clear h;obtain⟨c1,wP⟩:=aaT eD;have HR:(ap (bp ks))[i]? =some (((bp ks).getD i 0:Nat):Int):=by rw[List.getElem?_map,dn (d:=0) (by simpa using eD)];rfl
   have Vm:=aaS (clq:=bp ks) (i:=i) rfl;have aix:=Ze (bp ks) i ((bp ks).getD i 0);have Lv:∀ k,jv ks i<=k->k7 (bp ks) i k=[]:=fun k hk=>Zg hi hk;have amx:jv ks i<=1000:=by have:=vo (ks.take i);simp[jv] at this ⊢;omega
   generalize hn:(bp ks).getD i 0=n at*
   generalize jv ks i=c at*
   generalize k7 (bp ks) i=L at*
   have dw:=M.zj;refine ws ?_;refine bA ?_;refine af (iC (fun s=>∃ U m' C J,n<jv ks (i+1)/\jP m' C U (jv ks (i+1)) 43 3 J (fun k=>(ap (L k)).map I)/\aL prog s ⟨aA [(3,.rs U 0 (jv ks (i+1))),(4,I i),(5,I n),(7,aQ (ap (bp ks))),(8,I (ap (bp ks)).length),(9,I i)],m',C⟩) ?_ ?_)
   .refine ws ?_;have aq:=M.row;refine aV ?_;refine af (aR rfl (fun h=>su ?_) fun h=>cO ?_)
    .have e:n=c:=by
      have:(n:Int)=c:=by simpa using h
      omega
     rw[if_pos e] at wP;subst e;refine ag ?_;refine jq (je rfl (ai oG aq) rfl V.h V.h (kN (al _ _ _) rfl) rfl) ak ⟨V.h,rfl,(by first|omega|exact bF rfl|(simp;done)|(simp;omega)),oC,(by first|rfl|(simp;done)|(simp;omega)),(by unfold maxLen;first|omega|(simp;omega)),(by rw[D8];first|omega|(simp;omega)),(by first|(simp;done)|(simp;omega))⟩ ?_;refine SS ?_;refine af ⟨nx+1,_,nx+1+1,ρ,oG,?_,aw ⟨?_,rfl,rfl,rfl,rfl,rfl,trivial⟩⟩
     .rw[wP];refine M.grow (by rw[Lv n (bc _)];rfl) oG oG ?_ (fun q hq uT=>?_)
      .exact(al _ _ _).trans (by simp;rfl)
      .exact ai oG (ai oG (ai oG rfl))
     .rw[wP];rfl
    .have e:¬ n=c:=fun e=>by subst e;simp at h
     rw[if_neg e] at wP;exact⟨j,m,nx,ρ,oG,by rw[wP];exact M,by rw[wP];exact aw eH⟩
   .rintro s ⟨U,m',C,J,j3,X,dG⟩;refine⟨_,dG,fF ?_⟩;clear dG;have aq:=X.row;have amy:=X.zj;have hLl:(ap (L n)).length<=i:=by simpa using aix
    generalize wH:jv ks (i+1)=c' at*
    obtain⟨cs,kd⟩:=Qs (ρ:=J) (L:=fun k=>(ap (L k)).map I) j3;by_cases hz:L n=[]
    .have zl:jc (J n) ((ap (L n)).map I)=.z:=by rw[hz];rfl
     rw[zl] at kd;refine bt ?_;refine ax (mr rfl rfl (ai oG (ai oG aq)) V.h V.h) ak ⟨V.h,oG⟩ ?_;refine bL (eF (d:=.rs _ _ _) (cs':=_) rfl rfl (ai oG (ai oG aq)) rfl rfl) ak (bY V.h V.h (by first|(simp;done)|exact⟨rfl,bF rfl⟩|(simp;omega)) rfl) ?_;refine af ?_;refine ag ?_;refine af (bh (i+1,U,up (up (up m' C (some (.cells [I i] 3))) (C+1) (some (.cells [I i] 3))) U (some (.cells ((nM J (fun k=>(ap (L k)).map I) c').set n (.rs (C+1) 0 1)) 43)),C+2) (aw ⟨?_,rfl,rfl,rfl,trivial⟩) ⟨oM,up J n (C+1),?_⟩ oM)
     .exact congrArg (fun n=>D.rs U 0 n) wH.symm
     dsimp only;rw[Vm,wH];refine X.HS j3 oS oG oG ?_ ?_ (fun q hq uT _=>?_)
     .rw[hz];exact al _ _ _
     .rw[hz];exact ai oG (al _ _ _)
     .exact ai oG (ai oG (ai oG rfl))
    .have aG:(ap (L n)).map I≠[]:=by simpa using hz
     have zl:jc (J n) ((ap (L n)).map I)=.rs (J n) 0 (ap (L n)).length:=by rw[Da aG,List.length_map]
     rw[zl] at kd;have gT:=X.AY n j3 aG;have hρn:=X.lt n j3 aG;have hρ1:=X.ne n j3 aG;refine bt ?_;refine ax (mr rfl rfl (ai oG (ai oG (ai oG aq))) V.h V.h) ak ⟨V.h,oG⟩ ?_;refine bL (eF (d:=.rs _ _ _) (cs':=_) rfl rfl (ai oG (ai oG (ai oG aq))) rfl rfl) ak (bY V.h V.h (by first|(simp;done)|exact⟨rfl,bF rfl⟩|(simp;omega)) rfl) ?_;refine af ?_;refine ag ?_;refine af (bh (i+1,U,up (up (up (up m' C (some (.cells [I i] 3))) (J n) none) (C+1) (some (.cells ((ap (L n)).map I++[I i]) 3))) U (some (.cells ((nM J (fun k=>(ap (L k)).map I) c').set n (.rs (C+1) 0 ((ap (L n)).length+1))) 43)),C+2) (aw ⟨?_,rfl,rfl,rfl,trivial⟩) ⟨oM,up J n (C+1),?_⟩ oM)
     .exact congrArg (fun n=>D.rs U 0 n) wH.symm
     dsimp only;rw[Vm,wH];refine X.HS j3 oS oG oG ?_ ?_ (fun q hq uT y3=>?_)
     .have e:((ap (L n)++[(i:Int)]).map I).length=(ap (L n)).length+1:=by simp
      rw[e];exact al _ _ _
     .rw[List.map_append];exact ai oG (al _ _ _)
     .have:=y3 aG;exact ai oG (ai oG (ai oG (ai oG rfl)))
  .have bq:¬ i<ks.length:=by simpa using h
   have:i=ks.length:=by omega
   subst this;exact⟨j,m,nx,ρ,aw eH,M⟩
 .rintro s ⟨j,m,nx,ρ,hg,M⟩;have uN:jv ks ks.length=(bm ks).length:=by unfold jv;rw[List.take_length]
  rw[uN] at hg M;have wQ:¬ ∃ i,i<(bm ks).length/\(ap (k7 (bp ks) ks.length i)).map I≠[]/\ρ i=j:=fun⟨i,h1,h2,h3⟩=>M.ne i h1 h2 h3;refine⟨_,hg.trans (Pp (l:=[(3,.rs j 0 (bm ks).length)]) (ml:=[]) (fun r=>∃ i,i<(bm ks).length/\(ap (k7 (bp ks) ks.length i)).map I≠[]/\ρ i=r) M (fun _=>.map) c3 (fun i h1 h2=>⟨i,h1,h2,rfl⟩) wQ ⟨rfl,trivial⟩ (fun x hx=>?_) trivial (fun x hx=>by cases hx)),az ?_⟩
  .simp at hx;subst hx;exact .rs wQ
  refine ag ?_;refine af (bJ (dE [(j,_,43)] ⟨zW,trivial⟩ (l:=[(2,bT (hM (bp ks) (bm ks).length))]) ⟨?_,trivial⟩) (aJ rfl rfl));show sub (cJ j _ (prog.cellsOf 43)) (D.rs j 0 (bm ks).length)=_;rw[jR (by rw[s8];simp),Qt,ads,Jo]
end Go.Proofs.Tryz.K
end
