/- Part 4. -/
import Derived.Test.YtnagfmlifobdiaaGreatDoorCoarsest3
import Derived.Lib.ItoaNum
import Derived.Lib.Join
set_option linter.all false
set_option maxHeartbeats 8000000
set_option maxRecDepth 10000
open List(range)
open List(replicate)
section
open Go Go.Abs Go.Proofs Go.Argus
namespace Go.Argus
open Go.Proofs.Tryz.K (nextR)
structure CS where
 wsq:List (List Int)
 re:List Bool
 ch:Bool
def gy(x:End)(w:List Int)(s:CS)(n:Int):CS:=
 if s.re.getD n.toNat false=false\/mC (s.wsq.getD n.toNat []) (ij x n w)≠s.wsq.getD n.toNat [] then⟨s.wsq.set n.toNat (mC (s.wsq.getD n.toNat []) (ij x n w)),s.re.set n.toNat true,true⟩ else s
def iC(bs:List bI)(s:CS)(k:Nat):CS:=match bs[k]? with
 |none=>s
 |some x=>if s.re.getD k false=true then(nextR x.fin).foldl (gy x.fin (mr x (s.wsq.getD k [])).1) s else s
def px(bs:List bI)(s:CS):CS:=(range bs.length).foldl (iC bs) ⟨s.wsq,s.re,false⟩
def qG(bs:List bI):Nat->CS->CS
 |0,s=>s
 |k+1,s=>if(px bs s).ch=true then qG bs k (px bs s) else px bs s
def nK:Int:=18446744073709551615
def lW:Nat->List Int
 |0=>replicate 20 0
 |k+1=>qV (lW k) k
@[simp] theorem Pw : ∀ k, (lW k).length = 20
 |0=>rfl
 |k+1=>by simp[lW,Pw k]
def u6(n args:Nat):CS:=⟨(replicate n (replicate 20 nK)).set 0 (lW args),(replicate n false).set 0 true,true⟩
def kC(u:Int):Prop:=0<=u/\u<18446744073709551616
structure ma(n:Nat)(s:CS):Prop where
 lw:s.wsq.length=n
 lr:s.re.length=n
 mj:∀ w∈s.wsq,w.length=20
 rg:∀ w∈s.wsq,∀ u∈w,kC u
def mM(w:List Int):Nat:=(w.map Int.toNat).sum
def wU(s:CS):Nat:=(s.wsq.map mM).sum+s.re.count false
def qt(s:CS):Nat:=wU s+if s.ch=true then 1 else 0
theorem RH{l:List Nat}{k x y:Nat}(h:l[k]? =some x):(l.set k y).sum+x=l.sum+y:=by
 induction l generalizing k with
 |nil=>simp at h
 |cons a l ih=>cases k with
  |zero=>simp at h;subst h;simp;omega
  |succ k=>have:=ih (k:=k) (by simpa using h);simp;omega
theorem abg{l:List Int}{k:Nat}{x y:Int}(h:l[k]? =some x):mM (l.set k y)+x.toNat=mM l+y.toNat:=by
 unfold mM;rw[List.map_set];exact RH (by simp[h])
theorem ZH{a b:Int}(h:kC a):kC (wm a b)/\wm a b<=a:=by
 have:=acu (b:=b) h;exact⟨⟨this.1,by unfold kC at h;omega⟩,this.2⟩
theorem abh{α:Type}{l:List α}{k:Nat}{x:α}(h:l[k]? =some x):l.set k x=l:=by
 apply List.ext_getElem?;intro i;rw[List.getElem?_set];split
 .rename_i e;subst e;rw[if_pos (bC.1 h).1,h]
 .rfl
theorem QC{w v:List Int}(J:∀ u∈w,kC u):∀ k,k<=w.length->(∀ u∈gS w v k,kC u)/\mM (gS w v k)<=mM w/\(gS w v k≠w->mM (gS w v k)<mM w)
 |0,_=>⟨J,bd _,fun h=>absurd rfl h⟩
 |k+1,hk=>by
  obtain⟨h1,h2,M⟩:=QC (v:=v) J k oG;have hl:k<(gS w v k).length:=by simp;omega
  have hx:(gS w v k)[k]? =some (gS w v k)[k]:=a7 hl;have hg:(gS w v k).getD k 0=(gS w v k)[k]:=by simp[dC,hx]
  have hm:=h1 _ (gh hl);simp only[gS,hg];generalize (gS w v k)[k]=a at hx hm;obtain⟨r1,r2⟩:=ZH (b:=v.getD k 0) hm;generalize wm a (v.getD k 0)=y at r1 r2;have hs:=abg (y:=y) hx;unfold kC at r1 hm;refine⟨fun u hu=>?_,oG,fun C=>?_⟩
  .rcases List.mem_or_eq_of_mem_set hu with h|h
   .exact h1 u h
   .subst h;exact r1
  .by_cases e:y=a
   .subst e;have:(gS w v k).set k y=gS w v k:=abh hx;rw[this] at C ⊢;exact M C
   .omega
theorem abi{l:List (List Int)}{k:Nat}{w v:List Int}(h:l[k]? =some w):((l.set k v).map mM).sum+mM w=(l.map mM).sum+mM v:=by
 rw[List.map_set];exact RH (by simp[h])
theorem count_set{l:List Bool}{k:Nat}{b:Bool}(h:l[k]? =some b):(l.set k true).count false+(if b=true then 0 else 1)=l.count false:=by
 induction l generalizing k with
 |nil=>simp at h
 |cons a l ih=>cases k with
  |zero=>simp at h;subst h;cases a<;>simp
  |succ k=>have:=ih (k:=k) (by simpa using h);simp only[List.set_cons_succ,List.count_cons];omega
theorem OR{x:End}{w:List Int}{s:CS}{n:Nat}{t:Int}(hs:ma n s)(ht:0<=t/\t<n):ma n (gy x w s t)/\qt (gy x w s t)<=qt s:=by
 obtain⟨lw,lr,mj,rg⟩:=hs;obtain⟨k,rfl⟩:=jH ht.1;have hk:k<n:=by omega
 have hx:s.wsq[k]? =some s.wsq[k]:=a7 oG;have hb:s.re[k]? =some s.re[k]:=a7 oG;have X:s.wsq.getD k []=s.wsq[k]:=by simp[dC,hx]
 have U:s.re.getD k false=s.re[k]:=by simp[dC,hb]
 have hm:s.wsq[k]∈s.wsq:=gh _;unfold gy;simp only[jZ,X,U];generalize s.wsq[k]=v at hx hm;generalize s.re[k]=b at hb;have v20:=mj v hm;obtain⟨C,M,J⟩:=QC (v:=ij x k w) (rg v hm) 20 oG;have hl:=Px v (ij x k w)
 change (∀ u∈mC v (ij x k w),kC u) at C
 change mM (mC v (ij x k w))<=mM v at M
 change mC v (ij x k w)≠v->mM (mC v (ij x k w))<mM v at J
 generalize mC v (ij x k w)=u at C M J hl;split
 .rename_i hc;refine⟨⟨by simp[lw],by simp[lr],JY mj oG,fun y hy=>?_⟩,?_⟩
  .rcases List.mem_or_eq_of_mem_set hy with h|h
   .exact rg y h
   .subst h;exact C
  .have h1:=abi (v:=u) hx;have h2:=count_set hb;unfold qt wU;simp only[if_true];rcases hc with hc|hc
   .subst hc;simp only[Bool.false_eq_true,if_false] at h2;omega
   .have:=J hc;omega
 .exact⟨⟨lw,lr,mj,rg⟩,bd _⟩
theorem ET{α β:Type}{f:β->α->β}{J:β->Prop}{φ:β->Nat}{l:List α}(h:∀ x∈l,∀ s,J s->J (f s x)/\φ (f s x)<=φ s){s:β}(hs:J s):J (l.foldl f s)/\φ (l.foldl f s)<=φ s:=by
 induction l generalizing s with
 |nil=>exact⟨hs,bd _⟩
 |cons x l ih=>
  obtain⟨h1,h2⟩:=h x oS s hs;obtain⟨C,M⟩:=ih (fun y hy=>h y (by simp[hy])) h1;exact⟨C,Nat.le_trans M h2⟩
theorem I4(x:End):(nextR x).length<=x.aR.length+3:=by
 have h1:=RF (d:=nu (ez x)) (nu (ez x)).length;have h2:=JT x;rw[Pr] at h1;exact Nat.le_trans (by simpa[nextR,z6,nb] using h1) h2
structure yf(n:Nat)(b:bI):Prop where
 len:b.ins.length<=100000
 ins:∀ x∈b.ins,pU x
 fin:Dk b.fin
 rl:∀ x∈b.ins,(ed x).length<=100000
 rf:(dT b.fin).length<=100000
 to:∀ t∈nextR b.fin,0<=t/\t<n
theorem QD{bs:List bI}{s:CS}{n k:Nat}(hb:∀ b∈bs,yf n b)(hs:ma n s):ma n (iC bs s k)/\qt (iC bs s k)<=qt s:=by
 unfold iC;split
 .exact⟨hs,bd _⟩
 .rename_i x hx;split
  .exact ET (J:=ma n) (φ:=qt) (fun t ht s hs=>OR hs ((hb x (bu hx)).to t ht)) hs
  .exact⟨hs,bd _⟩
theorem Ir{bs:List bI}{s:CS}{n:Nat}(hb:∀ b∈bs,yf n b)(hs:ma n s):ma n (px bs s)/\qt (px bs s)<=wU s:=by
 have:=ET (J:=ma n) (φ:=qt) (f:=iC bs) (l:=range bs.length) (fun k _ s hs=>QD hb hs) (s:=⟨s.wsq,s.re,false⟩) ⟨hs.lw,hs.lr,hs.mj,hs.rg⟩;exact this
def pa(bs:List bI)(args:Nat):CS:=qG bs (wU (u6 bs.length args)+1) (u6 bs.length args)
theorem getD_some{α:Type}{l:List α}{k:Nat}{x d:α}(h:l[k]? =some x):l.getD k d=x:=by simp[dC,h]
theorem acv{α:Type}{n k:Nat}{x y:α}(hk:k<n):(replicate k x++replicate (n - k) y).set k x=replicate (k+1) x++replicate (n - (k+1)) y:=by
 rw[show n - k=n - (k+1)+1 by omega,List.replicate_succ,List.replicate_succ',List.append_assoc,List.singleton_append];rw[List.set_append];simp
theorem abj{α:Type}{a b:Nat}{x y z:α}(h:z∈replicate a x++replicate b y):z=x\/z=y:=by
 rcases List.mem_append.1 h with h|h
 .exact .inl (List.eq_of_mem_replicate h)
 .exact .inr (List.eq_of_mem_replicate h)
theorem Xp{x:End}{w v:List Int}{s:CS}{k:Nat}{b:Bool}(hx:s.wsq[k]? =some v)(hb:s.re[k]? =some b)(h:b=false\/mC v (ij x k w)≠v):gy x w s k=⟨s.wsq.set k (mC v (ij x k w)),s.re.set k true,true⟩:=by
 unfold gy;rw[jZ,getD_some hx,getD_some hb,if_pos h]
theorem Yf{x:End}{w v:List Int}{s:CS}{k:Nat}{b:Bool}(hx:s.wsq[k]? =some v)(hb:s.re[k]? =some b)(h:¬ (b=false\/mC v (ij x k w)≠v)):gy x w s k=s:=by
 unfold gy;rw[jZ,getD_some hx,getD_some hb,if_neg h]
theorem Oi{n args:Nat}(ha:∀ u∈lW args,kC u):ma n (u6 n args):=by
 refine⟨by simp[u6],by simp[u6],JY (fun w C=>by rw[List.eq_of_mem_replicate C];simp) oS,fun w C u hu=>?_⟩;rcases List.mem_or_eq_of_mem_set C with h|h
 .rw[List.eq_of_mem_replicate h] at hu;rw[List.eq_of_mem_replicate hu];simp[kC,nK]
 .rw[h] at hu;exact ha u hu
end Go.Argus
namespace Go.Proofs.Tryz.K
theorem A8{p q:D}{f:ap}{n args:Nat}(hp:Tr p)(hq:Tr q)(eJ:p.one=true)(bL:q.one=true)(hn:f.blocks.length=n)(y7:0<n)(y8:n<=100000)(ha:f.args=args)(yX:args<=1000)(zg:∀ u∈lW args,kC u)(hb:∀ b∈f.blocks,yf n b):
 aB prog 132 [.agg (aY p q f)] (.aL [.sl (cS (pa f.blocks args).wsq) n,.sl ((pa f.blocks args).re.map B) n]):=by
 have bg:∀ a∈[D.agg (aY p q f)],Tr a:=.cons (j9 hp hq f) .nil;refine bl afM bg (.aL (.cons (.sl (adA _)) (.cons (.sl (.map fun _=>.s _)) .nil))) ?_;rw[afN];refine az ?_;refine ax ?_;refine aa (bJ (dD [(0,aY p q f,113)] eH (l:=[(1,.pt (aY p q f))]) eH) (BK ZI ?_));refine ba ?_;refine eI (B7 rfl rfl V.h V.h) ak ⟨oG,rfl,oG,by rw[Uz];omega,V.h⟩ ?_;refine ba ?_;refine eI (B7 rfl rfl V.h V.h) ak ⟨oG,rfl,oG,by rw[b4];omega,V.h⟩ ?_;refine ab ?_;have hM:((f.blocks.length:Nat):Int).toNat=n:=hn;refine cz cJ (bJ (bZ (l:=[(1,.pt (aY p q f)),(4,.rs 1 0 n),(5,.rs 2 0 n)]) (ml:=[(1,.cells (cS (replicate n (replicate 20 0))) 201),(2,.cells ((replicate n false).map B) 4)]) ⟨rfl,?_,?_,trivial⟩ ⟨?_,?_,trivial⟩) (aF (az ?_)))
 .exact congrArg (fun k=>D.rs 1 0 k) hM
 .exact congrArg (fun k=>D.rs 2 0 k) hM
 .exact congrArg (fun c=>some (Row.cells c 201)) ((congrArg (fun k=>dx k ((replicate 20 (0:Int)).map cL)) hM).trans (abe n (replicate 20 0)))
 .exact congrArg (fun c=>some (Row.cells c 4)) ((congrArg (fun k=>dx k [B false]) hM).trans (acr n false))
 refine SS ?_;refine aw (Gc rfl rfl) ak V.h ?_;refine SS ?_
 refine aa (cn (fun s=>aJ prog s ⟨ay [(1,.pt (aY p q f)),(4,.rs 1 0 n),(5,.rs 2 0 n)],br [(1,.cells (cS (replicate n (replicate 20 nK))) 201),(2,.cells ((replicate n false).map B) 4)],3⟩) (cy (α:=Nat)
  (fun k=>⟨ay [(1,.pt (aY p q f)),(4,.rs 1 0 n),(5,.rs 2 0 n),(27,I n),(28,I k)],br [(1,.cells (cS (replicate k (replicate 20 nK)++replicate (n - k) (replicate 20 0))) 201),(2,.cells ((replicate n false).map B) 4)],3⟩)
  (fun k=>k<=n) (fun k=>n - k) 0 (bZ eH eH) oG ?_) ?_)
 .intro k hk;refine SS ?_;refine aa ⟨_,rfl,fun h=>?_,fun h=>?_⟩
  .have af:k<n:=by simpa using h
   have ajF:=acv (x:=replicate 20 nK) (y:=replicate 20 (0:Int)) af
   have hi:(replicate k (replicate 20 nK)++replicate (n - k) (replicate 20 (0:Int)))[k]? =some (replicate 20 0):=by
    rw[List.getElem?_append_right oS,List.length_replicate,Nat.sub_self,show n - k=n - (k+1)+1 by omega,List.replicate_succ];rfl
   have wR:∀ w∈replicate k (replicate 20 nK)++replicate (n - k) (replicate 20 (0:Int)),w.length=20:=fun w U=>by
    rcases abj U with h|h<;>(rw[h];simp)
   have LI:aB prog 178 [] (gq (replicate 20 nK)):=LI;refine ws ?_;refine ab ?_;refine aa (fF ?_);refine ab ?_;refine cl LI ?_;refine ab ?_;refine aa ?_;refine ab ?_;refine aa (bi (k+1) (bZ eH ⟨?_,rfl,trivial⟩) oG oG);rw[<- ajF];rfl
  .have bq:¬ k<n:=by simpa using h
   have:k=n:=by omega
   subst this;refine bZ eH ⟨?_,rfl,trivial⟩;show some (Row.cells (cS (_++replicate (k - k) _)) _)=_;rw[Nat.sub_self,List.replicate_zero,List.append_nil]
 rintro s hg;refine⟨_,hg,az ?_⟩;have hi:(replicate n (replicate 20 nK))[0]? =some (replicate 20 nK):=by simp[y7]
 have wR:∀ w∈replicate n (replicate 20 nK),w.length=20:=fun w U=>by rw[List.eq_of_mem_replicate U];simp
 refine ab ?_;refine aw (abf ajE rfl afJ) ak ⟨V.h,V.h⟩ ?_;refine ab ?_;refine aw (mu rfl rfl rfl V.h V.h) ak ⟨V.h,oG⟩ ?_;refine bN (eK (d:=.s (.bool _)) (cs':=_) rfl rfl rfl rfl rfl) ak (bX V.h V.h (by first|(simp;done)|exact⟨rfl,bF rfl⟩|(simp;omega)) rfl) ?_;refine aa (bJ (bZ (l:=[(1,.pt (aY p q f)),(4,.rs 1 0 n),(5,.rs 2 0 n)]) (ml:=[(1,.cells (cS ((replicate n (replicate 20 nK)).set 0 (lW 0))) 201),(2,.cells (((replicate n false).set 0 true).map B) 4)]) eH ⟨rfl,?_,trivial⟩) (aF (az ?_)))
 .rw[List.map_set];rfl
 clear hi;refine ba ?_
 refine aa (cn (fun s=>aJ prog s ⟨ay [(1,.pt (aY p q f)),(4,.rs 1 0 n),(5,.rs 2 0 n)],br [(1,.cells (cS ((replicate n (replicate 20 nK)).set 0 (lW args))) 201),(2,.cells (((replicate n false).set 0 true).map B) 4)],3⟩) (cy (α:=Nat)
  (fun k=>⟨ay [(1,.pt (aY p q f)),(4,.rs 1 0 n),(5,.rs 2 0 n),(43,I args),(44,I k)],br [(1,.cells (cS ((replicate n (replicate 20 nK)).set 0 (lW k))) 201),(2,.cells (((replicate n false).set 0 true).map B) 4)],3⟩)
  (fun k=>k<=args) (fun k=>args - k) 0 (bZ ⟨rfl,rfl,rfl,congrArg I ha,rfl,trivial⟩ eH) oG ?_) ?_)
 .intro k hk;refine SS ?_;refine aa ⟨_,rfl,fun h=>?_,fun h=>?_⟩
  .have af:k<args:=by simpa using h
   have hi:((replicate n (replicate 20 nK)).set 0 (lW k))[0]? =some (lW k):=by simp[y7]
   have wR:=JY (i:=0) wR (Pw k);have p7:=p7 (w:=lW k) (n:=(k:Int)) oS oG;refine ws ?_;refine ab ?_;refine aa (fF ?_);refine ax ?_;refine aw (fg rfl rfl V.h V.h (GW oN oN)) ak (fh V.h V.h (xW oN oN)) ?_;refine SS ?_;refine cl p7 ?_;refine ab ?_;refine aa ?_;refine ab ?_;refine aa (bi (k+1) (bZ eH ⟨?_,rfl,trivial⟩) oG oG);show some (Row.cells (cS ((List.set _ 0 (lW k)).set 0 (lW (k+1)))) _)=_;rw[List.set_set]
  .have bq:¬ k<args:=by simpa using h
   have:k=args:=by omega
   subst this;exact au eH
 clear wR;rintro s hg;refine⟨_,hg,aF (az ?_)⟩;refine SS ?_;have hi0:=Oi (n:=n) zg;have hR:pa f.blocks args=qG f.blocks (wU (u6 n args)+1) (u6 n args):=by rw[pa,hn]
 generalize pa f.blocks args=R at hR ⊢
 refine aa (cn (fun s=>∃ n',aJ prog s ⟨ay [(4,.rs 1 0 n),(5,.rs 2 0 n)],br [(1,.cells (cS R.wsq) 201),(2,.cells (R.re.map B) 4)],n'⟩/\ma n R) (abS (α:=CS×Nat)
  (fun s=>⟨ay [(1,.pt (aY p q f)),(4,.rs 1 0 n),(5,.rs 2 0 n),(8,B s.1.ch)],br [(1,.cells (cS s.1.wsq) 201),(2,.cells (s.1.re.map B) 4)],s.2⟩)
  (fun s=>ma n s.1/\3<=s.2/\(s.1.ch=true->∃ k,wU s.1<k/\qG f.blocks k s.1=R)/\(s.1.ch=false->s.1=R)) (fun s=>2*wU s.1+if s.1.ch=true then 1 else 0) (u6 n args,3)
  (bZ eH eH) ⟨hi0,bd _,fun _=>⟨_,Nat.lt_succ_self _,hR.symm⟩,fun h=>by cases h⟩ ?_) ?_)
 .rintro⟨C,N0⟩ ⟨yB,VE,VF,UA⟩;dsimp only at yB VE VF UA ⊢;refine SS ?_;refine aa ⟨_,rfl,fun h0=>?_,fun h=>?_⟩
  .obtain⟨eh,amn,Ty⟩:=VF h0;obtain⟨eh,rfl⟩:∃ j,eh=j+1:=⟨eh - 1,oG⟩
   have Tz:=Ir hb yB;refine ws ?_;refine SS ?_;refine aa (az ?_);refine bx ?_
   refine aa (cy (α:=Nat×Nat)
    (fun k=>⟨ay [(1,.pt (aY p q f)),(4,.rs 1 0 n),(5,.rs 2 0 n),(8,B ((range k.1).foldl (iC f.blocks) ⟨C.wsq,C.re,false⟩).ch),(58,cG f.blocks),(59,I n),(60,I k.1)],br [(1,.cells (cS ((range k.1).foldl (iC f.blocks) ⟨C.wsq,C.re,false⟩).wsq) 201),(2,.cells (((range k.1).foldl (iC f.blocks) ⟨C.wsq,C.re,false⟩).re.map B) 4)],k.2⟩)
    (fun k=>k.1<=n/\3<=k.2) (fun k=>n - k.1) (0,N0) (bZ ⟨rfl,rfl,rfl,rfl,rfl,congrArg (fun k:Nat=>I k) hn,rfl,trivial⟩ eH) ⟨Nat.zero_le _,VE⟩ ?_)
   rintro⟨k,N⟩ ⟨hk,hN⟩;dsimp only at hk hN ⊢;have bK:=(ET (J:=ma n) (φ:=qt) (f:=iC f.blocks) (l:=range k) (fun k _ s hs=>QD hb hs) (s:=⟨C.wsq,C.re,false⟩) ⟨yB.lw,yB.lr,yB.mj,yB.rg⟩).1;have fV:(range (k+1)).foldl (iC f.blocks) ⟨C.wsq,C.re,false⟩=iC f.blocks ((range k).foldl (iC f.blocks) ⟨C.wsq,C.re,false⟩) k:=by rw[List.range_succ,List.foldl_append];rfl
   have TA:k=n->(range k).foldl (iC f.blocks) ⟨C.wsq,C.re,false⟩=px f.blocks C:=fun e=>by rw[e,px,hn]
   generalize (range k).foldl (iC f.blocks) ⟨C.wsq,C.re,false⟩=u at bK fV TA;refine SS ?_;refine aa ⟨_,rfl,fun h=>?_,fun h=>?_⟩
   .have af:k<n:=by simpa using h
    have hx:f.blocks[k]? =some f.blocks[k]:=a7 oG;have iO:f.blocks[k]∈f.blocks:=gh _;generalize f.blocks[k]=x at hx iO;have iS:=hb x iO;have M:iC f.blocks u k=if u.re.getD k false=true then(nextR x.fin).foldl (gy x.fin (mr x (u.wsq.getD k [])).1) u else u:=by rw[iC,hx]
    have lw:=bK.lw;have lr:=bK.lr;have mj:=bK.mj;have U:u.wsq[k]? =some u.wsq[k]:=a7 oG;have mV:u.re[k]? =some u.re[k]:=a7 oG;rw[getD_some U,getD_some mV] at M;have zt:=mj _ (gh (h:=by omega):u.wsq[k]∈u.wsq);generalize u.wsq[k]=w at U M zt;generalize u.re[k]=b at mV M;have kd:=mZ (f:=B) mV;refine ws ?_;refine cw ?_;refine aa (aF (aj ?_));refine ab ?_;refine aw (mu rfl rfl (ag oG (ag oG rfl)) V.h V.h) ak ⟨V.h,oG⟩ ?_;refine aw (j5 rfl (ag oG (ag oG rfl)) kd V.h) ak (j6 V.h V.h kd) ?_;refine SS ?_;refine aa (cQ rfl (fun h=>ta (Gg ?_)) fun h=>cx (BK Yg ?_))
    .have Nu:b=false:=by simpa using h
     subst Nu;have M:iC f.blocks u k=u:=M;refine ab ?_;refine aa (bi (k+1,N+1) (bZ ⟨rfl,rfl,rfl,?_,rfl,rfl,rfl,trivial⟩ ⟨?_,?_,trivial⟩) ⟨oM,oM⟩ oM)
     .dsimp only;rw[fV,M];rfl
     .dsimp only;rw[fV,M];exact ag oG (ag oG rfl)
     .dsimp only;rw[fV,M];exact ag oG (ag oG rfl)
    have Nv:b=true:=by simpa using h
    subst Nv;have M:iC f.blocks u k=(nextR x.fin).foldl (gy x.fin (mr x w).1) u:=M;have nJ:=nJ zt iS.len iS.ins iS.fin iS.rl iS.rf;have ur:=Im x w;rw[zt] at ur;generalize VD:mr x w=th at nJ ur M;obtain⟨w',Nt⟩:=th;dsimp only at ur nJ M;clear kd;refine aw (fg (vs:=bS _) rfl (ah _ _ _) V.h V.h rfl) ak (fh V.h V.h (by first|(simp;done)|omega|exact bF rfl)) ?_;refine ab ?_;refine aw (Cp rfl rfl (ag oG (ag oG (ah _ _ _))) V.h V.h) ak ⟨V.h,oG⟩ ?_;refine aw (fg rfl (ag oG (ag oG (ah _ _ _))) V.h V.h (GW oN oN)) ak (fh V.h V.h (xW oN oN)) ?_;refine cl nJ ?_;refine cw ?_;refine cz cJ (bJ (tg (l:=[(1,.pt (aY p q f)),(4,.rs 1 0 n),(5,.rs 2 0 n),(8,B u.ch),(10,.rp N 0),(11,.rp (N+1) 0),(58,cG f.blocks),(59,I n),(60,I k)]) (m':=up (up (br [(1,.cells (cS u.wsq) 201),(2,.cells (u.re.map B) 4)]) N (some (.cells (bS x) 59))) (N+1) (some (.cells (w'.map cL) 201))) eH (by rw[tY,tY])) (az ?_));have uj:=uj (x:=x.fin);have uq:=Ss (x:=x.fin) iS.fin.wh
    change aB _ _ _ (aP (nextR x.fin)) at uq
    have iR:=iS.to;have kJ:=I4 x.fin;have hwh:=iS.fin.wh;generalize nextR x.fin=l at uq M iR kJ;refine aw (rK rfl (ag oG (ah _ _ _)) V.h) ak (pQ V.h) ?_;refine aw (fg (vs:=bD _) rfl (ag oG (ah _ _ _)) V.h V.h rfl) ak (fh V.h V.h (by first|(simp;done)|omega|exact bF rfl)) ?_;refine cl uj ?_;refine cl uq ?_;refine ab ?_;have LL:iC f.blocks u k=l.foldl (gy x.fin w') u:=M
    refine aa (cy (α:=Nat×Nat)
     (fun j=>⟨ay [(1,.pt (aY p q f)),(4,.rs 1 0 n),(5,.rs 2 0 n),(8,B ((l.take j.1).foldl (gy x.fin w') u).ch),(10,.rp N 0),(11,.rp (N+1) 0),(58,cG f.blocks),(59,I n),(60,I k),(82,aP l),(83,I l.length),(84,I j.1)],up (up (br [(1,.cells (cS ((l.take j.1).foldl (gy x.fin w') u).wsq) 201),(2,.cells (((l.take j.1).foldl (gy x.fin w') u).re.map B) 4)]) N (some (.cells (bS x) 59))) (N+1) (some (.cells (w'.map cL) 201)),j.2⟩)
     (fun j=>j.1<=l.length/\N+2<=j.2) (fun j=>l.length - j.1) (0,N+2) (tg eH rfl) ⟨Nat.zero_le _,bd _⟩ ?_)
    rintro⟨j,N'⟩ ⟨hj,hN'⟩;dsimp only at hj hN' ⊢;have H':=(ET (J:=ma n) (φ:=qt) (f:=gy x.fin w') (l:=l.take j) (fun t ht s hs=>OR hs (iR t (List.mem_of_mem_take ht))) bK).1;have X:∀ t,l[j]? =some t->(l.take (j+1)).foldl (gy x.fin w') u=gy x.fin w' ((l.take j).foldl (gy x.fin w') u) t:=fun t ht=>BU ht;have Dl:j=l.length->(l.take j).foldl (gy x.fin w') u=iC f.blocks u k:=fun e=>by rw[LL,dt oG]
    generalize (l.take j).foldl (gy x.fin w') u=v at H' X Dl;clear lw lr mj U mV;have lw:=H'.lw;have lr:=H'.lr;have mj:=H'.mj;refine SS ?_;refine aa ⟨_,rfl,fun h=>?_,fun h=>?_⟩
    .have dj:j<l.length:=by simpa using h
     have ht:l[j]? =some l[j]:=a7 dj;have El:=iR _ (gh dj);generalize l[j]=t at ht El;obtain⟨i,rfl⟩:=jH El.1;have dq:i<n:=by omega
     have U:v.wsq[i]? =some v.wsq[i]:=a7 oG;have mV:v.re[i]? =some v.re[i]:=a7 oG;have Nw:=mj _ (gh (h:=by omega):v.wsq[i]∈v.wsq);generalize v.wsq[i]=y at U Nw;generalize v.re[i]=b at mV;have kd:=mZ (f:=B) mV;have wl:=wl (x:=x.fin) (b:=(i:Int)) (w:=w') ur (by have:=iS.fin.wh;omega) (by have:=iS.fin.wr;omega);have VG:=Pu x.fin i w';rw[ur] at VG;have Hd:=Hd Nw VG;have DN:=Px y (ij x.fin i w');rw[Nw] at DN;have yes:=Xp (x:=x.fin) (w:=w') U mV;have no:=Yf (x:=x.fin) (w:=w') U mV;generalize mC y (ij x.fin i w')=z at Hd DN yes no;refine ws ?_;refine ax ?_;refine aa (BK Yh ?_);refine ab ?_;refine aw (Cp rfl rfl (ag oG (ag oG (ah _ _ _))) V.h V.h) ak ⟨V.h,oG⟩ ?_;refine aw (fg rfl (ag oG (ag oG (ah _ _ _))) V.h V.h (GW oN oN)) ak (fh V.h V.h (xW oN oN)) ?_;refine aw (rK rfl (ag oG (ah _ _ _)) V.h) ak (pQ V.h) ?_;refine aw (fg (vs:=bD _) rfl (ag oG (ah _ _ _)) V.h V.h rfl) ak (fh V.h V.h (by first|(simp;done)|omega|exact bF rfl)) ?_;refine SS ?_;refine aw (fg rfl (ah _ _ _) V.h V.h (nr (by first|rfl|exact bF rfl|(simp;done)|(simp;omega)|omega))) ak (fh V.h V.h (by first|rfl|exact bF rfl|(simp;done)|(simp;omega)|omega)) ?_;refine cl wl ?_;refine cl Hd ?_;refine ab ?_;refine cz cJ (bJ (tg (l:=[(1,.pt (aY p q f)),(4,.rs 1 0 n),(5,.rs 2 0 n),(8,B v.ch),(10,.rp N 0),(11,.rp (N+1) 0),(14,I i),(15,.rp N' 0),(58,cG f.blocks),(59,I n),(60,I k),(82,aP l),(83,I l.length),(84,I j)]) (m':=up (up (up (br [(1,.cells (cS v.wsq) 201),(2,.cells (v.re.map B) 4)]) N (some (.cells (bS x) 59))) (N+1) (some (.cells (w'.map cL) 201))) N' (some (.cells (z.map cL) 201))) eH (tY _ _ _ _)) (eA Yi ?_));refine ab ?_;refine aw (mu rfl rfl (ag oG (ag oG (ag oG rfl))) V.h V.h) ak ⟨V.h,oG⟩ ?_;refine aw (j5 rfl (ag oG (ag oG (ag oG rfl))) kd V.h) ak (j6 V.h V.h kd) ?_;refine ab ?_;refine bt rfl rfl (fg rfl (ah _ _ _) V.h V.h (nr (by first|rfl|exact bF rfl|(simp;done)|(simp;omega)|omega))) (fun hc=>⟨ak,(fh V.h V.h (by first|rfl|exact bF rfl|(simp;done)|(simp;omega)|omega))⟩) ?_;refine ab ?_;refine bt rfl rfl (Cp rfl rfl (ag oG (ag oG (ag oG (ah _ _ _)))) V.h V.h) (fun hc=>⟨ak,⟨V.h,oG⟩⟩) ?_;refine bt rfl rfl (fg rfl (ag oG (ag oG (ag oG (ah _ _ _)))) V.h V.h (GW oN oN)) (fun hc=>⟨ak,(fh V.h V.h (xW oN oN))⟩) ?_;refine bt rfl rfl (afK rfl rfl (by first|assumption|(simp;omega)|omega)) (fun hc=>⟨ak,(afL (by first|assumption|(simp;omega)|omega))⟩) ?_;refine SS ?_;refine cz cJ (aO rfl (fun h=>?_) fun h=>?_)
     .have yes:=yes (by
       cases b with
       |false=>exact .inl rfl
       |true=>exact .inr (by simpa using h))
      have X:=(X _ ht).trans yes;clear yes no;refine fF ?_;refine ba ?_;refine aw (fg rfl (ah _ _ _) V.h V.h (nr (by first|rfl|exact bF rfl|(simp;done)|(simp;omega)|omega))) ak (fh V.h V.h (by first|rfl|exact bF rfl|(simp;done)|(simp;omega)|omega)) ?_;refine aw (Cp rfl rfl (ag oG (ag oG (ag oG (ah _ _ _)))) V.h V.h) ak ⟨V.h,oG⟩ ?_;refine bN (fq rfl rfl (ag oG (ag oG (ag oG (ah _ _ _)))) (S4 oC oN oN (by first|assumption|(simp;omega)|(simp;done)))) ak (B8 (by first|(simp;omega)|(simp;done)) (xW oN oN) (nF _)) ?_;refine aw (mu rfl rfl (ag oG (ag oG (ag oG (ag oG rfl)))) V.h V.h) ak ⟨V.h,oG⟩ ?_;refine bN (eK (d:=.s (.bool _)) (cs':=_) rfl rfl (ag oG (ag oG (ag oG (ag oG rfl)))) rfl rfl) ak (bX V.h V.h (by first|(simp;done)|exact⟨rfl,bF rfl⟩|(simp;omega)) rfl) ?_;refine SS ?_;refine aa ?_;refine ab ?_
      refine aa (bi (j+1,N'+1) (bZ (ml:=[(N+1,.cells (w'.map cL) 201),(N,.cells (bS x) 59),(1,.cells (cS ((l.take (j+1)).foldl (gy x.fin w') u).wsq) 201),(2,.cells (((l.take (j+1)).foldl (gy x.fin w') u).re.map B) 4)]) ⟨rfl,rfl,rfl,?_,rfl,rfl,rfl,rfl,rfl,rfl,rfl,rfl,trivial⟩
       ⟨ag oG (ag oG (ag oG (ah _ _ _))),ag oG (ag oG (ag oG (ag oG (ah _ _ _)))),ag oG ?_,?_,trivial⟩) ⟨oM,oM⟩ oM)
      .dsimp only;rw[X];rfl
      .rw[X];exact ah _ _ _
      .rw[X];dsimp only;rw[List.map_set];exact ah _ _ _
     .have no:=no (by
       cases b with
       |false=>simp at h
       |true=>simpa using h)
      have X:=(X _ ht).trans no;refine cT ?_;refine ab ?_
      refine aa (bi (j+1,N'+1) (bZ (ml:=[(N+1,.cells (w'.map cL) 201),(N,.cells (bS x) 59),(1,.cells (cS ((l.take (j+1)).foldl (gy x.fin w') u).wsq) 201),(2,.cells (((l.take (j+1)).foldl (gy x.fin w') u).re.map B) 4)]) ⟨rfl,rfl,rfl,?_,rfl,rfl,rfl,rfl,rfl,rfl,rfl,rfl,trivial⟩
       ⟨ag oG (ah _ _ _),ag oG (ag oG (ah _ _ _)),?_,?_,trivial⟩) ⟨oM,oM⟩ oM)
      .dsimp only;rw[X];rfl
      .rw[X];exact ag oG (ag oG (ag oG rfl))
      .rw[X];exact ag oG (ag oG (ag oG rfl))
    .have bq:¬ j<l.length:=by simpa using h
     have vl:=Dl oG;subst vl;show aq _ _ _ _ _ _ _ _ _;refine ab ?_;refine aa (bi (k+1,N') (bZ ⟨rfl,rfl,rfl,?_,rfl,rfl,rfl,trivial⟩ ⟨?_,?_,trivial⟩) ⟨oM,oM⟩ oM)
     .dsimp only;rw[fV];rfl
     .dsimp only;rw[fV];exact ag oG (ag oG rfl)
     .dsimp only;rw[fV];exact ag oG (ag oG rfl)
   .have bq:¬ k<n:=by simpa using h
    have hl:=TA oG;subst hl;refine bi (px f.blocks C,N) (bZ eH eH) ⟨bK,hN,fun hc=>?_,fun hc=>?_⟩ ?_
    .refine⟨eh,?_,?_⟩
     .have:=Tz.2;unfold qt at this;show wU (px f.blocks C)<eh;rw[if_pos hc] at this;omega
     .dsimp only at hc ⊢;rw[<- Ty,qG,if_pos hc]
    .dsimp only at hc ⊢;rw[<- Ty,qG,if_neg (by simp[hc])]
    .have:=Tz.2;unfold qt at this;dsimp only;rw[if_pos h0];split at this<;>rename_i hc
     .rw[if_pos hc];omega
     .rw[if_neg hc];omega
  .have hR':=UA h;subst hR';exact⟨N0,bZ eH eH,yB⟩
 .rintro s ⟨n',hg,L4⟩;refine⟨_,hg,az ?_⟩;refine ba ?_;refine aa (bJ (dD [(1,cS R.wsq,201),(2,R.re.map B,4)] ⟨rfl,acs oG rfl .map,trivial⟩ (l:=[(2,.sl (cS R.wsq) n),(3,.sl (R.re.map B) n)]) ⟨?_,?_,trivial⟩) (gl rfl rfl rfl))
  .show sub (cF 2 (R.re.map B) (prog.cellsOf 4)) (sub (cF 1 (cS R.wsq) (prog.cellsOf 201)) (D.rs 1 0 n))=_;rw[jM (by rw[q9,I2 L4.mj,L4.lw]),adB]
  .show sub (cF 2 (R.re.map B) (prog.cellsOf 4)) (sub (cF 1 (cS R.wsq) (prog.cellsOf 201)) (D.rs 2 0 n))=_;rw[I3 oG,jM (by rw[c4,List.length_map,L4.lr,Nat.mul_one])]
end Go.Proofs.Tryz.K
namespace Go.Abs
def jc(r:Nat)(l:List D):D:=match l with
 |[]=>.z
 |_=>.rs r 0 l.length
theorem Df{r:Nat}{l:List D}(h:l≠[]):jc r l=.rs r 0 l.length:=by cases l with
 |nil=>exact absurd rfl h
 |cons=>rfl
def nI(ρ:Nat->Nat)(L:Nat->List D)(n:Nat):List D:=(range n).map fun i=>jc (ρ i) (L i)
@[simp] theorem amf (ρ : Nat -> Nat) (L : Nat -> List D) (n : Nat) : (nI ρ L n).length = n := by simp [nI]
theorem Qt{ρ:Nat->Nat}{L:Nat->List D}{n i:Nat}(hi:i<n):∃ cs,(nI ρ L n).drop i=jc (ρ i) (L i)::cs:=
 ⟨_,mZ (f:=fun i=>jc (ρ i) (L i)) (by simp[hi])⟩
theorem ZJ{α:Type}{F:Nat->α}{n i:Nat}{x:α}:((range n).map F).set i x=(range n).map (up F i x):=by
 apply List.ext_getElem?;intro k;rw[List.getElem?_set];simp only[List.length_map,List.length_range,List.getElem?_map];split
 .rename_i e;subst e;split
  .rename_i h;simp[h,ah]
  .rename_i h;simp[h]
 .rename_i e;by_cases hk:k<n
  .simp[hk,aA F x (Ne.symm e)]
  .simp[hk]
theorem acw{ρ:Nat->Nat}{L:Nat->List D}{n i r:Nat}{l:List D}(hl:l≠[]):(nI ρ L n).set i (.rs r 0 l.length)=nI (up ρ i r) (up L i l) n:=by
 unfold nI;rw[ZJ];refine congrArg (fun F=>(range n).map F) (funext fun k=>?_);simp only[up];split
 .rw[Df hl]
 .rfl
structure jL(m:Mem)(nx j n:Nat)(e et:TypeId)(ρ:Nat->Nat)(L:Nat->List D):Prop where
 row:m j=some (.cells (nI ρ L n) e)
 zl:j<nx
 A0:∀ i,i<n->L i≠[]->m (ρ i)=some (.cells (L i) et)
 lt:∀ i,i<n->L i≠[]->ρ i<nx
 ne:∀ i,i<n->L i≠[]->ρ i≠j
 inj:∀ i k,i<n->k<n->L i≠[]->L k≠[]->ρ i=ρ k->i=k
theorem jL.ext{m m':Mem}{nx C j n:Nat}{e et:TypeId}{ρ:Nat->Nat}{L:Nat->List D}(h:jL m nx j n e et ρ L)(hm:∀ q,q<nx->m' q=m q)(hn:nx<=C):jL m' C j n e et ρ L:=
 ⟨(hm j h.zl).trans h.row,Nat.lt_of_lt_of_le h.zl hn,fun i hi hl=>(hm _ (h.lt i hi hl)).trans (h.A0 i hi hl),fun i hi hl=>Nat.lt_of_lt_of_le (h.lt i hi hl) hn,h.ne,h.inj⟩
theorem jL.HU{m m':Mem}{nx ai j n i r:Nat}{e et:TypeId}{ρ:Nat->Nat}{L:Nat->List D}{l:List D}(h:jL m nx j n e et ρ L)(hi:i<n)(hl:l≠[])(hr:nx<=r)(jk:r<ai)
 (hj:m' j=some (.cells ((nI ρ L n).set i (.rs r 0 l.length)) e)) (ao:m' r=some (.cells l et)) (hk:∀ q,q<nx->q≠j->(L i≠[]->q≠ρ i)->m' q=m q):jL m' ai j n e et (up ρ i r) (up L i l):=by
 have dj:=h.zl
 have old:∀ k,k<n->k≠i->L k≠[]->m' (ρ k)=some (.cells (L k) et):=fun k M J C=>
  (hk _ (h.lt k M C) (h.ne k M C) fun Lp e=>J (h.inj k i M hi C Lp e)).trans (h.A0 k M C)
 refine⟨by rw[hj,acw hl],oG,fun k M C=>?_,fun k M C=>?_,fun k M C=>?_,fun a b ha hb zk po X=>?_⟩
 .by_cases J:k=i
  .subst J;rw[ah,ah];exact ao
  .rw[aA _ _ J] at C ⊢;rw[aA _ _ J];exact old k M J C
 .by_cases J:k=i
  .subst J;rw[ah];exact jk
  .rw[aA _ _ J] at C ⊢;have:=h.lt k M C;omega
 .by_cases J:k=i
  .subst J;rw[ah];omega
  .rw[aA _ _ J] at C ⊢;exact h.ne k M C
 .by_cases Eb:a=i
  .by_cases U:b=i
   .omega
   .subst Eb;rw[ah,aA _ _ U] at X;rw[aA _ _ U] at po;have:=h.lt b hb po;omega
  .by_cases U:b=i
   .subst U;rw[ah,aA _ _ Eb] at X;rw[aA _ _ Eb] at zk;have:=h.lt a ha zk;omega
   .rw[aA _ _ Eb] at zk X;rw[aA _ _ U] at po X;exact h.inj a b ha hb zk po X
theorem abk{m:Mem}{nx j n:Nat}{e et:TypeId}{ρ:Nat->Nat}(hj:j<nx)(hm:m j=some (.cells (replicate n .z) e)):jL m nx j n e et ρ (fun _=>[]):=by
 refine⟨?_,hj,fun _ _ h=>absurd rfl h,fun _ _ h=>absurd rfl h,fun _ _ h=>absurd rfl h,fun _ _ _ _ h=>absurd rfl h⟩;rw[hm];congr 2;unfold nI jc;rw[List.map_const',List.length_range]
theorem acx(n:Nat):dx n [.z]=replicate n D.z:=by
 unfold dx
 induction n with
 |zero=>rfl
 |succ n ih=>rw[List.replicate_succ,List.replicate_succ,List.flatten_cons,ih];rfl
def fI(X:Nat->Prop)(d:D):Prop:=∀ i cs sz,X i->sub (cF i cs sz) d=d
def lO(X:Nat->Prop)(r:Row):Prop:=∀ i cs sz,X i->Row.sub (cF i cs sz) r=r
theorem fI.s{X:Nat->Prop}(v:Value):fI X (.s v):=fun _ _ _ _=>rfl
theorem fI.sl{X:Nat->Prop}(es:List D)(n:Nat):fI X (.sl es n):=fun _ _ _ _=>rfl
theorem fI.z{X:Nat->Prop}:fI X .z:=fun _ _ _ _=>rfl
theorem fI.u{X:Nat->Prop}:fI X .u:=fun _ _ _ _=>rfl
theorem fI.rs{X:Nat->Prop}{j off n:Nat}(h:¬ X j):fI X (.rs j off n):=fun i cs sz hi=>I3 fun e=>h (e▸hi)
theorem lO.cells{X:Nat->Prop}{cs:List D}{e:TypeId}(h:∀ d∈cs,fI X d):lO X (.cells cs e):=fun i C sz hi=>by
 show Row.cells (cs.map _) e=_;congr 1
 induction cs with
 |nil=>rfl
 |cons d cs ih=>rw[List.map_cons,h d oS i C sz hi,ih fun d hd=>h d (by simp[hd])]
theorem lO.ajG{X:Nat->Prop}{cs:List D}{e:TypeId}(h:yA cs):lO X (.cells cs e):=lO.cells fun d hd=>by obtain⟨v,rfl⟩:=h d hd;exact .s v
theorem tB(d:D):Wk d d:=fun _ _ _ _ h=>h
theorem AY:Wk .z (.sl [] 0):=fun F β w v hv=>by
 obtain⟨x,rfl⟩:=hv.tQ;exact .gf x 0
theorem Yj{X:Nat->Prop}{l:List (Nat×D)}(h:∀ x∈l,fI X x.2)(t:Nat):fI X (ay l t):=by
 induction l with
 |nil=>exact .u
 |cons x l ih=>
  obtain⟨k,d⟩:=x;simp only[ay];split
  .exact h (k,d) oS
  .exact ih fun y hy=>h y (by simp[hy])
theorem Yk{X:Nat->Prop}{l:List (Nat×Row)}(h:∀ x∈l,lO X x.2){q:Nat}{r:Row}(hq:br l q=some r):lO X r:=by
 induction l with
 |nil=>simp[br] at hq
 |cons x l ih=>
  obtain⟨k,d⟩:=x;simp only[br] at hq;split at hq
  .cases hq;exact h (k,r) oS
  .exact ih (fun y hy=>h y (by simp[hy])) hq
theorem ZK{l:List (Nat×Row)}{q:Nat}(h:∀ x∈l,x.1≠q):br l q=none:=by
 induction l with
 |nil=>rfl
 |cons x l ih=>
  obtain⟨k,d⟩:=x;simp only[br];rw[if_neg fun e=>h (k,d) oS e.symm];exact ih fun y hy=>h y (by simp[hy])
section
variable{P:Program}
open Classical in
noncomputable def jX(ml:List (Nat×Row))(j n k:Nat)(e et:TypeId)(ρ:Nat->Nat)(L:Nat->List D):Mem:=fun q=>
 if q=j then some (.cells ((range n).map fun i=>if i<k then .sl (L i) (L i).length else jc (ρ i) (L i)) e)
 else if h:∃ i,k<=i/\i<n/\L i≠[]/\ρ i=q then some (.cells (L (Classical.choose h)) et)
 else br ml q
theorem abl{m:Mem}{nx j n k:Nat}{e et:TypeId}{ρ:Nat->Nat}{L:Nat->List D}{l:List (Nat×D)}{ml:List (Nat×Row)}{X:Nat->Prop}(h:jL m nx j n e et ρ L)(hs:∀ i,yA (L i))(het:P.cellsOf et=1)
 (U:∀ i,i<n->L i≠[]->X (ρ i)) (wO:¬ X j) (hl:∀ x∈l,fI X x.2) (ia:∀ x∈ml,lO X x.2/\¬ X x.1) (hk:k<n):
 aJ P ⟨ay l,jX ml j n k e et ρ L,nx⟩ ⟨ay l,jX ml j n (k+1) e et ρ L,nx⟩:=by
 by_cases C:L k=[]
 .refine .nw _ _ _ _ _ (fun t=>tB _) fun q=>?_;by_cases hq:q=j
  .subst hq;right;refine⟨_,_,e,by simp only[jX,if_true];rfl,by simp only[jX,if_true];rfl,oS,fun i d d' hd fa=>?_⟩;simp only[List.getElem?_map,cO] at hd fa;obtain⟨a,ha,rfl⟩:=hd;obtain⟨b,hb,rfl⟩:=fa;rw[ha] at hb;cases hb;by_cases h1:a<k
   .rw[if_pos h1,if_pos oG];exact tB _
   .rw[if_neg h1];by_cases h2:a=k
    .subst h2;rw[if_pos oG,C];exact AY
    .rw[if_neg oG];exact tB _
  .left;simp only[jX,if_neg hq]
   have:(∃ i,k+1<=i/\i<n/\L i≠[]/\ρ i=q)↔(∃ i,k<=i/\i<n/\L i≠[]/\ρ i=q):=by
    constructor
    .rintro⟨i,h1,h2⟩;exact⟨i,oG,h2⟩
    .rintro⟨i,h1,h2,J,M⟩
     exact⟨i,by
      rcases Nat.lt_or_ge k i with g|g
      .exact g
      .have:i=k:=by omega
       subst this;exact absurd C J,h2,J,M⟩
   by_cases hc:∃ i,k<=i/\i<n/\L i≠[]/\ρ i=q
   .rw[dif_pos (this.2 hc),dif_pos hc];have e1:=Classical.choose_spec hc;have e2:=Classical.choose_spec (this.2 hc);have:Classical.choose (this.2 hc)=Classical.choose hc:=h.inj _ _ e2.2.1 e1.2.1 e2.2.2.1 e1.2.2.1 (e2.2.2.2.trans e1.2.2.2.symm);rw[this]
   .rw[dif_neg (fun h=>hc (this.1 h)),dif_neg hc]
 .have VH:ρ k≠j:=h.ne k hk C
  have ao:jX ml j n k e et ρ L (ρ k)=some (.cells (L k) et):=by
   have hc:∃ i,k<=i/\i<n/\L i≠[]/\ρ i=ρ k:=⟨k,bd _,hk,C,rfl⟩
   simp only[jX,if_neg VH,dif_pos hc];have e1:=Classical.choose_spec hc;have:Classical.choose hc=k:=h.inj _ _ e1.2.1 hk e1.2.2.1 C e1.2.2.2;rw[this]
  have hg:=aJ.freeze (P:=P) (ay l) (jX ml j n k e et ρ L) nx (ρ k) (L k) et ao;have e1:(fun t=>sub (cF (ρ k) (L k) (P.cellsOf et)) (ay l t))=ay l:=funext fun t=>Yj hl t _ _ _ (U k hk C)
  have e2:(fun q=>if q=ρ k then none else(jX ml j n k e et ρ L q).map (Row.sub (cF (ρ k) (L k) (P.cellsOf et))))=jX ml j n (k+1) e et ρ L:=by
   funext q;by_cases En:q=ρ k
   .subst En;rw[if_pos rfl]
    have hc:¬ ∃ i,k+1<=i/\i<n/\L i≠[]/\ρ i=ρ k:=by
     rintro⟨i,g1,g2,g3,g4⟩;have:=h.inj _ _ g2 hk g3 C g4;omega
    simp only[jX,if_neg VH,dif_neg hc];exact(ZK fun x hx e=>(ia x hx).2 (e▸U k hk C)).symm
   .rw[if_neg En];by_cases uP:q=j
    .subst uP;simp only[jX,if_true,Option.map_some];congr 1;show Row.cells (List.map _ (List.map _ _)) e=_;rw[List.map_map];congr 1;refine List.map_congr_left fun i hi=>?_;have dq:i<n:=by simpa using hi
     simp only[Function.comp_apply];by_cases h1:i<k
     .rw[if_pos h1,if_pos oG];rfl
     .rw[if_neg h1];by_cases h2:i=k
      .subst h2;rw[if_pos oG,Df C,het];exact jM oG
      .rw[if_neg oG];by_cases J:L i=[]
       .rw[J];rfl
       .rw[Df J];exact I3 fun e=>h2 (h.inj _ _ dq hk J C e)
    .simp only[jX,if_neg uP]
     have this:(∃ i,k+1<=i/\i<n/\L i≠[]/\ρ i=q)↔(∃ i,k<=i/\i<n/\L i≠[]/\ρ i=q):=by
      constructor
      .rintro⟨i,h1,h2⟩;exact⟨i,oG,h2⟩
      .rintro⟨i,h1,h2,J,M⟩
       exact⟨i,by
        rcases Nat.lt_or_ge k i with g|g
        .exact g
        .have:i=k:=by omega
         subst this;exact absurd M.symm En,h2,J,M⟩
     by_cases hc:∃ i,k<=i/\i<n/\L i≠[]/\ρ i=q
     .rw[dif_pos (this.2 hc),dif_pos hc];have e1:=Classical.choose_spec hc;have e2:=Classical.choose_spec (this.2 hc);have:Classical.choose (this.2 hc)=Classical.choose hc:=h.inj _ _ e2.2.1 e1.2.1 e2.2.2.1 e1.2.2.1 (e2.2.2.2.trans e1.2.2.2.symm);rw[this];exact congrArg some (lO.ajG (X:=X) (hs _) _ _ _ (U k hk C))
     .rw[dif_neg (fun h=>hc (this.1 h)),dif_neg hc];cases hm:br ml q with
      |none=>rfl
      |some r=>exact congrArg some (Yk (fun x hx=>(ia x hx).1) hm _ _ _ (U k hk C))
  rw[e1,e2] at hg;exact hg
theorem Po{env:Env}{m:Mem}{nx j n:Nat}{e et:TypeId}{ρ:Nat->Nat}{L:Nat->List D}{l:List (Nat×D)}{ml:List (Nat×Row)}(X:Nat->Prop)(h:jL m nx j n e et ρ L)(hs:∀ i,yA (L i))(C:P.cellsOf et=1)
 (J:∀ i,i<n->L i≠[]->X (ρ i)) (U:¬ X j) (he:kW l env) (hl:∀ x∈l,fI X x.2) (hm:CI ml m) (M:∀ x∈ml,lO X x.2/\¬ X x.1):
 aJ P ⟨env,m,nx⟩ ⟨ay l,br ((j,.cells ((range n).map fun i=>.sl (L i) (L i).length) e)::ml),nx⟩:=by
 have key:∀ k,k<=n->aJ P ⟨ay l,jX ml j n 0 e et ρ L,nx⟩ ⟨ay l,jX ml j n k e et ρ L,nx⟩:=fun k=>by
  induction k with
  |zero=>exact fun _=>.refl _
  |succ k ih=>exact fun hk=>(ih oG).trans (abl h hs C J U hl M oG)
 have h0:aJ P ⟨env,m,nx⟩ ⟨ay l,jX ml j n 0 e et ρ L,nx⟩:=by
  refine(aJ.forget env _ m nx (py he)).trans (.drop _ _ _ _ fun q=>?_);by_cases hq:q=j
  .subst hq;left;simp only[jX,if_true,Nat.not_lt_zero,if_false];exact h.row.symm
  .simp only[jX,if_neg hq];by_cases hc:∃ i,0<=i/\i<n/\L i≠[]/\ρ i=q
   .rw[dif_pos hc];have e1:=Classical.choose_spec hc;left;have:=h.A0 _ e1.2.1 e1.2.2.1;rw[e1.2.2.2] at this;exact this.symm
   .rw[dif_neg hc];exact JO hm q
 refine h0.trans ((key n (bd _)).trans (.drop _ _ _ _ fun q=>.inl ?_));by_cases hq:q=j
 .subst hq;simp only[br,jX,if_true];congr 2;exact List.map_congr_left fun i hi=>by rw[if_pos (by simpa using hi)]
 .simp only[br,if_neg hq,jX];rw[dif_neg];rintro⟨i,g1,g2,_⟩;omega
end
section
variable{P:Program}{env:Env}{m:Mem}{nx:Nat}{x y:Operand}{t e:TypeId}{k:IntKind}
theorem QE{w:List Int}{rest:List D}{sz:Nat}(h:w.length=sz):(w.map cL++rest).take sz=w.map cL:=by
 rw[List.take_append_of_le_length (by simp[h]),dt (by simp[h])]
theorem Su{sz n i:Nat}{l:List (List Int)}{w:List Int}(hx:(opd env x).core=.sl (cS l) n)(hy:(opd env y).core=.s (.int k i))(he:aD P t=e)(hs:P.cellsOf e=sz)(hl:∀ w∈l,w.length=sz)(hz:l[i]? =some w):
 Ef P (.indexAddr t x y) env m nx ⟨bh P t=true/\0<=(i:Int)/\(i:Int)<n/\((i:Int).toNat+1)*sz<=(cS l).length,.pt (w.map cL++cS (l.drop (i+1))),[],[],0⟩:=
 KJ hx hy he hs (by rw[jZ];exact JX hl hz)
theorem Sv{sz n i:Nat}{l:List (List Int)}{w:List Int}(ht:bh P t=true)(hl:∀ w∈l,w.length=sz)(hz:l[i]? =some w)(hn:i<n):bh P t=true/\0<=(i:Int)/\(i:Int)<n/\((i:Int).toNat+1)*sz<=(cS l).length:=by
 have:=xW hl hz;refine⟨ht,oG,oG,?_⟩;rw[jZ,Nat.add_mul,Nat.one_mul];exact this
theorem fu{i:Nat}{cs:List D}{l:List (Nat×D)}(hm:m i=some (.cells cs e))(hl:kW l fun t=>sub (cF i cs (P.cellsOf e)) (env t)):aJ P ⟨env,m,nx⟩ ⟨ay l,fun _=>none,nx⟩:=
 dD [(i,cs,e)] ⟨hm,trivial⟩ hl
theorem fQ{l:List (Nat×D)}(hl:kW l env):aJ P ⟨env,m,nx⟩ ⟨ay l,fun _=>none,nx⟩:=QF hl fun _=>.inr rfl
end
section
variable{P:Program}{env:Env}{m:Mem}{nx:Nat}{x y:Operand}{t e:TypeId}{k:IntKind}
theorem abo{α:Type}{f:α->D}{l:List α}{b:Int}(hx:(opd env x).core=.sl (l.map f) l.length)(he:aD P t=e)(hs:P.cellsOf e=1)(hb:(opd env y).core=.s (.int .i64 b))(hc:bh P t=true)(C:0<=b/\b<=l.length):
 Ef P (.slice t x none (some y) none) env m nx ⟨True,.sl ((l.take b.toNat).map f) (l.take b.toNat).length,[],[],0⟩:=by
 have h:=JC (P:=P) (env:=env) (m:=m) (nx:=nx) (t:=t) (lo:=none) (hi:=some y) (a:=0) (b:=b) (es':=(l.take b.toNat).map f) hx he hs (by simp[dW]) (by simp[dW,hb,D.int?]) (by simp[List.map_take])
 have h2:(bh P t=true/\(0:Int)<=0/\(0:Int)<=b/\b<=(l.length:Int))=True:=by
  apply propext;constructor
  .exact fun _=>trivial
  .exact fun _=>⟨hc,oG,C.1,C.2⟩
 have J:(b - 0).toNat=(l.take b.toNat).length:=by rw[List.length_take];omega
 rw[h2,J] at h;exact h
theorem E7{i j sz:Nat}{C:List D}{r:Row}(J:j≠i)(hm:m j=some r)(h:Row.sub (cF i C sz) r=r):(if j=i then none else(m j).map (Row.sub (cF i C sz)))=some r:=by
 rw[if_neg J,hm];exact congrArg some h
theorem qB{i:Nat}{cs:List D}{l:List (Nat×D)}{ml:List (Nat×Row)}(hm:m i=some (.cells cs e))(hl:kW l fun t=>sub (cF i cs (P.cellsOf e)) (env t))(C:CI ml fun j=>if j=i then none else(m j).map (Row.sub (cF i cs (P.cellsOf e)))):aJ P ⟨env,m,nx⟩ ⟨ay l,br ml,nx⟩:=
 (aJ.freeze env m nx i cs e hm).trans (bZ hl C)
end
end Go.Abs
namespace Go.Argus
open Go.Proofs.Tryz.K (nextR)
def jw(b:Nat)(L:Nat->List Int)(t:Int):Nat->List Int:=up L t.toNat (L t.toNat++[(b:Int)])
def pH(bs:List bI)(L:Nat->List Int)(b:Nat):Nat->List Int:=match bs[b]? with
 |none=>L
 |some x=>(nextR x.fin).foldl (jw b) L
def dd(bs:List bI)(k:Nat):Nat->List Int:=(range k).foldl (pH bs) fun _=>[]
def kX(bs:List bI):List (List Int):=(range bs.length).map (dd bs bs.length)
def bM(L:List (List Int)):D:=.sl (L.map aP) L.length
theorem nX(L:List (List Int)):Tr (bM L):=.sl (.map fun _=>dn _)
theorem Qu{F:Nat->List Int}{n:Nat}:(D.sl ((range n).map fun i=>.sl ((F i).map I) ((F i).map I).length) n)=bM ((range n).map F):=by
 unfold bM;rw[List.map_map,List.length_map,List.length_range];congr 1;exact List.map_congr_left fun i _=>by simp[aP]
theorem OS{b:Nat}{L:Nat->List Int}{t:Int}{c:Nat}(h:∀ i,(L i).length<=c):∀ i,(jw b L t i).length<=c+1:=fun i=>by
 unfold jw;simp only[up];split
 .have:=h t.toNat;simp;omega
 .have:=h i;omega
theorem adC{L:Nat->List Int}{k:Nat}{l:List Int}:(fun i=>(up L k l i).map I)=up (fun i=>(L i).map I) k (l.map I):=by
 funext i;simp only[up];split<;>rfl
theorem qw{P:Nat->Bool}{n k:Nat}(hk:k<n)(h:P k=false):(range n).all P=false:=by
 refine Bool.eq_false_iff.2 fun ht=>?_;have:=bQ.1 ht k (by simpa using hk);rw[h] at this;cases this
theorem oL{P:Nat->Bool}{k:Nat}(h:(range k).all P=true)(hk:P k=true):(range (k+1)).all P=true:=by
 rw[List.range_succ,List.all_append,h];simp[hk]
abbrev rM(l:List Bool):D:=.sl (l.map B) l.length
def k9:bI:=⟨[],⟨0,0,0,0,0,.empty,xF,[],[],0⟩⟩
def tD(bs:List bI)(s:CS)(b:Nat)(y:cU)(i:Nat):Bool:=
 let p:=((dd bs bs.length b).getD i 0).toNat
 !(s.re.getD p false)||p0 (ij (bs.getD p k9).fin b (mr (bs.getD p k9) (s.wsq.getD p [])).1) (y.args.getD i 0).toNat
def ua(bs:List bI)(s:CS)(b:Nat)(y:cU):Bool:=(range (dd bs bs.length b).length).all (tD bs s b y)
def kv(y:cU):Bool:=y.op==19
def rN(bs:List bI)(s:CS)(b:Nat):Bool:=
 !(s.re.getD b false)||((mr (bs.getD b k9) (s.wsq.getD b [])).2&&((bs.getD b k9).ins.takeWhile kv).all (ua bs s b))
def tq(bs:List bI)(args:Nat):Bool:=(range bs.length).all (rN bs (pa bs args))
theorem takeWhile_eq{α:Type}{p:α->Bool}{l:List α}{j:Nat}(h:∀ y∈l.take j,p y=true)(h':∀ y,l[j]? =some y->p y=false):l.takeWhile p=l.take j:=by
 induction l generalizing j with
 |nil=>simp
 |cons a l ih=>cases j with
  |zero=>have:=h' a rfl;simp[this]
  |succ j=>
   have ha:=h a oS;rw[List.takeWhile_cons,if_pos ha,List.take_succ_cons,ih (j:=j) (fun y hy=>h y (by simp[hy])) (fun y hy=>h' y (by simpa using hy))]
theorem OT{b:Nat}{p:Int}:∀ {l:List Int} {L:Nat->List Int} {i:Nat},p∈(l.foldl (jw b) L) i↔p∈L i\/(p=b/\∃ t∈l,t.toNat=i)
 |[],L,i=>by simp
 |t::l,L,i=>by
  rw[List.foldl_cons,OT (l:=l)];unfold jw;simp only[up];by_cases h:i=t.toNat
  .subst h;simp only[if_true,List.mem_append,List.mem_singleton];constructor
   .rintro((h|h)|⟨h,u,h1,h2⟩)
    .exact .inl h
    .exact .inr ⟨h,t,oS,rfl⟩
    .exact .inr ⟨h,u,by simp[h1],h2⟩
   .rintro(h|⟨h,u,h1,h2⟩)
    .exact .inl (.inl h)
    .exact .inl (.inr h)
  .rw[if_neg h];constructor
   .rintro(h'|⟨h',u,h1,h2⟩)
    .exact .inl h'
    .exact .inr ⟨h',u,by simp[h1],h2⟩
   .rintro(h'|⟨h',u,h1,h2⟩)
    .exact .inl h'
    .rcases List.mem_cons.1 h1 with e|e
     .subst e;exact absurd h2.symm h
     .exact .inr ⟨h',u,e,h2⟩
theorem IH{bs:List bI}{p:Int}{i:Nat}:∀ {k:Nat},p∈dd bs k i↔∃ b:Nat,p=b/\b<k/\∃ x,bs[b]? =some x/\∃ t∈nextR x.fin,t.toNat=i
 |0=>by simp[dd]
 |k+1=>by
  have ih:=IH (bs:=bs) (p:=p) (i:=i) (k:=k);have e:dd bs (k+1)=pH bs (dd bs k) k:=by rw[dd,List.range_succ,List.foldl_append];rfl
  rw[e,pH];cases hx:bs[k]? with
  |none=>
   simp only;rw[ih];constructor
   .rintro⟨b,h1,h2,C⟩;exact⟨b,h1,oG,C⟩
   .rintro⟨b,h1,h2,x,C,J⟩;refine⟨b,h1,?_,x,C,J⟩;rcases Nat.lt_or_ge b k with g|g
    .exact g
    .have:b=k:=by omega
     subst this;rw[hx] at C;cases C
  |some x=>
   simp only;rw[OT,ih];constructor
   .rintro(⟨b,h1,h2,C⟩|⟨h1,h2⟩)
    .exact⟨b,h1,oG,C⟩
    .exact⟨k,h1,oG,x,hx,h2⟩
   .rintro⟨b,h1,h2,M,C,J⟩;rcases Nat.lt_or_ge b k with g|g
    .exact .inl ⟨b,h1,g,M,C,J⟩
    .have:b=k:=by omega
     subst this;rw[hx] at C;cases C;exact .inr ⟨h1,J⟩
theorem Oj{bs:List bI}{n:Nat}(hb:∀ b∈bs,yf n b):∀ (k:Nat) {s:CS},ma n s->ma n (qG bs k s)
 |0,_,h=>h
 |k+1,s,h=>by
  rw[qG];split
  .exact Oj hb k (Ir hb h).1
  .exact(Ir hb h).1
theorem abm{bs:List bI}{args:Nat}(hb:∀ b∈bs,yf bs.length b)(C:∀ u∈lW args,kC u):ma bs.length (pa bs args):=Oj hb _ (Oi C)
theorem Py{b:Nat}:∀ {l:List Int} {L:Nat->List Int} {c:Nat},(∀ i,(L i).length<=c)->∀ i,((l.foldl (jw b) L) i).length<=c+l.length
 |[],_,_,h,i=>h i
 |t::l,L,c,h,i=>by
  have:=Py (b:=b) (l:=l) (OS (t:=t) (b:=b) h) i;rw[List.foldl_cons,List.length_cons];omega
theorem OU{bs:List bI}(C:∀ b∈bs,b.fin.aR.length<=9):∀ (k i:Nat),(dd bs k i).length<=12*k
 |0,_=>by simp[dd]
 |k+1,i=>by
  have ih:=OU C k;have e:dd bs (k+1)=pH bs (dd bs k) k:=by rw[dd,List.range_succ,List.foldl_append];rfl
  rw[e,pH];cases hx:bs[k]? with
  |none=>have:=ih i;simp only;omega
  |some x=>
   have h1:=Py (l:=nextR x.fin) (b:=k) ih i;have h2:=I4 x.fin;have J:=C x (bu hx);simp only;omega
theorem OV{bs:List bI}{n k:Nat}(hn:bs.length=n)(hk:k<n):(kX bs)[k]? =some (dd bs n k):=by
 subst hn;simp[kX,hk]
def u7(f:ap):Bool:=decide (f.result=1)||(decide (f.result=2)||(decide (f.result=0)&& !f.iter))
def tE(f:ap):Bool:=
 n6 f.name&&(jo f.args 0 (if(f.aU.length:Int)<6 then(f.aU.length:Int) else 6)&&(u7 f&&(!decide ((1200:Int)<f.aU.length)&&(!decide ((60:Int)<f.cg.length)&&jo f.blocks.length 1 1200))))
def xm(f:ap):Bool:=
 tC f.aU 3&&(tC (f.aU.take f.args.toNat) 2&&(tC f.cg 2&&(!decide ((6:Int)<f.signals.length)&& !f.signals.any fun s=> !isName s)))
def vg(l:List ByteArray)(i:Nat):Bool:=Op.bytesLess (l.getD i .empty).toList (l.getD (i+1) .empty).toList
def JZ(f:ap):Bool:=(range (f.signals.length - 1)).all (vg f.signals)
def oX(bs:List bI)(k:Nat):List Int:=((bs.take k).filter fun x=>x.fin.kind==7).map fun x=>x.fin.a
def lJ(f:ap)(k:Nat):Bool:=
 let x:=f.blocks.getD k k9
 jb f x.fin&&(!decide ((200:Int)<x.ins.length)&& !(x.fin.kind==7&&(oX f.blocks k).any (·==x.fin.a)))
def qH(f:ap)(b:Nat)(l:List cU)(j:Nat):Bool:=kY f b (l.getD j xF) ((l.take (j+1)).all kv) (dd f.blocks f.blocks.length b).length
def tu(f:ap)(b:Nat):Bool:=(range (f.blocks.getD b k9).ins.length).all (qH f b (f.blocks.getD b k9).ins)
def nh(f:ap):Bool:=
 tE f&&(xm f&&(JZ f&&((range f.blocks.length).all (lJ f)&&(range f.blocks.length).all (tu f))))
def fi(f:ap):Int:=if nh f=true then(if tq f.blocks f.args.toNat=true then 0 else 81) else 80
def jg(l:List Int)(r:Int):Prop:=0<=r/\r<l.length
theorem ke{l:List Int}{r:Int}(h:dv l r≠0):jg l r:=Classical.byContradiction fun hn=>h (Pz hn)
theorem rO{l:List Int}{r:Int}(h:n7 l r=true):jg l r:=by
 refine ke fun e=>?_;simp[n7,e] at h
theorem tk{l rs:List Int}(h:qL l rs=true):∀ r∈rs,jg l r:=fun r hr=>rO (bQ.1 h r hr)
theorem Fb{l:List Int}{r want of:Int}(h:o2 l r want of=true)(C:want≠0):jg l r:=by
 unfold o2 at h;rw[if_neg C] at h;split at h
 .refine ke fun e=>?_;simp[e] at h
 .split at h
  .refine ke fun e=>?_;simp[e] at h
  .split at h
   .exact rO h
   .refine ke fun e=>?_;simp[e] at h
structure UE(l:List Int)(x:cU)(s:Shape):Prop where
 to:s.to≠0->jg l x.to
 a:s.a≠0->jg l x.a
 b:s.b≠0->jg l x.b
 args:s.args=5\/s.args=6->x.args.length<=6/\∀ r∈x.args,jg l r
theorem I5{l:List Int}{x:cU}{s:Shape}(h:vi l x s=true):UE l x s:=by
 unfold vi at h;simp only[bc] at h;obtain⟨h1,h2,J,C,_⟩:=h;refine⟨Fb h1,Fb h2,Fb J,fun hs=>?_⟩;unfold wY at C;rcases hs with hs|hs
 .rw[if_pos hs,bc] at C;have:=kQ.1 C.1;exact⟨oG,tk C.2⟩
 .rw[if_neg oG,if_pos hs,bc] at C;have:(x.args.length:Int)=1:=by simpa using C.1
  exact⟨oG,tk C.2⟩
theorem BP{l:List (Int×Shape)}{op:Int}{s:Shape}(h:ju l op=some s):(op,s)∈l:=by
 unfold ju at h;rw[cO] at h;obtain⟨⟨o,s'⟩,h1,rfl⟩:=h;have h2:=List.find?_some h1;have C:=List.mem_of_find?_eq_some h1;have:o=op:=by simpa using h2
 subst this;exact C
theorem Is{l:List Int}{x:cU}{s:Shape}(hl:l.length<=1200)(hm:(x.op,s)∈n8\/(x.op,s)∈nk)(h:UE l x s):pU x:=by
 obtain⟨h1,h2,M,J⟩:=h;unfold jg at h1 h2 M J;have hr:∀ {r:Int},0<=r/\r<l.length->0<=r/\r<1200:=fun h=>by omega
 have U:∀ {r:Int},0<=r/\r<l.length-> -1000000<=r/\r<1200:=fun h=>by omega
 obtain⟨op,to,a,b,n,args⟩:=x;dsimp only at h1 h2 M J hm;simp only[n8,nk,List.mem_cons,bP,List.not_mem_nil,or_false] at hm;rcases hm with hm|hm
 .rcases hm with hm|hm|hm|hm|hm|hm|hm|hm|hm|hm|hm|hm|hm|hm|hm<;>obtain⟨rfl,rfl⟩:=hm<;>refine⟨fun r C=>?_,fun h=>?_,?_,fun h=>?_⟩<;>
   simp_all[ed,j8,bO,tF,xq,tv,xe]<;>first|omega|(rcases C with rfl|rfl<;>omega)|(have:=J.2 r C;omega)
 .rcases hm with hm|hm|hm|hm|hm|hm|hm|hm|hm<;>obtain⟨rfl,rfl⟩:=hm<;>refine⟨fun r C=>?_,fun h=>?_,?_,fun h=>?_⟩<;>
   simp_all[ed,j8,bO,tF,xq,tv,xe]<;>first|omega|(rcases C with rfl|rfl<;>omega)|(rcases C with rfl|rfl|C<;>first|omega|(have:=J.2 r C;omega))
theorem gO{a b:Int}:dm a b=true↔a=b:=by simp[dm]
theorem Fw{l cg:List Int}{r n:Int}(hs:∀ k∈cg,k≠0)(h:yg l cg r n=true):jg l r/\0<=n/\n<cg.length:=by
 unfold yg at h;rw[bc,kQ] at h;obtain⟨⟨h1,h2⟩,C⟩:=h
 have J:dv cg n≠0:=by
  obtain⟨k,rfl⟩:=jH h1;have hk:k<cg.length:=by omega
  rw[Jt (a7 hk)];exact hs _ (gh hk)
 refine⟨ke ?_,h1,oG⟩;rw[show dv l r=dv cg n by simpa using C];exact J
theorem Ol{f:ap}{b ahead:Int}{x:cU}{phis:Bool}(hl:f.aU.length<=1200)(hs:∀ k∈f.cg,k≠0)(mQ:f.cg.length<=60)(h:kY f b x phis ahead=true):
 pU x/\(x.op=19->(x.args.length:Int)=ahead/\phis=true/\0<b/\jg f.aU x.to/\∀ r∈x.args,dv f.aU r=dv f.aU x.to/\jg f.aU r):=by
 unfold kY at h;split at h
 .rename_i J;simp only[bc,gO] at h;have hr:=ke (l:=f.aU) (r:=x.a) oG;unfold jg at hr;refine⟨⟨fun r h'=>?_,fun h'=>by omega,?_,fun h'=>by omega⟩,fun h'=>by omega⟩
  .simp[ed,bO,tF,J] at h';omega
  .simp[j8,bO,tv,xe,J]
 .rename_i J;split at h
  .rename_i U;simp only[bc,gO] at h;obtain⟨h1,h2,h3⟩:=Fw hs h.2.2.2;unfold jg at h1;refine⟨⟨fun r h'=>?_,fun h'=>by omega,?_,fun h'=>by omega⟩,fun h'=>by omega⟩
   .simp[ed,bO,tF,xq,U] at h'
   .simp[j8,bO,tv,U];omega
  .rename_i U;split at h
   .rename_i M;simp only[bc,gO] at h;obtain⟨h1,h2,h3⟩:=Fw hs h.2.2.2;unfold jg at h1;refine⟨⟨fun r h'=>?_,fun h'=>by omega,?_,fun h'=>by omega⟩,fun h'=>by omega⟩
    .simp[ed,bO,tF,M] at h';omega
    .simp[j8,bO,tv,xe,M]
   .rename_i M;split at h
    .rename_i C;simp only[bc,gO,decide_eq_true_eq] at h;obtain⟨g1,g2,X,g4,g5,g6,g7,g8⟩:=h;have hr:=rO X;have hk:dv f.aU x.to≠0:=fun e=>by simp[n7,e] at X
     refine⟨⟨fun r h'=>?_,fun h'=>by omega,?_,fun h'=>by omega⟩,fun _=>⟨g7,g1,g2,hr,fun r jk=>?_⟩⟩
     .simp[ed,bO,tF,xq,C] at h'
     .unfold jg at hr;simp[j8,bO,tv,C];omega
     .have:dm (dv f.aU r) (dv f.aU x.to)=true:=by
       simp only[Bool.not_eq_true',List.any_eq_false] at g8;simpa using g8 r jk
      rw[gO] at this;exact⟨this,ke (by rw[this];exact hk)⟩
    .rename_i C;rw[bc] at h;cases hs:ju n8 x.op with
     |none=>rw[hs] at h;simp at h
     |some s=>
      rw[hs] at h;exact⟨Is hl (.inl (BP hs)) (I5 h.2),fun h'=>absurd h' C⟩
structure GX(f:ap)(x:End):Prop where
 fin:Dk x
 wh:x.aR.length<=7
 to:∀ t∈ez x,0<=t/\t<f.blocks.length
theorem EH{f:ap}{x:End}(h:nY f x=true):x.aR.length<=7/\(∀ w∈x.aR,0<=w.to/\w.to<f.blocks.length)/\(0<=x.others->x.others<f.blocks.length):=by
 unfold nY at h;rw[bc,bc] at h;obtain⟨h1,h2,C⟩:=h;have h2:(x.aR.length:Int)<=7:=by simpa using h2
 refine⟨oG,fun w J=>?_,fun h0=>?_⟩
 .obtain⟨i,hi⟩:=dw J;have hm:(w,i)∈x.aR.zipIdx:=List.mem_zipIdx_iff_getElem?.2 hi;have:=bQ.1 h1 _ hm;simp only[qY,bc,ek,kQ] at this;omega
 .rw[Bool.or_eq_true] at C;rcases C with C|C
  .have:x.others= -1:=by simpa using C
   omega
  .rw[ek,kQ] at C;omega
theorem acy{x:End}(h:vP x=true):x.kind=0/\x.a=0/\x.b=0/\x.to=0/\x.gL=0/\x.others= -1/\x.args.length=0/\x.aR.length=0:=by
 simp only[vP,bc,decide_eq_true_eq] at h;omega
theorem QG{f:ap}{x:End}(hl:f.aU.length<=1200)(hr:u7 f=true)(h:jb f x=true):GX f x:=by
 have kE:∀ {r:Int},jg f.aU r->0<=r/\r<1200:=fun h=>by unfold jg at h;omega
 unfold jb at h;rw[bc] at h;obtain⟨h,hb⟩:=h;have hb:=acy hb;have U:∀ {t:Int},ek f t=true->0<=t/\t<f.blocks.length:=fun h=>by rw[ek,kQ] at h;omega
 obtain⟨kind,a,b,to,gL,name,ins,args,aR,others⟩:=x;simp only[eL] at h hb;by_cases h1:kind=1
 .subst h1;simp only[if_true] at h hb;have J:=U h;have C:aR=[]:=List.length_eq_zero_iff.1 hb.2.2.2.2.2.2.2;subst C;refine⟨⟨fun r h'=>?_,?_,oS,oS,oS⟩,oS,fun t ht=>?_⟩
  .simp[dT,bO] at h'
  .simp[jN,bO]
  .simp[ez,mT,bO] at ht;subst ht;exact J
 by_cases h2:kind=2
 .subst h2;simp only[Int.reduceEq,if_false,if_true,bc,gO] at h hb;have C:aR=[]:=List.length_eq_zero_iff.1 hb.2.2.2.2.2.2.2;subst C;have BF:=kE (ke (l:=f.aU) (r:=a) oG);have J:=U h.2.1;have sY:=U h.2.2;refine⟨⟨fun r h'=>?_,?_,oS,oS,oS⟩,oS,fun t ht=>?_⟩
  .simp[dT,bO] at h';subst h';exact BF
  .simp[jN,bO]
  .simp[ez,mT,bO] at ht;rcases ht with rfl|rfl
   .exact J
   .exact sY
 by_cases h3:kind=3
 .subst h3;simp only[Int.reduceEq,if_false,if_true] at h hb;have C:aR=[]:=List.length_eq_zero_iff.1 hb.2.2.2.2.2.2.2;subst C;refine⟨⟨fun r h'=>?_,?_,oS,oS,oS⟩,oS,fun t ht=>?_⟩
  .simp[dT,bO] at h';obtain⟨h1,rfl⟩:=h';split at h
   .rename_i hc;rw[gO] at h;exact kE (ke (by rw[h];exact hc.1))
   .rw[gO] at h;exact absurd h h1
  .simp[jN,bO]
  .simp[ez,bO] at ht
 by_cases h4:kind=4
 .subst h4;simp only[Int.reduceEq,if_false,if_true] at h hb;have C:aR=[]:=List.length_eq_zero_iff.1 hb.2.2.2.2.2.2.2;subst C;refine⟨⟨fun r h'=>?_,?_,oS,oS,oS⟩,oS,fun t ht=>?_⟩
  .simp[dT,bO] at h'
  .simp[jN,bO]
  .simp[ez,bO] at ht
 by_cases h5:kind=5
 .subst h5;simp only[Int.reduceEq,if_false,if_true,bc] at h hb;obtain⟨g1,g2,X,M⟩:=h;obtain⟨wV,Eo,Ep⟩:=EH M;have J:=U X
  have hi:pU ins:=by
   cases hs:ju nk ins.op with
   |none=>rw[hs] at g1;simp at g1
   |some s=>rw[hs] at g2;exact Is hl (.inr (BP hs)) (I5 g2)
  refine⟨⟨fun r h'=>?_,?_,?_,fun _=>hi.ar,oS⟩,wV,fun t ht=>?_⟩
  .simp[dT,bO] at h';exact hi.rd r h'
  .simp only[jN,if_true];exact hi.wr
  .dsimp only at wV ⊢;omega
  .simp[ez,mT,bO] at ht;rcases ht with rfl|⟨w,C,rfl⟩|⟨h0,rfl⟩
   .exact J
   .exact Eo w C
   .exact⟨h0,Ep h0⟩
 by_cases h6:kind=6
 .subst h6;simp only[Int.reduceEq,if_false,if_true,bc,Bool.or_eq_true,gO,decide_eq_true_eq] at h hb;obtain⟨g1,g2,X,M,g5,g6⟩:=h;obtain⟨wV,Eo,Ep⟩:=EH g6;have J:=U g5;have hv:=tk X;refine⟨⟨fun r h'=>?_,?_,?_,oS,fun _=>?_⟩,wV,fun t ht=>?_⟩
  .simp[dT,bO] at h';exact kE (hv r h')
  .simp only[jN,bO];rcases M with M|M
   .simp[M]
   .have:=kE (rO M);simp;omega
  .dsimp only at wV ⊢;omega
  .dsimp only;omega
  .simp[ez,mT,bO] at ht;rcases ht with rfl|⟨w,C,rfl⟩|⟨h0,rfl⟩
   .exact J
   .exact Eo w C
   .exact⟨h0,Ep h0⟩
 by_cases h7:kind=7
 .subst h7;simp only[Int.reduceEq,if_false,if_true,bc,gO,decide_eq_true_eq] at h hb;obtain⟨g1,g2,X,M,g5⟩:=h;have C:aR=[]:=List.length_eq_zero_iff.1 hb.2.2.2.2.2.2.2;subst C;have J:=U g5;have hv:=tk X;have BF:=kE (ke (l:=f.aU) (r:=a) oG);refine⟨⟨fun r h'=>?_,?_,oS,oS,fun _=>?_⟩,oS,fun t ht=>?_⟩
  .simp[dT,bO] at h';exact kE (hv r h')
  .simp only[jN,bO];simp;omega
  .dsimp only;omega
  .simp[ez,mT,bO] at ht;subst ht;exact J
 by_cases h8:kind=8
 .subst h8;simp only[Int.reduceEq,if_false,if_true,bc,gO] at h hb;obtain⟨g1,g2,X,M,g5⟩:=h;obtain⟨wV,Eo,Ep⟩:=EH g5;have J:=U X;have sY:=U M;have BF:=kE (ke (l:=f.aU) (r:=a) oG);have hrb:=kE (rO g2);refine⟨⟨fun r h'=>?_,?_,?_,oS,oS⟩,wV,fun t ht=>?_⟩
  .simp[dT,bO] at h';subst h';exact BF
  .simp[jN,bO];omega
  .dsimp only at wV ⊢;omega
  .simp[ez,mT,bO] at ht;rcases ht with rfl|rfl|⟨w,C,rfl⟩|⟨h0,rfl⟩
   .exact J
   .exact sY
   .exact Eo w C
   .exact⟨h0,Ep h0⟩
 by_cases h9:kind=9
 .subst h9;simp only[Int.reduceEq,if_false,if_true,bc,gO] at h hb;obtain⟨g1,g2,X⟩:=h;have C:aR=[]:=List.length_eq_zero_iff.1 hb.2.2.2.2.2.2.2;subst C;have J:=U X
  have BF:=kE (ke (l:=f.aU) (r:=a) (by
   rw[g2];intro e
   simp[u7,e,g1] at hr))
  refine⟨⟨fun r h'=>?_,?_,oS,oS,oS⟩,oS,fun t ht=>?_⟩
  .simp[dT,bO] at h';subst h';exact BF
  .simp[jN,bO]
  .simp[ez,mT,bO] at ht;subst ht;exact J
 .simp[h1,h2,h3,h4,h5,h6,h7,h8,h9] at h
theorem abp(a b:Int):kC (NB a b):=by
 unfold NB lA kC;simp only;rw[wrap_u64 (n:=(BitVec.ofInt IntKind.u64.bits a||| BitVec.ofInt IntKind.u64.bits b).toNat) (BitVec.isLt (w:=64) _)];have h:(BitVec.ofInt IntKind.u64.bits a||| BitVec.ofInt IntKind.u64.bits b).toNat<18446744073709551616:=BitVec.isLt (w:=64) _;exact⟨Int.natCast_nonneg _,Int.ofNat_lt.2 h⟩
theorem Yl{w:List Int}{n:Int}(h:∀ u∈w,kC u):∀ u∈qV w n,kC u:=fun u hu=>by
 unfold qV at hu;split at hu
 .unfold C0 at hu;rcases List.mem_or_eq_of_mem_set hu with h1|h1
  .exact h u h1
  .rw[h1];exact abp _ _
 .exact h u hu
theorem OW:∀ k,∀ u∈lW k,kC u
 |0,u,hu=>by
  rw[List.eq_of_mem_replicate hu];simp[kC]
 |k+1,u,hu=>Yl (OW k) u hu
theorem pU.rl{x:cU}(h:pU x):(ed x).length<=100000:=by
 unfold ed;split
 .simp
 .split
  .simp
  .split
   .rename_i J;have:=h.ar (.inl J);omega
   .split
    .rename_i C;have:=h.ar (.inr C);simp;omega
    .simp
theorem Dk.rf{x:End}(h:Dk x)(hi:x.kind=5->pU x.ins):(dT x).length<=100000:=by
 unfold dT;split
 .simp
 .split
  .split<;>simp
  .split
   .rename_i J;exact(hi J).rl
   .split
    .rename_i C;have:=h.a2 (by simpa[bO] using C);omega
    .simp
structure Kt(f:ap):Prop where
 pos:0<f.blocks.length
 kN:f.blocks.length<=1200
 aU:f.aU.length<=1200
 args:0<=f.args/\f.args<=6
 bG:∀ b∈f.blocks,yf f.blocks.length b
 ends:∀ b∈f.blocks,GX f b.fin
 right:∀ (b:Nat) x,f.blocks[b]? =some x->∀ (j:Nat) y,x.ins[j]? =some y->kY f b y ((x.ins.take (j+1)).all kv) (dd f.blocks f.blocks.length b).length=true
 cg:(∀ k∈f.cg,k≠0)/\f.cg.length<=60
 amJ:∀ b∈f.blocks,b.fin.kind=5->pU b.fin.ins
theorem QH{l:List Int}{m:Int}(h:tC l m=true):∀ k∈l,k≠0:=fun k hk e=>by
 subst e;simp only[tC,Bool.not_eq_true',List.any_eq_false] at h;have:=h 0 hk;simp[Cc] at this
theorem acA{f:ap}{x:End}(hl:f.aU.length<=1200)(h:jb f x=true)(M:x.kind=5):pU x.ins:=by
 unfold jb at h;rw[bc] at h;have h:=h.1;unfold eL at h;simp only[M,Int.reduceEq,if_false,if_true,bc] at h;obtain⟨C,J,_⟩:=h;cases hs:ju nk x.ins.op with
 |none=>rw[hs] at C;simp at C
 |some s=>rw[hs] at J;exact Is hl (.inr (BP hs)) (I5 J)
theorem Ku{f:ap}(h:nh f=true):Kt f:=by
 unfold nh at h;simp only[bc] at h;obtain⟨X,hK,_,hE,hR⟩:=h;unfold tE at X;simp only[bc,kQ,Bool.not_eq_true',decide_eq_false_iff_not] at X;obtain⟨_,ha,hr,Bo,mQ,dk⟩:=X;unfold xm at hK;simp only[bc,Bool.not_eq_true',decide_eq_false_iff_not] at hK;obtain⟨_,_,qi,_,_⟩:=hK;have C:f.aU.length<=1200:=by omega
 have U:∀ x∈f.blocks,jb f x.fin=true/\x.ins.length<=200:=fun x hx=>by
  obtain⟨k,hk⟩:=dw hx;have af:k<f.blocks.length:=(bC.1 hk).1;have:=bQ.1 hE k (by simpa using af);rw[lJ,getD_some hk] at this;simp only[bc,Bool.not_eq_true',decide_eq_false_iff_not] at this;exact⟨this.1,oG⟩
 have J:∀ x∈f.blocks,GX f x.fin:=fun x hx=>QG C hr (U x hx).1
 have VW:∀ (b:Nat) x,f.blocks[b]? =some x->∀ (j:Nat) y,x.ins[j]? =some y->kY f b y ((x.ins.take (j+1)).all kv) (dd f.blocks f.blocks.length b).length=true:=fun b x hx j y hy=>by
  have af:b<f.blocks.length:=(bC.1 hx).1;have:=bQ.1 hR b (by simpa using af);rw[tu,getD_some hx] at this;have:=bQ.1 this j (by simpa using(bC.1 hy).1);rw[qH,getD_some hy] at this;exact this
 have M:∀ b∈f.blocks,b.fin.kind=5->pU b.fin.ins:=fun b hb M=>acA C (U b hb).1 M
 have Hp:∀ b∈f.blocks,∀ x∈b.ins,pU x:=fun b hb x hx=>by
  obtain⟨k,hk⟩:=dw hb;obtain⟨j,hj⟩:=dw hx;exact(Ol C (QH qi) oG (VW k b hk j x hj)).1
 refine⟨oG,oG,C,⟨ha.1,by have:=ha.2;split at this<;>omega⟩,fun b hb=>⟨by have:=(U b hb).2;omega,Hp b hb,(J b hb).fin,fun x hx=>(Hp b hb x hx).rl,(J b hb).fin.rf (M b hb),fun t ht=>(J b hb).to t (Om.1 ht)⟩,J,VW,⟨QH qi,oG⟩,M⟩
theorem Kt.phi{f:ap}(h:Kt f){b:Nat}{x:bI}(hx:f.blocks[b]? =some x){y:cU}(hy:y∈x.ins)(C:y.op=19):y.args.length=(dd f.blocks f.blocks.length b).length/\∀ r∈y.args,0<=r/\r<1280:=by
 obtain⟨j,hj⟩:=dw hy;obtain⟨h1,_,_,_,h2⟩:=(Ol h.aU h.cg.1 h.cg.2 (h.right b x hx j y hj)).2 C;refine⟨oG,fun r hr=>?_⟩;have:=(h2 r hr).2;unfold jg at this;have:=h.aU;omega
end Go.Argus
namespace Go.Proofs.Tryz.K
theorem A9{p q:D}{f:ap}{n:Nat}(hp:Tr p)(hq:Tr q)(eJ:p.one=true)(bL:q.one=true)(hn:f.blocks.length=n)(y8:n<=100000)(hw:∀ b∈f.blocks,b.fin.aR.length<=9)(ht:∀ b∈f.blocks,∀ t∈nextR b.fin,0<=t/\t<n):
 aB prog 130 [.agg (aY p q f)] (bM (kX f.blocks)):=by
 have bg:∀ a∈[D.agg (aY p q f)],Tr a:=.cons (j9 hp hq f) .nil;refine bl afO bg (nX _) ?_;rw[afP];refine az ?_;refine ab ?_;refine aa (bJ (dD [(0,aY p q f,113)] eH (l:=[(1,.pt (aY p q f))]) eH) (az ?_));refine ba ?_;refine eI (B7 rfl rfl V.h V.h) ak ⟨oG,rfl,oG,by rw[Ea];omega,V.h⟩ ?_;refine SS ?_;have hM:((f.blocks.length:Nat):Int).toNat=n:=hn;refine aa (bJ (bZ (l:=[(1,.pt (aY p q f)),(3,.rs 1 0 n)]) (ml:=[(1,.cells (replicate n .z) 43)]) ⟨rfl,congrArg (fun k=>D.rs 1 0 k) hM,trivial⟩ ⟨?_,trivial⟩) (aF (az ?_)))
 .exact congrArg (fun c=>some (Row.cells c 43)) ((congrArg (fun k=>dx k [D.z]) hM).trans (acx n))
 refine bx ?_
 refine aa (cn (fun s=>∃ m nx ρ,aJ prog s ⟨ay [(3,.rs 1 0 n)],m,nx⟩/\jL m nx 1 n 43 3 ρ (fun i=>(dd f.blocks n i).map I)) (cy (α:=Nat×Mem×Nat)
  (fun k=>⟨ay [(1,.pt (aY p q f)),(3,.rs 1 0 n),(15,cG f.blocks),(16,I n),(17,I k.1)],k.2.1,k.2.2⟩)
  (fun k=>k.1<=n/\(∃ ρ,jL k.2.1 k.2.2 1 n 43 3 ρ (fun i=>(dd f.blocks k.1 i).map I))/\∀ i,(dd f.blocks k.1 i).length<=12*k.1) (fun k=>n - k.1) (0,br [(1,.cells (replicate n .z) 43)],2)
  (au ⟨rfl,rfl,rfl,congrArg (fun k:Nat=>I k) hn,rfl,trivial⟩) ⟨Nat.zero_le _,⟨fun _=>0,abk (show 1<2 by decide) rfl⟩,fun _=>bd _⟩ ?_) ?_)
 .rintro⟨k,m,nx⟩ ⟨hk,⟨ρ,C⟩,hlen⟩;dsimp only at hk C hlen ⊢;have ao:=C.row;have dj:=C.zl;refine SS ?_;refine aa ⟨_,rfl,fun h=>?_,fun h=>?_⟩
  .have af:k<n:=by simpa using h
   have hx:f.blocks[k]? =some f.blocks[k]:=a7 oG;have X:f.blocks[k]∈f.blocks:=gh _;generalize f.blocks[k]=x at hx X
   have fV:dd f.blocks (k+1)=(nextR x.fin).foldl (jw k) (dd f.blocks k):=by
    rw[dd,List.range_succ,List.foldl_append];show pH f.blocks _ k=_;rw[pH,hx];rfl
   generalize dd f.blocks k=L0 at C hlen ao fV;refine ws ?_;refine cw ?_;have uj:=uj (x:=x.fin);have uq:=Ss (x:=x.fin) (hw x X)
   change aB _ _ _ (aP (nextR x.fin)) at uq
   have iR:=ht x X;have kJ:=I4 x.fin;have hwh:=hw x X;generalize nextR x.fin=l at uq iR kJ fV;refine aa (az ?_);refine SS ?_;refine aw (fg (vs:=bD _) rfl (ah _ _ _) V.h V.h rfl) ak (fh V.h V.h (by first|(simp;done)|omega|exact bF rfl)) ?_;refine cl uj ?_;refine cl uq ?_;refine ab ?_
   refine aa (cy (α:=Nat×Mem×Nat)
    (fun j=>⟨ay [(1,.pt (aY p q f)),(3,.rs 1 0 n),(4,I k),(15,cG f.blocks),(16,I n),(17,I k),(25,aP l),(26,I l.length),(27,I j.1)],j.2.1,j.2.2⟩)
    (fun j=>j.1<=l.length/\(∃ ρ,jL j.2.1 j.2.2 1 n 43 3 ρ (fun i=>((l.take j.1).foldl (jw k) L0 i).map I))/\∀ i,((l.take j.1).foldl (jw k) L0 i).length<=12*k+j.1) (fun j=>l.length - j.1) (0,up m nx (some (.cells (bS x) 59)),nx+1)
    (tg eH (tY _ _ _ _)) ⟨Nat.zero_le _,⟨ρ,C.ext (fun q hq=>ag oG rfl) oM⟩,hlen⟩ ?_)
   clear C ao hlen;rintro⟨j,m,nx⟩ ⟨hj,⟨ρ,C⟩,hlen⟩;dsimp only at hj C hlen ⊢;have ao:=C.row;have dj:=C.zl;have U:∀ t,l[j]? =some t->(l.take (j+1)).foldl (jw k) L0=jw k ((l.take j).foldl (jw k) L0) t:=fun t ht=>BU ht;have Dl:j=l.length->(l.take j).foldl (jw k) L0=dd f.blocks (k+1):=fun e=>by rw[fV,dt oG]
   generalize (l.take j).foldl (jw k) L0=L at C hlen ao U Dl;refine SS ?_;refine aa ⟨_,rfl,fun h=>?_,fun h=>?_⟩
   .have UB:j<l.length:=by simpa using h
    have VJ:l[j]? =some l[j]:=a7 UB;have El:=iR _ (gh UB);generalize l[j]=t at VJ El;obtain⟨i,rfl⟩:=jH El.1;have J:i<n:=by omega
    have hL:=hlen i;have U:(l.take (j+1)).foldl (jw k) L0=up L i (L i++[(k:Int)]):=U _ VJ
    have Db:∀ i,((l.take (j+1)).foldl (jw k) L0 i).length<=12*k+(j+1):=fun a=>by
     rw[U];exact OS (t:=(i:Int)) hlen a
    have VK:(fun a=>((l.take (j+1)).foldl (jw k) L0 a).map I)=up (fun a=>(L a).map I) i ((L i++[(k:Int)]).map I):=by rw[U];exact adC
    obtain⟨cs,kd⟩:=Qt (ρ:=ρ) (L:=fun i=>(L i).map I) J;refine ws ?_;refine ax ?_;refine aa (fF ?_);by_cases hz:L i=[]
    .have zn:jc (ρ i) ((L i).map I)=.z:=by rw[hz];rfl
     rw[zn] at kd;refine bw ?_;refine aw (mu rfl rfl (ag oG (ag oG ao)) V.h V.h) ak ⟨V.h,oG⟩ ?_;refine bN (eK (d:=.rs _ _ _) (cs':=_) rfl rfl (ag oG (ag oG ao)) rfl rfl) ak (bX V.h V.h (by first|(simp;done)|exact⟨rfl,bF rfl⟩|(simp;omega)) rfl) ?_;refine aa ?_;refine ab ?_;refine aa (bi (j+1,up (up (up m nx (some (.cells [I k] 3))) (nx+1) (some (.cells [I k] 3))) 1 (some (.cells ((nI ρ (fun i=>(L i).map I) n).set i (.rs (nx+1) 0 1)) 43)),nx+2) (au eH) ⟨oM,⟨up ρ i (nx+1),?_⟩,Db⟩ oM);dsimp only;rw[VK];refine C.HU J oS oG oG ?_ ?_ (fun q hq uP _=>?_)
     .rw[hz];exact ah _ _ _
     .rw[hz];exact ag oG (ah _ _ _)
     .exact ag oG (ag oG (ag oG rfl))
    .have M:(L i).map I≠[]:=by simpa using hz
     have zn:jc (ρ i) ((L i).map I)=.rs (ρ i) 0 (L i).length:=by rw[Df M,List.length_map]
     rw[zn] at kd;have gR:=C.A0 i J M;have hρn:=C.lt i J M;have hρ1:=C.ne i J M;refine bw ?_;refine aw (mu rfl rfl (ag oG (ag oG (ag oG ao))) V.h V.h) ak ⟨V.h,oG⟩ ?_;refine bN (eK (d:=.rs _ _ _) (cs':=_) rfl rfl (ag oG (ag oG (ag oG ao))) rfl rfl) ak (bX V.h V.h (by first|(simp;done)|exact⟨rfl,bF rfl⟩|(simp;omega)) rfl) ?_;refine aa ?_;refine ab ?_;refine aa (bi (j+1,up (up (up (up m nx (some (.cells [I k] 3))) (ρ i) none) (nx+1) (some (.cells ((L i).map I++[I k]) 3))) 1 (some (.cells ((nI ρ (fun i=>(L i).map I) n).set i (.rs (nx+1) 0 ((L i).length+1))) 43)),nx+2) (au eH) ⟨oM,⟨up ρ i (nx+1),?_⟩,Db⟩ oM);dsimp only;rw[VK];refine C.HU J oS oG oG ?_ ?_ (fun q hq uP y4=>?_)
     .rw[List.length_map,List.length_append];exact ah _ _ _
     .rw[List.map_append];exact ag oG (ah _ _ _)
     .have:=y4 M;exact ag oG (ag oG (ag oG (ag oG rfl)))
   .have bq:¬ j<l.length:=by simpa using h
    have vl:=Dl oG;subst vl;show aq _ _ _ _ _ _ _ _ _;refine ab ?_;refine aa (bi (k+1,m,nx) (au eH) ⟨oM,⟨ρ,C⟩,fun i=>by have:=hlen i;dsimp only at this ⊢;omega⟩ oM)
  .have bq:¬ k<n:=by simpa using h
   have:k=n:=by omega
   subst this;exact⟨m,nx,ρ,au eH,C⟩
 .rintro s ⟨m,nx,ρ,hg,C⟩;have wO:¬ ∃ i,i<n/\(dd f.blocks n i).map I≠[]/\ρ i=1:=fun⟨i,h1,h2,h3⟩=>C.ne i h1 h2 h3;refine⟨_,hg.trans (Po (l:=[(3,.rs 1 0 n)]) (ml:=[]) (fun r=>∃ i,i<n/\(dd f.blocks n i).map I≠[]/\ρ i=r) C (fun _=>.map) c3 (fun i h1 h2=>⟨i,h1,h2,rfl⟩) wO ⟨rfl,trivial⟩ (fun x hx=>?_) trivial (fun x hx=>by cases hx)),az ?_⟩
  .simp at hx;subst hx;exact .rs wO
  refine ab ?_;refine aa (bJ (dD [(1,_,43)] eH (l:=[(2,bM (kX f.blocks))]) ⟨?_,trivial⟩) (aI rfl rfl));show sub (cF 1 _ (prog.cellsOf 43)) (D.rs 1 0 n)=_;rw[jM (by rw[sX];simp),Qu,kX,hn]
theorem Ia{p q:D}{f:ap}{n args:Nat}(hp:Tr p)(hq:Tr q)(eJ:p.one=true)(bL:q.one=true)(hn:f.blocks.length=n)(y7:0<n)(y8:n<=100000)(ha:f.args=args)(yX:args<=1000)(zg:∀ u∈lW args,kC u)(hb:∀ b∈f.blocks,yf n b)
 (ajN:∀ b x,f.blocks[b]? =some x->∀ y∈x.ins,y.op=19->y.args.length=(dd f.blocks n b).length/\∀ r∈y.args,0<=r/\r<1280):
 aB prog 98 [.agg (aY p q f)] (B (tq f.blocks args)):=by
 have bg:∀ a∈[D.agg (aY p q f)],Tr a:=.cons (j9 hp hq f) .nil;have A8:=A8 hp hq eJ bL hn y7 y8 ha yX zg hb;have A9:=A9 hp hq eJ bL hn y8 (fun b h=>(hb b h).fin.wh) (fun b h=>(hb b h).to);have UC:ma n (pa f.blocks args):=by subst hn;exact abm hb zg
 refine bl ajO bg (.s _) ?_;rw[ajP];refine az ?_;refine ab ?_;refine aa (bJ (dD [(0,aY p q f,113)] eH (l:=[(1,.pt (aY p q f))]) eH) ?_);have nz:tq f.blocks args=(range n).all (rN f.blocks (pa f.blocks args)):=by rw[tq,hn]
 rw[nz];clear nz;generalize pa f.blocks args=R at A8 UC ⊢;obtain⟨lw,lr,mj,rg⟩:=UC;have A8:aB prog 132 [.agg (aY p q f)] (.aL [.sl (cS R.wsq) n,rM R.re]):=by unfold rM;rw[lr];exact A8
 show AW _ _ _ _ (CA _) _;refine ws ?_;refine SS ?_;refine cl A8 ?_;refine bx ?_;refine aa (az ?_);refine SS ?_;refine cl A9 ?_;refine SS ?_;refine aa (bJ (fQ (l:=[(1,.pt (aY p q f)),(3,.sl (cS R.wsq) n),(4,rM R.re),(5,bM (kX f.blocks))]) eH) (Xj (aF (az ?_))));refine bx ?_
 refine aa (cn (fun s=>(range n).all (rN f.blocks R)=true) (cy (α:=Nat×Nat)
  (fun k=>⟨ay [(1,.pt (aY p q f)),(3,.sl (cS R.wsq) n),(4,rM R.re),(5,bM (kX f.blocks)),(25,cG f.blocks),(26,I n),(27,I k.1)],fun _=>none,k.2⟩)
  (fun k=>k.1<=n/\(range k.1).all (rN f.blocks R)=true) (fun k=>n - k.1) (0,1) (fQ ⟨rfl,rfl,rfl,rfl,rfl,congrArg (fun k:Nat=>I k) hn,rfl,trivial⟩) ⟨Nat.zero_le _,rfl⟩ ?_) ?_)
 .rintro⟨k,N⟩ ⟨hk,X⟩;dsimp only at hk X ⊢;refine SS ?_;refine aa ⟨_,rfl,fun h=>?_,fun h=>?_⟩
  .have af:k<n:=by simpa using h
   have hx:f.blocks[k]? =some f.blocks[k]:=a7 oG;have iO:f.blocks[k]∈f.blocks:=gh _;generalize f.blocks[k]=x at hx iO;have iS:=hb x iO;have hph:=ajN k x hx;have hw:R.wsq[k]? =some R.wsq[k]:=a7 oG;have mV:R.re[k]? =some R.re[k]:=a7 oG;have zt:=mj _ (gh (h:=by omega):R.wsq[k]∈R.wsq)
   have M:rN f.blocks R k=(!R.re[k]||((mr x R.wsq[k]).2&&(x.ins.takeWhile kv).all (ua f.blocks R k))):=by
    rw[rN,getD_some hw,getD_some mV,getD_some hx]
   generalize R.wsq[k]=w at hw zt M;generalize R.re[k]=b at mV M;refine az ?_;refine cw ?_;refine aa (bJ (fu (i:=N) (l:=[(1,.pt (aY p q f)),(3,.sl (cS R.wsq) n),(4,rM R.re),(5,bM (kX f.blocks)),(6,I k),(7,.pt (bS x)),(25,cG f.blocks),(26,I n),(27,I k)]) (ah _ _ _) ⟨rfl,rfl,rfl,rfl,rfl,lU,rfl,rfl,rfl,trivial⟩) (aF (aj ?_)));refine bx ?_;refine aa (cQ rfl (fun h=>ta (Gg ?_)) fun h=>cx (aF (BK abn ?_)))
   .have Nu:b=false:=by simpa using h
    subst Nu;refine ab ?_;refine aa (bi (k+1,N+1) (fQ eH) ⟨oM,oL X (by rw[M];rfl)⟩ oM)
   have Nv:b=true:=by simpa using h
   subst Nv;have nJ:=nJ zt iS.len iS.ins iS.fin iS.rl iS.rf;have ur:=Im x w;rw[zt] at ur;generalize mr x w=th at nJ M ur;obtain⟨w1,ok⟩:=th;dsimp only at nJ M ur;refine ax ?_;refine aw (Su rfl rfl V.h V.h oN oN) ak (Sv V.h oN oN oG) ?_;refine aw (j4 rfl V.h V.h (QE oN)) ak (j7 V.h V.h oP) ?_;refine cl nJ ?_;refine cw ?_;refine cz cJ (bJ (fQ (l:=[(1,.pt (aY p q f)),(3,.sl (cS R.wsq) n),(4,rM R.re),(5,bM (kX f.blocks)),(6,I k),(7,.pt (bS x)),(9,B ok),(25,cG f.blocks),(26,I n),(27,I k)]) eH) (aF (aj ?_)));refine ab ?_;refine aa (cQ rfl (fun h=>?_) fun h=>cx (az ?_))
   .have bK:ok=false:=by simpa using h
    subst bK;refine aF (aj ?_);refine SS ?_;refine aa (eQ (cm (bE (Fu (aI (d:=B false) rfl ?_)))));rw[qw af (by rw[M];rfl)]
   have bK:ok=true:=by simpa using h
   subst bK;have M:rN f.blocks R k=(x.ins.takeWhile kv).all (ua f.blocks R k):=M;refine ba ?_;have kJ:=iS.len
   refine aa (cy (α:=Nat×Nat)
    (fun j=>⟨ay [(1,.pt (aY p q f)),(3,.sl (cS R.wsq) n),(4,rM R.re),(5,bM (kX f.blocks)),(6,I k),(25,cG f.blocks),(26,I n),(27,I k),(49,lH x.ins),(50,I x.ins.length),(51,I j.1)],fun _=>none,j.2⟩)
    (fun j=>j.1<=x.ins.length/\(∀ y∈x.ins.take j.1,kv y=true)/\(x.ins.take j.1).all (ua f.blocks R k)=true) (fun j=>x.ins.length - j.1) (0,_) (fQ eH) ⟨Nat.zero_le _,oS,oS⟩ ?_)
   rintro⟨j,N⟩ ⟨hj,A',DI⟩;dsimp only at hj A' DI ⊢;refine SS ?_;refine aa ⟨_,rfl,fun h=>?_,fun h=>?_⟩
   .have dj:j<x.ins.length:=by simpa using h
    have hy:x.ins[j]? =some x.ins[j]:=a7 dj;have VL:x.ins[j]∈x.ins:=gh dj;generalize x.ins[j]=y at hy VL;refine az ?_;refine ba ?_;refine aa (bJ (fu (i:=N) (l:=[(1,.pt (aY p q f)),(3,.sl (cS R.wsq) n),(4,rM R.re),(5,bM (kX f.blocks)),(6,I k),(11,.pt (ct y)),(25,cG f.blocks),(26,I n),(27,I k),(49,lH x.ins),(50,I x.ins.length),(51,I j)]) (ah _ _ _) ⟨rfl,rfl,rfl,rfl,rfl,lU,rfl,rfl,rfl,rfl,rfl,rfl,trivial⟩) (aF (aj ?_)));refine ax ?_;refine aa (cQ rfl (fun h=>ta (ad3 oC oC (Gg ?_))) fun h=>cx (az ?_))
    .have aE:y.op≠19:=by simpa using h
     refine ab ?_;refine aa (bi (k+1,_) (fQ eH) ⟨oM,oL X ?_⟩ oM);rw[M,takeWhile_eq A' (fun y' h'=>by rw[hy] at h';cases h';simpa[kv] using aE)];exact DI
    have qv:y.op=19:=by simpa using h
    obtain⟨qm,har⟩:=hph y VL qv;have hA:=OV hn af
    have VM:∀ p∈dd f.blocks n k,∃ C:Nat,p=C/\C<n:=fun p hp=>by
     obtain⟨b,h1,h2,_⟩:=IH.1 hp;exact⟨b,h1,h2⟩
    have Nx:ua f.blocks R k y=(range (dd f.blocks n k).length).all (tD f.blocks R k y):=by rw[ua,hn]
    have J:∀ i,tD f.blocks R k y i=(!(R.re.getD ((dd f.blocks n k).getD i 0).toNat false)||p0 (ij (f.blocks.getD ((dd f.blocks n k).getD i 0).toNat k9).fin k (mr (f.blocks.getD ((dd f.blocks n k).getD i 0).toNat k9) (R.wsq.getD ((dd f.blocks n k).getD i 0).toNat [])).1) (y.args.getD i 0).toNat):=fun i=>by rw[tD,hn]
    have hAl:=OU (fun b h=>(hb b h).fin.wh) n k;generalize dd f.blocks n k=A at qm hA VM Nx J hAl
    have adD:∀ i,i<A.length->tD f.blocks R k y i=false->(range n).all (rN f.blocks R)=false:=fun i hi he=>by
     refine qw af ?_;rw[M];refine Bool.eq_false_iff.2 fun ht=>?_
     have ajQ:y∈x.ins.takeWhile kv:=by
      have:x.ins.take (j+1)=x.ins.take j++[y]:=by rw[List.take_add_one,hy];rfl
      have h2:x.ins=x.ins.take (j+1)++x.ins.drop (j+1):=(List.take_append_drop _ _).symm;rw[h2,this,List.takeWhile_append_of_pos]
      .simp
      .intro z hz;rcases List.mem_append.1 hz with h|h
       .exact A' z h
       .rw[List.mem_singleton.1 h];simp[kv,qv]
     have:=bQ.1 ht y ajQ;rw[Nx,qw hi he] at this;cases this
    refine cw ?_
    refine aa (cy (α:=Nat×Nat)
     (fun i=>⟨ay [(1,.pt (aY p q f)),(3,.sl (cS R.wsq) n),(4,rM R.re),(5,bM (kX f.blocks)),(6,I k),(11,.pt (ct y)),(25,cG f.blocks),(26,I n),(27,I k),(49,lH x.ins),(50,I x.ins.length),(51,I j),(61,aP A),(62,I A.length),(63,I i.1)],fun _=>none,i.2⟩)
     (fun i=>i.1<=A.length/\(range i.1).all (tD f.blocks R k y)=true) (fun i=>A.length - i.1) (0,_) (fQ eH) ⟨Nat.zero_le _,rfl⟩ ?_)
    rintro⟨i,N⟩ ⟨hi,K6⟩;dsimp only at hi K6 ⊢;refine SS ?_;refine aa ⟨_,rfl,fun h=>?_,fun h=>?_⟩
    .have ei:i<A.length:=by simpa using h
     have VN:A[i]? =some A[i]:=a7 ei;obtain⟨C,VO,yY⟩:=VM _ (gh ei);rw[VO] at VN;clear VO;have VP:f.blocks[C]? =some f.blocks[C]:=a7 oG;have UD:f.blocks[C]∈f.blocks:=gh _;have VQ:R.wsq[C]? =some R.wsq[C]:=a7 oG;have VR:R.re[C]? =some R.re[C]:=a7 oG;have L6:=mj _ (gh (h:=by omega):R.wsq[C]∈R.wsq);have VS:y.args[i]? =some y.args[i]:=a7 oG;have wT:=har _ (gh (h:=by omega):y.args[i]∈y.args);have J:=J i;rw[getD_some VN,jZ,getD_some VP,getD_some VQ,getD_some VR,getD_some VS] at J;generalize f.blocks[C]=xp at VP UD J;generalize R.wsq[C]=wp at VQ L6 J;generalize R.re[C]=rb at VR J;generalize y.args[i]=r at VS wT J;obtain⟨rn,rfl⟩:=jH wT.1;rw[jZ] at J;have yC:=hb xp UD;have nJ:=Go.Proofs.Tryz.K.nJ L6 yC.len yC.ins yC.fin yC.rl yC.rf;have DJ:=Im xp wp;rw[L6] at DJ;generalize mr xp wp=tp at nJ J DJ;obtain⟨w2,ok2⟩:=tp;dsimp only at nJ J DJ;have wl:=wl (x:=xp.fin) (b:=(k:Int)) (w:=w2) DJ (by have:=yC.fin.wh;omega) (by have:=yC.fin.wr;omega);have mR:=Pu xp.fin k w2;rw[DJ] at mR;generalize ij xp.fin k w2=w3 at wl mR J;have lj:=lj (w:=w3) (m:=rn) mR oG;refine ws ?_;refine bx ?_;refine aa (BK ZL ?_);refine dJ ?_;refine aw (Su rfl rfl V.h V.h oN oN) ak (Sv V.h oN oN oG) ?_;refine aw (j4 rfl V.h V.h (QE oN)) ak (j7 V.h V.h oP) ?_;refine cl nJ ?_;refine cw ?_;refine cz cJ (bJ (fu (i:=N) (l:=[(1,.pt (aY p q f)),(3,.sl (cS R.wsq) n),(4,rM R.re),(5,bM (kX f.blocks)),(6,I k),(11,.pt (ct y)),(12,I i),(13,I C),(14,.pt (w2.map cL)),(25,cG f.blocks),(26,I n),(27,I k),(49,lH x.ins),(50,I x.ins.length),(51,I j),(61,aP A),(62,I A.length),(63,I i)]) (ah _ _ _) ⟨rfl,rfl,rfl,rfl,rfl,rfl,rfl,rfl,lU,rfl,rfl,rfl,rfl,rfl,rfl,rfl,rfl,rfl,trivial⟩) (eA ZM ?_))
     have pS:∀ v:Bool,v=tD f.blocks R k y i->(v=false->(range n).all (rN f.blocks R)=false)/\(v=true->(range (i+1)).all (tD f.blocks R k y)=true):=fun v hv=>by
      subst hv;exact⟨adD i ei,fun h=>oL K6 h⟩
     cases rb with
     |false=>
      obtain⟨_,U⟩:=pS true J.symm;have U:=U rfl;refine bw ?_;refine bt rfl rfl (r7 rfl rfl V.h V.h (uV) oN) (fun hc=>⟨ak,(r8 V.h (uV) oN)⟩) ?_;refine ax ?_;refine bt rfl rfl (j4 rfl V.h V.h (Sw (by first|rfl|exact bF rfl|(simp;done)|(simp;omega)|omega))) (fun hc=>⟨ak,(j7 V.h V.h (by first|rfl|exact bF rfl|(simp;done)|(simp;omega)|omega))⟩) ?_;refine gc wl ?_;refine bx ?_;refine gc lj ?_;refine ab ?_;refine cz cJ (aO rfl (fun h=>oH) fun h=>cT ?_);refine ab ?_;refine aa (bi (i+1,_) (fQ eH) ⟨oM,U⟩ oM)
     |true=>
      obtain⟨sR,U⟩:=pS (p0 w3 rn) J.symm;generalize p0 w3 rn=hv at lj sR U;refine bw ?_;refine bt rfl rfl (r7 rfl rfl V.h V.h (uV) oN) (fun hc=>⟨ak,(r8 V.h (uV) oN)⟩) ?_;refine ax ?_;refine bt rfl rfl (j4 rfl V.h V.h (Sw (by first|rfl|exact bF rfl|(simp;done)|(simp;omega)|omega))) (fun hc=>⟨ak,(j7 V.h V.h (by first|rfl|exact bF rfl|(simp;done)|(simp;omega)|omega))⟩) ?_;refine gc wl ?_;refine bx ?_;refine gc lj ?_;refine ab ?_;refine cz cJ (aO rfl (fun h=>?_) fun h=>cT ?_)
      .have hf:hv=false:=by simpa using h
       refine ws ?_;refine SS ?_;refine aa (bH (cm (cm (cm (bE (Fu (aI (d:=B false) rfl ?_)))))));rw[sR hf]
      .have ht:hv=true:=by simpa using h
       have U:=U ht;refine ab ?_;refine aa (bi (i+1,_) (fQ eH) ⟨oM,U⟩ oM)
    .have bq:¬ i<A.length:=by simpa using h
     have hiA:i=A.length:=by omega
     subst hiA;show aq _ _ _ _ _ _ _ _ _;refine ab ?_;refine aa (bi (j+1,_) (fQ eH) ⟨oM,fun z hz=>?_,?_⟩ oM)
     .dsimp only at hz;rw[List.take_add_one,hy] at hz;rcases List.mem_append.1 hz with h|h
      .exact A' z h
      .rw[List.mem_singleton.1 h];simp[kv,qv]
     .dsimp only;rw[List.take_add_one,hy,List.all_append,DI];simpa[Nx] using K6
   .have bq:¬ j<x.ins.length:=by simpa using h
    have D0:j=x.ins.length:=by omega
    subst D0;show aq _ _ _ _ _ _ _ _ _;refine ab ?_;refine aa (bi (k+1,_) (fQ eH) ⟨oM,oL X ?_⟩ oM);rw[List.take_length] at A' DI;rw[M,takeWhile_eq (j:=x.ins.length) (by rw[List.take_length];exact A') (fun y h=>by simp at h),List.take_length];exact DI
  .have bq:¬ k<n:=by simpa using h
   have:k=n:=by omega
   subst this;exact X
 .rintro⟨env,m,nx⟩ X;refine⟨_,.refl _,aj ?_⟩;refine SS ?_;refine aa (Fu (aI (d:=B true) rfl ?_));rw[X]
end Go.Proofs.Tryz.K
namespace Go.Argus
theorem VT:∀ b1 b2 b3 b4 b5 b6:Bool,(if(if(if(if(if(!b1)=true then true else !b2)=true then true else !b3)=true then true else b4)=true then true else b5)=true then true else !b6)= !(b1&&(b2&&(b3&&(!b4&&(!b5&&b6))))):=by decide
theorem VU:∀ b1 b2 b3 b4 b5:Bool,(if(if(if(if(!b1)=true then true else !b2)=true then true else !b3)=true then true else b4)=true then true else b5)= !(b1&&(b2&&(b3&&(!b4&& !b5)))):=by decide
theorem hd3:∀ b1 b2 b3 b4:Bool,(if(if b1=true then true else b2)=true then true else if b3=true then !b4 else false)=(b1||(b2||(b3&& !b4))):=by decide
def mW(l:List Int):List (Value×D):=l.map fun a=>(.int .i64 a,B true)
theorem J0(a:Int):∀ l:List Int,(cM (.int .i64 a) (mW l)).map (·.2)=if(l.any (·==a))=true then some (B true) else none
 |[]=>rfl
 |b::l=>by
  have ih:=J0 a l;unfold mW at ih ⊢;simp only[List.map_cons,cM,kH,pW,List.any_cons,beq_self_eq_true,Bool.true_and] at ih ⊢;by_cases h:b=a
  .subst h;simp
  .have hb:(b==a)=false:=by simpa using h
   simp only[hb,Bool.false_eq_true,if_false,Option.map_map,Bool.false_or];exact ih
theorem adE{P:Program}{t:TypeId}(hz:lQ P (lb P t)=B false)(a:Int)(l:List Int):fy P t false (cM (.int .i64 a) (mW l))=B (l.any (·==a)):=by
 have h:=J0 a l;cases h1:cM (.int .i64 a) (mW l) with
 |none=>
  rw[h1] at h;cases h2:l.any (·==a) with
  |true=>rw[h2] at h;simp at h
  |false=>simp[fy,hz]
 |some x=>
  rw[h1] at h;cases h2:l.any (·==a) with
  |false=>rw[h2] at h;simp at h
  |true=>rw[h2] at h;simp at h;simp[fy,h]
theorem adF{a:Int}{l:List Int}(h:l.any (·==a)=false):fX (.int .i64 a) (B true) (mW l)=mW (l++[a]):=by
 have h1:=J0 a l;rw[h] at h1;unfold fX;cases h2:cM (.int .i64 a) (mW l) with
 |none=>simp[mW]
 |some x=>rw[h2] at h1;simp at h1
theorem RI{P:Program}{kt:TypeId}(hk:P.underlying kt=some (.int .i64))(l:List Int):(mW l).all (fun e=>cE P kt e.1)=true:=by
 refine bQ.2 fun x hx=>?_;obtain⟨y,_,rfl⟩:=List.mem_map.1 hx;simp[cE,hk]
theorem Sx{P:Program}{kt:TypeId}(hk:P.underlying kt=some (.int .i64))(a:Int):cE P kt (.int .i64 a)=true:=by simp[cE,hk]
theorem acz{i sz:Nat}{C:List D}(l:List Int):Row.sub (cF i C sz) (.map (mW l))=.map (mW l):=by
 show Row.map ((mW l).map _)=_;unfold mW;rw[List.map_map];rfl
theorem WO{bs:List bI}{k:Nat}{x:bI}(hx:bs[k]? =some x):oX bs (k+1)=if(x.fin.kind==7)=true then oX bs k++[x.fin.a] else oX bs k:=by
 unfold oX;rw[List.take_add_one,hx];by_cases h:(x.fin.kind==7)=true
 .simp[h]
 .simp[h]
def gT(wsq:List ByteArray):ByteArray:=Go.Proofs.Tryz.K.AB wsq ⟨#[32]⟩++⟨#[10]⟩
def eO(n:Int):ByteArray:=⟨(Lib.itoa n).toArray⟩
def i64(n:Int):Prop:= -9223372036854775808<=n/\n<=9223372036854775807
abbrev iv(n:Int):Int:=IntKind.i64.wrap n
theorem zX(n:Int):i64 (iv n):=by unfold i64 iv;rw[IntKind.wrap_i64];omega
def vY(x:cU):List Int:=iv x.op::x.to::x.a::x.b::x.n::x.args
def Hg(x:cU):Prop:=∀ n∈vY x,i64 n
def T5(word:ByteArray)(x:cU):ByteArray:=gT (word::(vY x).map eO)
def vZ(a:ByteArray):List Int:=a.data.toList.map fun c=>(c.toNat:Int)
theorem adk(a:ByteArray):fj a=lM (vZ a):=by simp[fj,lM,vZ]
theorem ab8(a:ByteArray):mkStr (vZ a)=a:=by
 unfold mkStr vZ;rw[List.map_map];have:(fun n:Int=>UInt8.ofNat n.toNat) ∘ (fun c:UInt8=>(c.toNat:Int))=id:=by funext c;simp
 rw[this,List.map_id]
theorem aaH(a:ByteArray):(vZ a).length=a.size:=by simp[vZ]
theorem aaI(a:ByteArray):∀ x∈vZ a,0<=x/\x<256:=by
 intro x hx;obtain⟨c,_,rfl⟩:=List.mem_map.1 hx;have:=c.toNat_lt;omega
def xX:ByteArray:=⟨#[102,108,111,119]⟩
def TH:ByteArray:=⟨#[112,114,111,99]⟩
def TI:ByteArray:=⟨#[105,116,101,114]⟩
def AD:ByteArray:=⟨#[114,101,103,115]⟩
def CK:ByteArray:=⟨#[115,108,111,116,115]⟩
def E5:ByteArray:=⟨#[115,105,103,110,97,108,115]⟩
def oZ:ByteArray:=⟨#[98,108,111,99,107]⟩
def sF:ByteArray:=⟨#[105,110,115]⟩
def Dz:ByteArray:=⟨#[101,110,100]⟩
def GQ:ByteArray:=⟨#[110,97,109,101]⟩
def AS:ByteArray:=⟨#[116,114,121]⟩
def TJ:ByteArray:=⟨#[119,104,101,110]⟩
def eP:List (List ByteArray)->ByteArray
 |[]=>ByteArray.empty
 |l::ls=>gT l++eP ls
theorem II:∀ a b:List (List ByteArray),eP (a++b)=eP a++eP b
 |[],b=>by simp[eP]
 |l::a,b=>by simp only[List.cons_append,eP,II a b,ByteArray.append_assoc]
theorem QL(a:List (List ByteArray))(l:List ByteArray):eP (a++[l])=eP a++gT l:=by rw[II];simp[eP]
theorem adL{a b:List (List ByteArray)}(h:a<+:b):(eP a).size<=(eP b).size:=by
 obtain⟨c,rfl⟩:=h;rw[II,ByteArray.size_append];omega
def nH(word:ByteArray)(x:cU):List ByteArray:=word::(vY x).map eO
def ui(x:End):List Int:=iv x.kind::x.a::x.b::x.to::x.gL::x.others::x.args
def ra(x:End):List ByteArray:=Dz::(ui x).map eO
def jS(x:End):List (List ByteArray):=if x.name.toList=[] then [] else [[GQ,x.name]]
def ll(x:End):List (List ByteArray):=if x.kind=5 then [nH AS x.ins] else []
def lT(w:iE):List ByteArray:=[TJ,w.name,eO w.to]
def qW(b:bI):List (List ByteArray):=b.ins.map (nH sF)
def lN(b:bI):List (List ByteArray):=[oZ]::(qW b++(ra b.fin::(jS b.fin++(ll b.fin++b.fin.aR.map lT))))
def ss(f:ap):ByteArray:=if f.iter then TI else TH
def Dm(f:ap):List (List ByteArray):=[[xX,f.name,ss f,eO f.args,eO (iv f.result)],AD::(f.aU.map iv).map eO,CK::(f.cg.map iv).map eO,E5::f.signals]
def jR(f:ap):List (List ByteArray):=Dm f++f.blocks.flatMap lN
def lS(f:ap):ByteArray:=eP (jR f)
structure CJ(f:ap):Prop where
 args:i64 f.args
 aU:f.aU.length<=100000
 cg:f.cg.length<=100000
 sigs:f.signals.length<=100000
 LM:f.blocks.length<=100000
 ahT:∀ b∈f.blocks,b.ins.length<=100000
 ins:∀ b∈f.blocks,∀ x∈b.ins,Hg x/\x.args.length<=10000
 fin:∀ b∈f.blocks,(∀ n∈ui b.fin,i64 n)/\b.fin.args.length<=10000/\Hg b.fin.ins/\b.fin.ins.args.length<=10000/\b.fin.aR.length<=100000/\∀ w∈b.fin.aR,i64 w.to
 size:(lS f).size<=140737488355328
def kL(f:ap)(k:Nat):List (List ByteArray):=Dm f++(f.blocks.take k).flatMap lN
theorem Qm{f:ap}{k:Nat}{b:bI}(h:f.blocks[k]? =some b):kL f (k+1)=kL f k++lN b:=by
 unfold kL;rw[List.take_add_one,h];simp[List.flatMap_append]
theorem IU{f:ap}{k:Nat}{b:bI}(h:f.blocks[k]? =some b){p:List (List ByteArray)}(hp:p<+:lN b):kL f k++p<+:jR f:=by
 have h1:kL f k++p<+:kL f (k+1):=by rw[Qm h];exact(List.prefix_append_right_inj _).2 hp
 refine h1.trans ?_;refine⟨(f.blocks.drop (k+1)).flatMap lN,?_⟩;unfold kL jR;rw[List.append_assoc, <- List.flatMap_append,List.take_append_drop]
theorem CJ.le{f:ap}(h:CJ f){p:List (List ByteArray)}{l:List ByteArray}(hp:p++[l]<+:jR f):(eP p).size+(gT l).size<=140737488355328:=by
 have h1:=adL hp;rw[QL,ByteArray.size_append] at h1;have:=h.size;unfold lS at this;omega
abbrev bj(l:List ap):D:=.sl (l.flatMap aX) l.length
theorem js(l:List ap):Tr (bj l):=.sl (.flat na)
def jA:List D:=[S ⟨#[]⟩,B false,I 0,U8 0,.z,.z,.z,.z]
def named(l:List ap)(name:ByteArray):Int:=mI (fun g=>g.name.toList==name.toList) l
def findF(l:List ap)(name:ByteArray):Option ap:=l.find? fun g=>g.name.toList==name.toList
def CL:Option ap->D
 |some g=>.aL [.agg (aX g),B true]
 |none=>.aL [.agg jA,B false]
theorem Xm(l:List ap)(name:ByteArray):(named l name= -1/\findF l name=none)\/∃ (i:Nat) (g:ap),named l name=i/\l[i]? =some g/\findF l name=some g:=by
 unfold named mI findF;cases h:l.findIdx? (fun g=>g.name.toList==name.toList) with
 |none=>
  left;refine⟨rfl,?_⟩;rw[List.findIdx?_eq_none_iff] at h;rw[List.find?_eq_none];intro x hx;simpa using h x hx
 |some i=>
  right;obtain⟨hi,h1,h2⟩:=List.findIdx?_eq_some_iff_getElem.1 h;refine⟨i,l[i],rfl,a7 hi,?_⟩;rw[List.find?_eq_some_iff_getElem];exact⟨h1,i,hi,rfl,fun j hj=>by simpa using h2 j hj⟩
abbrev dA:D:=.s (.map none)
def o0(l:List Int)(i:Int):Int:=l.getD i.toNat 0
def xY(c g:ap)(args:List Int)(i:Nat):Bool:=o0 c.aU (args.getD i 0)==g.aU.getD i 0
def o9(c g:ap)(args:List Int):Bool:=decide ((args.length:Int)=g.args)&&(range args.length).all (xY c g args)
def AE(r:Int)(b:bI):Bool:=decide (b.fin.kind=7)&&decide (b.fin.a=r)
def wa(c:ap)(l:List ap)(r:Int):Option ap:=match c.blocks.find? (AE r) with
 |some b=>findF l b.fin.name
 |none=>none
theorem aaK(o:Option ap):Tr (CL o):=by
 cases o with
 |none=>exact .aL (.cons (.agg (.cons (.s _) (.cons (.s _) (.cons (.s _) (.cons (.s _) (.cons .z (.cons .z (.cons .z (.cons .z .nil))))))))) (.cons (.s _) .nil))
 |some g=>exact .aL (.cons (.agg (na g)) (.cons (.s _) .nil))
def xZ(c:ap)(l:List ap)(y:End):Bool:=match findF l y.name with
 |none=>false
 |some g=> !g.iter&&(o9 c g y.args&& !(decide (0<=y.a)&&(o0 c.aU y.a !=g.result)))
def yc(c:ap)(l:List ap)(y:End):Bool:=match findF l y.name with
 |none=>false
 |some g=>g.iter&&o9 c g y.args
def vJ(c:ap)(l:List ap)(y:End):Bool:=match wa c l y.a with
 |none=>true
 |some g=> !(o0 c.aU y.b !=g.result)
def iZ(c:ap)(l:List ap)(b:bI):Bool:=
 if b.fin.kind=6 then xZ c l b.fin else if b.fin.kind=7 then yc c l b.fin else if b.fin.kind=8 then vJ c l b.fin else true
def tM(c:ap)(l:List ap):Bool:=c.blocks.all (iZ c l)
structure JS(c:ap)(l:List ap):Prop where
 len:l.length<=1000000
 LM:c.blocks.length<=1000000
 args:∀ b∈c.blocks,b.fin.kind=6\/b.fin.kind=7->(∀ r∈b.fin.args,0<=r/\r<c.aU.length)/\b.fin.args.length<=1000000
 a:∀ b∈c.blocks,b.fin.kind=6->b.fin.a<c.aU.length
 b:∀ b∈c.blocks,b.fin.kind=8->0<=b.fin.b/\b.fin.b<c.aU.length
 fl:∀ g∈l,g.args<=g.aU.length
theorem Za{l:List ap}{name:ByteArray}{g:ap}(h:findF l name=some g):g∈l:=List.mem_of_find?_eq_some h
def AT(a b:ByteArray):Bool:= !(Op.bytesLess a.toList b.toList)
def oR(l:List ap)(i:Nat):ByteArray:=match l[i]? with
 |some f=>f.name
 |none=>⟨#[]⟩
def kT(l:List ap)(i:Nat):Int:=match l[i]? with
 |none=>0
 |some f=>if fi f=0 then(if decide (0<i)&&AT (oR l (i - 1)) f.name then 1 else 0) else fi f
def ve(l:List ap)(i:Nat):Bool:=match l[i]? with
 |none=>false
 |some f=> !tM f l
def dc(l:List ap):Int×Int:=
 if 60<l.length then(0,2) else match (range l.length).find? fun i=>kT l i !=0 with
 |some i=>(i,kT l i)
 |none=>match (range l.length).find? (ve l) with
  |some i=>(i,82)
  |none=>(0,0)
theorem OJ{p:Nat->Bool}{n k:Nat}(hk:k<n)(hp:p k=true)(h:∀ j,j<k->p j=false):(range n).find? p=some k:=by
 rw[List.find?_eq_some_iff_getElem];refine⟨hp,k,by simpa using hk,oS,fun j hj=>?_⟩;simp[h j hj]
theorem OK{p:Nat->Bool}{n:Nat}(h:∀ j,j<n->p j=false):(range n).find? p=none:=by
 rw[List.find?_eq_none];intro x hx;simp[h x (List.mem_range.1 hx)]
end Go.Argus
namespace Go.Proofs.Tryz.K
theorem Ib:prog.underlying 3=some (.int .i64):=kr
theorem af4:lQ prog (lb prog 194)=B false:=kr
theorem NA{f:ap}:aB prog 97 [.agg (aX f)] (B (nh f)):=by
 have bg:∀ a∈[D.agg (aX f)],Tr a:=.cons (.agg (na f)) .nil;refine bl ajR bg (.s _) ?_;rw[ajS];refine az ?_;refine ab ?_;refine aa (bJ (fu (i:=0) (l:=[(1,.pt (aX f))]) rfl eH) (az ?_));have L7:=L7 (f:=f);refine SS ?_;refine cl L7 ?_;refine SS ?_;refine bN (fq (cs':=aY _ _ _) rfl rfl rfl rfl) ak (bX V.h V.h (by first|(simp;done)|exact⟨rfl,bF rfl⟩|(simp;omega)) (by rfl)) ?_;refine aa (bJ (fu (i:=1) (l:=[(1,.pt (aX f)),(3,.pt (aY P0 Q0 f))]) rfl eH) (az ?_));refine bw ?_;refine dJ ?_;refine ab ?_;refine aa (bJ (fQ (l:=[(1,.pt (aX f)),(3,.pt (aY P0 Q0 f)),(4,B (u7 f))]) ⟨rfl,rfl,congrArg B (hd3 (f.result==1) (f.result==2) (f.result==0) f.iter),trivial⟩) (aF (aj ?_)));have Lu:nh f=(tE f&&(xm f&&(JZ f&&((range f.blocks.length).all (lJ f)&&(range f.blocks.length).all (tu f))))):=rfl;rw[Lu];have M:tE f=(n6 f.name&&(jo f.args 0 (if(f.aU.length:Int)<6 then(f.aU.length:Int) else 6)&&(u7 f&&(!decide ((1200:Int)<f.aU.length)&&(!decide ((60:Int)<f.cg.length)&&jo f.blocks.length 1 1200))))):=rfl;generalize nz:u7 f=res at M ⊢;refine ab ?_;refine cl rj ?_;refine iu ?_;refine bt rfl rfl (adX rfl rfl) (fun hc=>⟨ak,rfl⟩) ?_;refine gc mn ?_;refine bw ?_;refine bw ?_;refine ba ?_;refine gc mn ?_;refine ab ?_;refine aa (cQ rfl (fun h=>?_) fun h=>cx (aF (aj ?_)))
 .have h:=(VT _ _ _ _ _ _).symm.trans h;rw[<- M] at h;have h:tE f=false:=by simpa using h
  refine aF (aj ?_);refine SS ?_;refine aa (eQ (aI (d:=B false) rfl ?_));rw[h];rfl
 have h:=(VT _ _ _ _ _ _).symm.trans h;rw[<- M] at h;have hh:tE f=true:=by simpa using h
 rw[hh,Bool.true_and];rw[M] at hh;simp only[bc,kQ,Bool.not_eq_true',decide_eq_false_iff_not] at hh;obtain⟨_,ha,hr,Bo,U,dk⟩:=hh;subst hr;clear h M
 have yX:0<=f.args/\f.args<=f.aU.length/\f.args<=6:=by
  split at ha<;>omega
 have hK:xm f=(tC f.aU 3&&(tC (f.aU.take f.args.toNat) 2&&(tC f.cg 2&&(!decide ((6:Int)<f.signals.length)&& !f.signals.any fun s=> !isName s)))):=rfl;have Hc:=Hc (l:=f.signals) (g:=127) (fs:=[]) (cs:=[]) (p:=fun s=> !isName s) (.fn oS oS) (fun x _=>ajL);have ha2:0<=f.args/\f.args<=f.aU.length:=⟨yX.1,yX.2.1⟩
 refine ab ?_;refine cl L5 ?_;refine cw ?_;refine bt rfl rfl (abo rfl HO c5 rfl AU ha2) (fun hc=>⟨(by repeat' (first|exact trivial|exact hc|exact rfl|refine And.intro ?_ ?_)),trivial⟩) ?_;refine gc L5 ?_;refine bx ?_;refine gc L5 ?_;refine bw ?_;refine ab ?_;refine gc Hc ?_;refine SS ?_;refine aa (cQ rfl (fun h=>?_) fun h=>cx (aF (az ?_)))
 .have h:=(VU _ _ _ _ _).symm.trans h;rw[<- hK] at h;have h:xm f=false:=by simpa using h
  refine aF (aj ?_);refine SS ?_;refine aa (eQ (aI (d:=B false) rfl ?_));rw[h];rfl
 have h:=(VU _ _ _ _ _).symm.trans h;rw[<- hK] at h;have hh:xm f=true:=by simpa using h
 rw[hh,Bool.true_and];rw[hK] at hh;simp only[bc,Bool.not_eq_true',decide_eq_false_iff_not] at hh;obtain⟨_,_,qi,hsg,_⟩:=hh;clear h hK Hc;have hS:JZ f=(range (f.signals.length - 1)).all (vg f.signals):=rfl;rw[hS];have fA:f.signals.length<=6:=by omega
 refine SS ?_;refine aa (cn (fun s=>aJ prog s ⟨ay [(1,.pt (aX f)),(3,.pt (aY P0 Q0 f))],fun _=>none,2⟩/\(range (f.signals.length - 1)).all (vg f.signals)=true) (k7 (α:=Nat) (fun k=>⟨ay [(1,.pt (aX f)),(3,.pt (aY P0 Q0 f)),(5,I (k+1:Nat))],fun _=>none,2⟩) (fun k=>k<=f.signals.length - 1/\(range k).all (vg f.signals)=true) (fun k=>f.signals.length - k) 0 (fQ eH) ⟨Nat.zero_le _,rfl⟩ ?_) ?_)
 .rintro k ⟨hk,C⟩;refine bx ?_;refine aa ⟨_,rfl,fun h=>?_,fun h=>?_⟩
  .have af:k+1<f.signals.length:=by have:((k+1:Nat):Int)<f.signals.length:=by simpa using h
                                    omega
   have h1:f.signals[k]? =some f.signals[k]:=a7 oG;have h2:f.signals[k+1]? =some f.signals[k+1]:=a7 oG;have U:vg f.signals k=Op.bytesLess f.signals[k].toList f.signals[k+1].toList:=by rw[vg,getD_some h1,getD_some h2]
   generalize f.signals[k]=s1 at h1 U;generalize f.signals[k+1]=s2 at h2 U;have vX:((k+1:Nat):Int) - 1=(k:Int)/\ -9223372036854775808<=(k:Int)/\(k:Int)<=9223372036854775807:=by omega
   refine eA ZN ?_;refine bw ?_;refine ab ?_;refine aw (R2 rfl rfl) ak trivial ?_;refine cz cJ (aO rfl (fun h=>?_) fun h=>cT ?_)
   .have hf:vg f.signals k=false:=by rw[U];simpa using h
    refine ws ?_;refine SS ?_;refine aa (bH (cm (bE (aI (d:=B false) rfl ?_))));rw[qw oG hf];rfl
   .have ht:vg f.signals k=true:=by rw[U];simpa using h
    refine ax ?_;exact aa (bi (k+1) (fQ eH) ⟨oG,oL C ht⟩ oG)
  .have bq:¬ k+1<f.signals.length:=by intro hh;simp at h;omega
   have:k=f.signals.length - 1:=by omega
   subst this;exact⟨fQ eH,C⟩
 rintro s ⟨hg,C⟩;rw[C,Bool.true_and];clear C hS;refine⟨_,hg,az ?_⟩;refine ab ?_;refine aa (bJ (bZ (l:=[(1,.pt (aX f)),(3,.pt (aY P0 Q0 f)),(6,.mp 2)]) (ml:=[(2,.map (mW []))]) eH eH) (aF (az ?_)));refine ba ?_;generalize hn:f.blocks.length=n at dk ⊢;refine aa (cn (fun s=>∃ N,aJ prog s ⟨ay [(1,.pt (aX f)),(3,.pt (aY P0 Q0 f))],fun _=>none,N⟩/\(range n).all (lJ f)=true) (cy (α:=Nat×Nat) (fun k=>⟨ay [(1,.pt (aX f)),(3,.pt (aY P0 Q0 f)),(6,.mp 2),(123,cG f.blocks),(124,I n),(125,I k.1)],br [(2,.map (mW (oX f.blocks k.1)))],k.2⟩) (fun k=>k.1<=n/\(range k.1).all (lJ f)=true/\3<=k.2) (fun k=>n - k.1) (0,3) (bZ eH eH) ⟨Nat.zero_le _,rfl,bd _⟩ ?_) ?_)
 .rintro⟨k,N⟩ ⟨hk,C,hN⟩;dsimp only at hk C hN ⊢;refine SS ?_;refine aa ⟨_,rfl,fun h=>?_,fun h=>?_⟩
  .have af:k<n:=by simpa using h
   have hx:f.blocks[k]? =some f.blocks[k]:=a7 oG;generalize f.blocks[k]=x at hx;have J:lJ f k=(jb f x.fin&&(!decide ((200:Int)<x.ins.length)&& !(x.fin.kind==7&&(oX f.blocks k).any (·==x.fin.a)))):=by rw[lJ,getD_some hx]
   have X:=WO hx;have Hq:=Hq (f:=f) (x:=x.fin);generalize oX f.blocks k=l at J X;refine az ?_;refine ba ?_;refine aa (bJ (qB (i:=N) (l:=[(1,.pt (aX f)),(3,.pt (aY P0 Q0 f)),(6,.mp 2),(8,.pt (bS x)),(123,cG f.blocks),(124,I n),(125,I k)]) (ml:=[(2,.map (mW l))]) (ah _ _ _) ⟨rfl,rfl,rfl,lU,rfl,rfl,rfl,trivial⟩ ⟨E7 oG (ag oG (ag oG rfl)) (acz l),trivial⟩) (aF (aj ?_)));generalize jb f x.fin=e at Hq J;refine ax ?_;refine cl Hq ?_;refine iu ?_;refine aa (cQ rfl (fun h=>?_) fun h=>cx (aj ?_))
   .have hf:lJ f k=false:=by
     rw[J];cases e with
     |false=>rfl
     |true=>have:decide ((200:Int)<x.ins.length)=true:=by simpa using h
            rw[this];rfl
    refine aF (aj ?_);refine SS ?_;refine aa (eQ (cm (bE (aI (d:=B false) rfl ?_))));rw[qw af hf];rfl
   have J:lJ f k= !(x.fin.kind==7&&l.any (·==x.fin.a)):=by
    rw[J];cases e with
    |false=>simp at h
    |true=>have:decide ((200:Int)<x.ins.length)=false:=by simpa using h
           rw[this];rfl
   refine ba ?_;refine aa (aO rfl (fun h7=>?_) fun h7=>cT ?_)
   .rw[h7] at J X;refine aF (aj ?_);refine ba ?_;refine aw (E2 rfl rfl rfl K7 (adE af4 _ _)) aM ⟨K8,Sx Ib _,RI Ib _⟩ ?_;refine aa (cQ rfl (fun h=>?_) fun h=>cx (fF ?_))
    .have hf:lJ f k=false:=by rw[J,h];rfl
     refine aF (aj ?_);refine SS ?_;refine aa (eQ (cm (bE (aI (d:=B false) rfl ?_))));rw[qw af hf];rfl
    .have ht:lJ f k=true:=by rw[J,h];rfl
     refine ba ?_;refine bN (xA rfl rfl rfl rfl K7) aM ⟨K8,Sx Ib _,RI Ib _⟩ ?_;refine aa ?_;refine ab ?_;refine aa (bi (k+1,_) (bZ eH ⟨?_,trivial⟩) ⟨oM,oL C ht,oM⟩ oM);dsimp only;rw[X,if_pos rfl, <- adF h];exact ah _ _ _
   .rw[h7] at J X;refine ab ?_;refine aa (bi (k+1,_) (bZ eH ⟨?_,trivial⟩) ⟨oM,oL C J,oM⟩ oM);dsimp only;rw[X,if_neg oS];rfl
  .have bq:¬ k<n:=by simpa using h
   have:k=n:=by omega
   subst this;exact⟨N,fQ eH,C⟩
 rintro s ⟨N,hg,C⟩;rw[C,Bool.true_and]
 have hE:∀ x∈f.blocks,GX f x.fin:=fun x hx=>by
  obtain⟨k,hk⟩:=dw hx;have af:k<n:=by rw[<- hn];exact(bC.1 hk).1
  have:=bQ.1 C k (by simpa using af);rw[lJ,getD_some hk] at this;simp only[bc] at this;exact QG oG nz this.1
 have A9:=A9 (f:=f) lY lZ rfl rfl hn oG (fun b h=>by have:=(hE b h).wh;omega) (fun b h t ht=>hn▸(hE b h).to t (Om.1 ht));refine⟨_,hg,aj ?_⟩;refine SS ?_;refine cl A9 ?_;refine SS ?_;refine aa (aF (az ?_));refine ba ?_;refine aa (cn (fun s=>(range n).all (tu f)=true) (cy (α:=Nat×Nat) (fun k=>⟨ay [(1,.pt (aX f)),(3,.pt (aY P0 Q0 f)),(9,bM (kX f.blocks)),(157,cG f.blocks),(158,I n),(159,I k.1)],fun _=>none,k.2⟩) (fun k=>k.1<=n/\(range k.1).all (tu f)=true) (fun k=>n - k.1) (0,N) (fQ ⟨rfl,rfl,rfl,rfl,congrArg (fun k:Nat=>I k) hn,rfl,trivial⟩) ⟨Nat.zero_le _,rfl⟩ ?_) ?_)
 .rintro⟨k,N⟩ ⟨hk,C⟩;dsimp only at hk C ⊢;refine SS ?_;refine aa ⟨_,rfl,fun h=>?_,fun h=>?_⟩
  .have af:k<n:=by simpa using h
   have hx:f.blocks[k]? =some f.blocks[k]:=a7 oG;have iO:f.blocks[k]∈f.blocks:=gh _;generalize f.blocks[k]=x at hx iO;have hA:=OV hn af;have oJ:tu f k=(range x.ins.length).all (qH f k x.ins):=by rw[tu,getD_some hx]
   have uK:∀ j,qH f k x.ins j=kY f k (x.ins.getD j xF) ((x.ins.take (j+1)).all kv) (dd f.blocks n k).length:=fun j=>by rw[qH,hn]
   generalize dd f.blocks n k=A at hA uK;refine az ?_;refine cw ?_;refine aa (bJ (fu (i:=N) (l:=[(1,.pt (aX f)),(3,.pt (aY P0 Q0 f)),(9,bM (kX f.blocks)),(10,I k),(11,.pt (bS x)),(157,cG f.blocks),(158,I n),(159,I k)]) (ah _ _ _) ⟨rfl,rfl,rfl,rfl,lU,rfl,rfl,rfl,trivial⟩) (aj ?_));refine SS ?_;refine aa (az ?_);refine ba ?_
   have eF:x.ins.length<=200:=by
    have:=bQ.1 ‹(range n).all (lJ f)=true› k (by simpa using af);rw[lJ,getD_some hx] at this;simp only[bc,Bool.not_eq_true',decide_eq_false_iff_not] at this;omega
   refine aa (cy (α:=Nat×Nat) (fun j=>⟨ay [(1,.pt (aX f)),(3,.pt (aY P0 Q0 f)),(9,bM (kX f.blocks)),(10,I k),(12,B ((x.ins.take j.1).all kv)),(157,cG f.blocks),(158,I n),(159,I k),(165,lH x.ins),(166,I x.ins.length),(167,I j.1)],fun _=>none,j.2⟩) (fun j=>j.1<=x.ins.length/\(range j.1).all (qH f k x.ins)=true) (fun j=>x.ins.length - j.1) (0,N+1) (fQ eH) ⟨Nat.zero_le _,rfl⟩ ?_);rintro⟨j,N⟩ ⟨hj,K9⟩;dsimp only at hj K9 ⊢;refine SS ?_;refine aa ⟨_,rfl,fun h=>?_,fun h=>?_⟩
   .have dj:j<x.ins.length:=by simpa using h
    have hy:x.ins[j]? =some x.ins[j]:=a7 dj;generalize x.ins[j]=y at hy;have fm:(x.ins.take (j+1)).all kv=((x.ins.take j).all kv&&kv y):=by rw[List.take_add_one,hy,List.all_append];simp
    have uK:=uK j;rw[getD_some hy] at uK;generalize (x.ins.take j).all kv=ph at fm;refine az ?_;refine ba ?_;refine aa (bJ (fu (i:=N) (l:=[(1,.pt (aX f)),(3,.pt (aY P0 Q0 f)),(9,bM (kX f.blocks)),(10,I k),(12,B ph),(14,.pt (ct y)),(157,cG f.blocks),(158,I n),(159,I k),(165,lH x.ins),(166,I x.ins.length),(167,I j)]) (ah _ _ _) ⟨rfl,rfl,rfl,rfl,rfl,lU,rfl,rfl,rfl,rfl,rfl,rfl,trivial⟩) (az ?_));refine iu ?_;refine aa (bJ (fQ (l:=[(1,.pt (aX f)),(3,.pt (aY P0 Q0 f)),(9,bM (kX f.blocks)),(10,I k),(12,B ((x.ins.take (j+1)).all kv)),(14,.pt (ct y)),(157,cG f.blocks),(158,I n),(159,I k),(165,lH x.ins),(166,I x.ins.length),(167,I j)]) ⟨rfl,rfl,rfl,rfl,?_,rfl,rfl,rfl,rfl,rfl,rfl,rfl,trivial⟩) (eA ZO ?_))
    .rw[fm];cases ph<;>rfl
    have Hr:=Hr (f:=f) (b:=(k:Int)) (ahead:=(A.length:Int)) (x:=y) (phis:=(x.ins.take (j+1)).all kv);rw[<- uK] at Hr;refine bw ?_;refine cl Hr ?_;refine SS ?_;refine cz cJ (aO rfl (fun h=>?_) fun h=>cT ?_)
    .have hf:qH f k x.ins j=false:=by simpa using h
     refine ws ?_;refine SS ?_;refine aa (bH (cm (cm (bE (aI (d:=B false) rfl ?_)))));rw[qw af (by rw[oJ];exact qw dj hf)]
    .have ht:qH f k x.ins j=true:=by simpa using h
     refine ab ?_;exact aa (bi (j+1,_) (fQ eH) ⟨oM,oL K9 ht⟩ oM)
   .have bq:¬ j<x.ins.length:=by simpa using h
    have D0:j=x.ins.length:=by omega
    subst D0;show aq _ _ _ _ _ _ _ _ _;refine ab ?_;exact aa (bi (k+1,_) (fQ eH) ⟨oM,oL oN (oJ.trans K9)⟩ oM)
  .have bq:¬ k<n:=by simpa using h
   have:k=n:=by omega
   subst this;show(range k).all (tu f)=true
   assumption
 .rintro⟨env,m,nx⟩ C;refine⟨_,.refl _,aj ?_⟩;refine SS ?_;refine aa (aI (d:=B true) rfl ?_);rw[C]
theorem ql{f:ap}:aB prog 63 [.agg (aX f)] (I (fi f)):=by
 have M:∀ a∈[D.agg (aX f)],Tr a:=.cons (.agg (na f)) .nil;refine bl ajT M (.s _) ?_;rw[ajU];have NA:=NA (f:=f);refine az ?_;refine ab ?_;refine aa (bJ (fu (i:=0) (l:=[(1,.pt (aX f))]) rfl eH) (wZ (aj ?_)));refine SS ?_;refine cl NA ?_;refine ab ?_;refine aa (aO rfl (fun h=>aj ?_) fun h=>aj ?_)
 .have hf:nh f=false:=by simpa using h
  refine SS ?_;refine aa (bH (eB (bE (aI (d:=I 80) rfl ?_))));rw[fi,if_neg (by simp[hf])]
 .have hf:nh f=true:=by simpa using h
  have C:=Ku hf;obtain⟨args,ha⟩:=jH C.args.1;have X:=C.args.2;have Ia:=Ia (p:=.s (.map none)) (q:=.s (.map none)) (f:=f) (.s _) (.s _) rfl rfl rfl C.pos (by have:=C.kN;omega) ha oG (OW args) C.bG (fun b x hx y hy U=>C.phi hx hy U);have J:fi f=if tq f.blocks args=true then 0 else 81:=by rw[fi,if_pos hf,ha,jZ]
  generalize tq f.blocks args=r at Ia J;refine ab ?_;refine cl Ia ?_;refine ab ?_;refine aa (aO rfl (fun h=>aj ?_) fun h=>vt (aj ?_))
  .have hr:r=false:=by simpa using h
   refine SS ?_;refine aa (bH (eB (bE (aI (d:=I 81) rfl ?_))));rw[J,hr];rfl
  .have hr:r=true:=by simpa using h
   refine SS ?_;refine aa (bH (aI (d:=I 0) rfl ?_));rw[J,hr];rfl
theorem Ta{P:Program}{t e:TypeId}(h1:bh P t=true)(h2:aD P t=e)(C:P.underlying e=some (.int .u8))(J:P.cellsOf e=1):qg P t:=⟨h1,by rw[h2];exact C,by rw[h2];exact J⟩
theorem Xl(a b:ByteArray):fj (a++b)=fj a++fj b:=by simp[fj]
def sU(m:Mem)(x:D)(a:ByteArray):Option Nat->Prop
 |none=>x=.z/\a=ByteArray.empty
 |some i=>x=.rs i 0 a.size/\m i=some (.cells (fj a) 5)
def clr(m:Mem):Option Nat->Mem
 |none=>m
 |some i=>up m i none
def zb(m:Mem)(nx j:Nat)(T:TypeId)(a:ByteArray)(o:Option Nat):Mem:=up (up (clr m o) nx (some (.cells (fj a) 5))) j (some (.bs true (.rs nx 0 a.size) T))
theorem aet{m:Mem}{nx j:Nat}{r r':Row}{c:Row}:up (up (up m j (some r)) nx (some c)) j (some r')=up (up m nx (some c)) j (some r'):=by
 funext k;simp only[B5];by_cases hj:k=j<;>simp[hj]
theorem aeu{m:Mem}{nx i j:Nat}{r r':Row}{c:Row}:up (up (up (up m j (some r)) i none) nx (some c)) j (some r')=up (up (up m i none) nx (some c)) j (some r'):=by
 funext k;simp only[B5];by_cases hj:k=j<;>simp[hj]
theorem He{m:Mem}{nx j:Nat}{u:Bool}{x:D}{T:TypeId}{a s:ByteArray}{o:Option Nat}(hj:m j=some (.bs u x T))(hl:liesAt prog prog.depth T (2 / prog.cellsOf T) 0 183 1=true)
 (hb:sU m x a o) (M:∀ i,o=some i->i≠j/\i<nx) (iJ:j<nx) (C:a.size+s.size<=140737488355328):
 fG prog 119 [.rp j 0,S s] m nx fun d m' J=>d=.aL [I s.size,.s .nilIface]/\m'=zb m nx j T (a++s) o/\J=nx+1:=by
 refine uL aev ?_;rw[aew];refine ws ?_;refine ab ?_;refine er ?_;refine aw (dL (v:=.rp _ _) rfl) aM trivial ?_;refine gn (ahJ hj hl) rfl aM fun d m' J h=>?_;obtain⟨rfl,rfl,rfl⟩:=h;refine aa ?_;dsimp only[St.put];refine ws ?_;have ao:up m j (some (Row.bs true x T)) j=some (.bs true x T):=ah _ _ _;cases o with
 |none=>
  obtain⟨rfl,rfl⟩:=hb;replace C:s.size<=140737488355328:=by simpa using C
  refine ba ?_;refine q8 (Fp rfl ao V.h V.h) ak ?_;refine SS ?_;refine G8 (YJ rfl rfl V.h (Ta V.h V.h V.h V.h) V.h C V.h) ak ?_;refine aw (Ga rfl (ag oG ao)) ak trivial ?_;refine aw (rK rfl (ag oG ao) V.h) ak (pQ V.h) ?_;refine TS (PY rfl (ag oG ao) V.h V.h rfl rfl) ak ?_;refine er ?_;refine ba ?_;refine aa (gl (d:=I s.size) (e:=.s .nilIface) rfl rfl ⟨rfl,?_,rfl⟩);show up (up (up m j (some (.bs true .z T))) _ (some (.cells (fj s) 5))) j (some (.bs true (.rs _ 0 s.size) T))=zb m _ j T (ByteArray.empty++s) none;rw[aet,ByteArray.empty_append];rfl
 |some i=>
  obtain⟨rfl,hi⟩:=hb;have U:=(M i rfl).1;have X:=(M i rfl).2;have gR:up m j (some (Row.bs true (.rs i 0 a.size) T)) i=some (.cells (fj a) 5):=ag U hi;have hlen:(fj a).length=a.size:=by simp[fj]
  refine ba ?_;refine q8 (Fp rfl ao V.h V.h) ak ?_;refine SS ?_;refine ag3 (aac rfl rfl gR V.h (Ta V.h V.h V.h V.h) V.h (by first|rfl|omega|(simp;done)|(simp;omega)) C V.h) ak ?_;refine aw (Ga rfl (ag oG (ag oG ao))) ak trivial ?_;refine aw (rK rfl (ag oG (ag oG ao)) V.h) ak (pQ V.h) ?_;refine TS (PY rfl (ag oG (ag oG ao)) V.h V.h rfl rfl) ak ?_;refine er ?_;refine ba ?_;refine aa (gl (d:=I s.size) (e:=.s .nilIface) rfl rfl ⟨rfl,?_,rfl⟩);show up (up (up (up m j (some (.bs true (.rs i 0 a.size) T))) i none) _ (some (.cells ((fj a).drop 0++fj s) 5))) j (some (.bs true (.rs _ 0 (a.size+s.size)) T))=zb m _ j T (a++s) (some i);rw[aeu,List.drop_zero, <- Xl,zb,ByteArray.size_append];rfl
end Go.Proofs.Tryz.K
end
namespace Go.Abs
section
variable{P:Program}
end
section
variable{P:Program}{F F':Nat->Prop}{m:Mem}{nx:Nat}{β β':aC}{w w':World}
theorem aaC(hm:aK P F m β w)(hn:β nx=none){f:FuncId}{args es:List D}{n:Nat}{t:TypeId}{vs:Array Value}{dV:List D}{rds:List Nat}(fA:jj P rds m args dV)(hc:ko P f dV es n t)(kK:∀ d∈es,d.gp=true)(hR:Rs F β w args vs):
 Calls P f vs w fun e w'=>∃ v β',e=.returned v/\R F β' w' (.rs nx 0 n) v/\aK P F (up m nx (some (.cells es t))) β' w'/\Step β w β' w'/\∀ i,i≠nx->β' i=β i:=by
 obtain⟨g1,g2⟩:=CQ (P:=P) (F:=F) (β:=β) (w:=w) (fun i hi r hr=>by
  obtain⟨p,hp,ao⟩:=hm.row i r hr
  exact⟨p,hp,ao,fun b hb=>hm.nf i p b hp hb⟩) fA
 refine(hc.2.2 F w vs hm.fb ⟨by rw[hR.1,g1],fun k d v hd hv=>?_⟩).mono ?_
 .have af:k<args.length:=by rw[g1];exact(bC.1 hd).1
  exact g2 k args[k] d (by simp[af]) hd v (hR.2 k args[k] v (by simp[af]) hv)
 rintro e w' ⟨v,p,he,KA,C,ao,hv,hk⟩;have fB:=hm.kept hk
 have hs:Step β w (up β nx (some p)) w':=by
  refine⟨hk.1,fun b hb hf=>⟨hk.2.1 b hb,fun i q hq=>?_⟩,fun i q hq=>.inl ?_,hk.2.2⟩
  .by_cases hi:i=nx
   .subst hi;rw[ah] at hq;cases hq;intro e;have:=(C b e).1;omega
   .rw[aA _ _ hi] at hq;exact hf i q hq
  .rw[aA _ _ (fun e=>by rw[e,hn] at hq;cases hq)];exact hq
 have M:∀ i q b,up β nx (some p) i=some q->q.bG=some b->(i=nx/\q=p)\/(i≠nx/\β i=some q):=fun i q b hq _=>by
  by_cases hi:i=nx
  .subst hi;rw[ah] at hq;cases hq;exact .inl ⟨rfl,rfl⟩
  .rw[aA _ _ hi] at hq;exact .inr ⟨hi,hq⟩
 have qR:cu P F (up β nx (some p)) w' (.cells es t) p:=by
  cases ao with
  |nil _=>exact .nil _
  |cells _ _ b o room sz c h1 h2 X h4 h5=>
   refine .cells es t b o room sz c h1 h2 X h4 fun k d hd=>?_;obtain⟨u,pf,pg,pi⟩:=h5 k d hd;exact⟨u,pf,J9 (kK d (bu hd)) pg,pi⟩
 refine⟨v,up β nx (some p),he,?_,?_,hs,fun i hi=>aA _ _ hi⟩
 .cases hv with
  |kF _ _ _ _ h _=>rw[ah] at h;cases h;exact absurd rfl KA
  |iH _ a h=>rw[ah] at h;cases h;exact .iH nx a (ah _ _ _)
  |jF _ _ a b o len room sz h=>rw[ah] at h;cases h;exact .jF nx 0 a b o len room sz (ah _ _ _)
  |rs _ _ _ cap b o len room sz h h1 h2 X h4=>rw[ah] at h;cases h;exact .rs nx 0 n cap b o len room sz (ah _ _ _) h1 h2 X h4
 .refine⟨fun i r hi=>?_,fun i j q q' b hq fT e J=>?_,fun i q b hq e=>?_,fun i q b hq e=>?_,fB.fb⟩
  .by_cases U:i=nx
   .subst U;rw[ah] at hi;cases hi;exact⟨p,ah _ _ _,qR⟩
   .rw[aA _ _ U] at hi;obtain⟨q,hq,Mf⟩:=hm.row i r hi;exact⟨q,by rw[aA _ _ U];exact hq,Mf.step hs fun b hb=>hk.2.1 b (hm.lt i q b hq hb)⟩
  .rcases M i q b hq e with⟨rfl,rfl⟩|⟨hi,h1⟩<;>rcases M j q' b fT J with⟨rfl,rfl⟩|⟨hj,h2⟩
   .rfl
   .have:=(C b e).1;have:=hm.lt j q' b h2 J;omega
   .have:=(C b J).1;have:=hm.lt i q b h1 e;omega
   .exact hm.inj i j q q' b h1 h2 e J
  .rcases M i q b hq e with⟨_,rfl⟩|⟨_,h1⟩
   .exact(C b e).2
   .exact fB.lt i q b h1 e
  .rcases M i q b hq e with⟨_,rfl⟩|⟨_,h1⟩
   .intro hF;have:=hm.fb.lt b hF;have:=(C b e).1;omega
   .exact hm.nf i q b h1 e
theorem ko.snap{f:FuncId}{args C es:List D}{n:Nat}{t:TypeId}{rds:List Nat}(U:jj P rds m args C)(h:ko P f C es n t)(kK:∀ d∈es,d.gp=true):
 fG P f args m nx fun d m' M=>d=.rs nx 0 n/\m'=up m nx (some (.cells es t))/\M=nx+1:=
 ⟨h.1,fun F β w vs hm hn hR=>(aaC hm (hn nx (bd _)) U h kK hR).mono fun e w' ⟨v,β',h1,h2,X,h4,J⟩=>
  ⟨v,_,_,_,β',h1,⟨rfl,rfl,rfl⟩,X,fun i hi=>by rw[J i oG];exact hn i oG,h2,h4,oG,fun i hi hb=>by rw[J i oG];exact hb⟩⟩
end
end Go.Abs
section
open Go Go.Abs Go.Proofs Go.Argus
namespace Go.Proofs.Tryz.K
theorem KT{l:List Int}{g:FuncId}{fs cs:List D}{p:Int->ByteArray}(hl:l.length<=1000000)(ht:Tr (.fn (.func g) fs cs))(hg:∀ x∈l,aB prog g (fs++[I x]++cs) (S (p x))):ko prog 201 [aP l,.fn (.func g) fs cs] ((l.map p).map S) l.length 9:=by
 refine XH Tb.he (.cons (dn _) (.cons ht .nil)) fun U=>?_;have hlen:=(U (aP l) oS).sl.1;unfold maxLen at hlen;refine HK Tb (.cons (dn _) (.cons ht .nil)) (.map fun _=>.s _) ?_;rw[aex];refine ws ?_;refine SS ?_;refine aa (az ?_);refine SS ?_;refine aa ⟨_,.r4 _ _ _ 5 9 rfl,aF (az ?_)⟩;refine ax ?_
 refine aa (cn (fun s=>∃ r m nx,aJ prog s ⟨ay [(5,.rs r 0 l.length)],m,nx⟩/\m r=some (.cells ((l.map p).map S) 9)) (cy (α:=Nat×Nat×Mem×Nat)
  (fun s=>⟨ay [(1,.fn (.func g) fs cs),(5,.rs s.2.1 0 s.1),(8,aP l),(9,I l.length),(10,I s.1)],s.2.2.1,s.2.2.2⟩)
  (fun s=>s.1<=l.length/\s.2.1<s.2.2.2/\s.2.2.1 s.2.1=some (.cells (((l.take s.1).map p).map S) 9)) (fun s=>l.length - s.1) (0,_,_,_)
  (au eH) ⟨Nat.zero_le _,Nat.lt_succ_self _,rfl⟩ ?_) ?_)
 .rintro⟨j,r,m,nx⟩ ⟨hj,hr,ao⟩;dsimp only at hj hr ao ⊢;refine SS ?_;refine aa ⟨_,rfl,fun h=>?_,fun h=>?_⟩
  .have M:j<l.length:=by simpa using h
   have hx:l[j]? =some l[j]:=by simp[M]
   have J:=hg l[j] (gh _)
   have C:((l.take (j+1)).map p).map S=((l.take j).map p).map S++[S (p l[j])]:=by
    rw[List.take_add_one,hx,List.map_append,List.map_append];rfl
   have X:(((l.take j).map p).map S).length=j:=by simp;omega
   generalize l[j]=x at hx J C;generalize ((l.take j).map p).map S=ds at ao C X;refine ws ?_;refine ax ?_;refine aa (fF ?_);refine ax ?_;refine cl J ?_;refine ax ?_;refine aa ?_;refine ab ?_;refine aa (bi (j+1,nx+1,_,_) (au eH) ⟨oM,oM,?_⟩ oM);dsimp only;rw[C];exact ah _ _ _
  .have bq:¬ j<l.length:=by simpa using h
   have:j=l.length:=by omega
   subst this;rw[List.take_length] at ao;exact⟨r,m,nx,au eH,ao⟩
 .rintro s ⟨r,m,nx,hg,ao⟩;refine⟨_,hg,aj ?_⟩;refine ab ?_;refine aa (aI rfl ⟨r,rfl,ao⟩)
theorem LJ{l:List Int}{g:FuncId}{fs cs:List D}{p:Int->Int}(hl:l.length<=1000000)(ht:Tr (.fn (.func g) fs cs))(hg:∀ x∈l,aB prog g (fs++[U8 x]++cs) (I (p x))):aB prog 202 [iy l,.fn (.func g) fs cs] (aP (l.map p)):=by
 refine mq Tc.he (.cons (oV _) (.cons ht .nil)) fun U=>?_;have hlen:=(U (iy l) oS).sl.1;unfold maxLen at hlen;refine bl Tc (.cons (oV _) (.cons ht .nil)) (dn _) ?_;rw[aey];refine ws ?_;refine SS ?_;refine aa (az ?_);refine SS ?_;refine aa ⟨_,.r4 _ _ _ 5 3 rfl,aF (az ?_)⟩;refine ax ?_
 refine aa (cn (fun s=>∃ r m nx,aJ prog s ⟨ay [(5,.rs r 0 l.length)],m,nx⟩/\m r=some (.cells ((l.map p).map I) 3)) (cy (α:=Nat×Nat×Mem×Nat)
  (fun s=>⟨ay [(1,.fn (.func g) fs cs),(5,.rs s.2.1 0 s.1),(8,iy l),(9,I l.length),(10,I s.1)],s.2.2.1,s.2.2.2⟩)
  (fun s=>s.1<=l.length/\s.2.1<s.2.2.2/\s.2.2.1 s.2.1=some (.cells (((l.take s.1).map p).map I) 3)) (fun s=>l.length - s.1) (0,_,_,_)
  (au eH) ⟨Nat.zero_le _,Nat.lt_succ_self _,rfl⟩ ?_) ?_)
 .rintro⟨j,r,m,nx⟩ ⟨hj,hr,ao⟩;dsimp only at hj hr ao ⊢;refine SS ?_;refine aa ⟨_,rfl,fun h=>?_,fun h=>?_⟩
  .have M:j<l.length:=by simpa using h
   have hx:l[j]? =some l[j]:=by simp[M]
   have J:=hg l[j] (gh _)
   have C:((l.take (j+1)).map p).map I=((l.take j).map p).map I++[I (p l[j])]:=by
    rw[List.take_add_one,hx,List.map_append,List.map_append];rfl
   have X:(((l.take j).map p).map I).length=j:=by simp;omega
   generalize l[j]=x at hx J C;generalize ((l.take j).map p).map I=ds at ao C X;refine ws ?_;refine ax ?_;refine aa (fF ?_);refine ax ?_;refine cl J ?_;refine ax ?_;refine aa ?_;refine ab ?_;refine aa (bi (j+1,nx+1,_,_) (au eH) ⟨oM,oM,?_⟩ oM);dsimp only;rw[C];exact ah _ _ _
  .have bq:¬ j<l.length:=by simpa using h
   have:j=l.length:=by omega
   subst this;rw[List.take_length] at ao;exact⟨r,m,nx,au eH,ao⟩
 .rintro s ⟨r,m,nx,hg,ao⟩;refine⟨_,hg,az ?_⟩;refine ab ?_;refine aa (bJ (fu ao (l:=[(4,aP (l.map p))]) ⟨?_,trivial⟩) (aI rfl rfl));exact(jM (by rw[c3];simp)).trans oS
theorem ahP{n:Int}:aB prog 203 [U8 n] (I (iv n)):=by
 refine bl aez (by simp[Tr.s]) (Tr.s _) ?_;rw[aeA];refine ws ?_;refine SS ?_;refine er ?_;refine ax ?_;exact aa (aI rfl rfl)
theorem T2{l:List Int}(hl:l.length<=1000000):aB prog 147 [iy l] (aP (l.map iv)):=by
 have LJ:=LJ (l:=l) (g:=203) (fs:=[]) (cs:=[]) (p:=iv) hl (.fn oS oS) fun x _=>ahP;refine bl aeB (.cons (oV _) .nil) (dn _) ?_;rw[aeC];refine ws ?_;refine SS ?_;refine er ?_;refine SS ?_;refine cl LJ ?_;refine SS ?_;exact aa (aI rfl rfl)
theorem T3{m:Mem}{nx j k n:Nat}{u:Bool}{x:D}{a:ByteArray}{o:Option Nat}{wsq:List ByteArray}(hj:m j=some (.bs u x 213))(hk:m k=some (.cells (wsq.map S) 9))(hb:sU m x a o)(hn:n=wsq.length)
 (U:∀ i,o=some i->i≠j/\i<nx) (X:j<nx) (hw:wsq.length<=1000000) (hs:a.size+(gT wsq).size<=140737488355328):
 fG prog 144 [.rp j 0,.rs k 0 n] m nx fun d m' J=>d=.aL []/\m'=zb m nx j 213 (a++gT wsq) o/\J=nx+1:=by
 subst hn;have bA:(gT wsq).size=(AB wsq ⟨#[32]⟩).size+1:=by rw[gT,ByteArray.size_append];rfl
 have LK:=LK (l:=wsq) (sep:=⟨#[32]⟩) oG (by
  have:(AB wsq ⟨#[32]⟩).size=(Lib.join (wsq.map (·.data.toList)) [32]).length:=rfl;show(Lib.join (wsq.map (·.data.toList)) [32]).length<=_
  omega)
 have C:(0:Nat)=0->jj prog [k] m [.rs k 0 wsq.length,S ⟨#[32]⟩] [bU wsq,S ⟨#[32]⟩]:=fun _=>⟨Az hk oS (by rw[c9,List.drop_zero,dt oS]) (.map fun _=>.s _),cH (.s _),trivial⟩
 have He:=He (s:=gT wsq) hj ab7 hb U X hs;refine uL aeE ?_;rw[aeF];have ao:=hj;refine JP Y8 kr ?_
 have M:(AB wsq ⟨#[32]⟩).size+(⟨#[10]⟩:ByteArray).size<=maxLen:=by
  show(AB wsq ⟨#[32]⟩).size+1<=_;unfold maxLen;omega
 refine ba ?_;refine S0 LK rfl (C rfl) rfl ak ?_;refine q8 (adZ rfl rfl M) ak ?_;refine cz cJ ?_;refine gn He rfl aM fun d m' J h=>?_;obtain⟨rfl,rfl,rfl⟩:=h;exact aa (vr ⟨rfl,rfl,rfl⟩)
def C'(m:Mem)(nx j:Nat)(a:ByteArray)(o:Option Nat)(d:D)(m':Mem)(C:Nat):Prop:=
 d=.aL []/\∃ q,q≠j/\nx<=q/\q<C/\m' j=some (.bs true (.rs q 0 a.size) 213)/\m' q=some (.cells (fj a) 5)/\∀ i,i<nx->i≠j->o≠some i->m' i=m i
theorem Ql{m C:Mem}{nx n0 j:Nat}{a:ByteArray}{o:Option Nat}(hj:j<n0)(hn:n0<=nx)(hm:∀ i,i<n0->m i=C i):C' C n0 j a o (.aL []) (zb m nx j 213 a o) (nx+1):=by
 refine⟨rfl,nx,oG,hn,oG,ah _ _ _,(aA _ _ oG).trans (ah _ _ _),fun i hi h1 h2=>?_⟩;refine((aA _ _ h1).trans (aA _ _ oG)).trans ?_;cases o with
 |none=>exact hm i hi
 |some k=>exact(aA _ _ (fun e=>h2 (by rw[e]))).trans (hm i hi)
theorem sU.mono{m m':Mem}{x:D}{a:ByteArray}{o:Option Nat}(h:sU m x a o)(hm:∀ i,o=some i->m' i=m i):sU m' x a o:=by
 cases o with
 |none=>exact h
 |some i=>exact⟨h.1,(hm i rfl).trans h.2⟩
theorem Hf{m:Mem}{nx j:Nat}{u:Bool}{x y:D}{a word:ByteArray}{o:Option Nat}{l:List Int}(hj:m j=some (.bs u x 213))(hb:sU m x a o)
 (J:∀ i,o=some i->i≠j/\i<nx) (iJ:j<nx) (hy:y=aP l\/∃ k,k<nx/\y=.rs k 0 l.length/\m k=some (.cells (l.map I) 3)) (hi:∀ n∈l,i64 n) (hl:l.length<=100000)
 (hs:a.size+(gT (word::l.map eO)).size<=140737488355328):
 fG prog 146 [.rp j 0,S word,y] m nx (C' m nx j (a++gT (word::l.map eO)) o):=by
 have KT:=KT (l:=l) (g:=145) (fs:=[]) (cs:=[]) (p:=eO) oG (.fn oS oS) fun n hn=>T4 (hi n hn).1 (hi n hn).2;have U:Tr (.fn (.func 145) [] []):=.fn oS oS
 have key:∃ rds,jj prog rds (up m nx (some (.cells [S word] 9))) [y,.fn (.func 145) [] []] [aP l,.fn (.func 145) [] []]:=by
  rcases hy with rfl|⟨k,hk,rfl,X⟩
  .exact⟨[],cH (dn l),cH U,trivial⟩
  .exact⟨[k],Az (ag oG X) oS (by rw[c3,List.drop_zero,dt oS]) (.map fun _=>.s _),cH U,trivial⟩
 obtain⟨rds,fA⟩:=key;have mB:=KT.snap (nx:=nx+1) fA (by simp[D.gp]);have C:y.core=y:=by rcases hy with rfl|⟨k,_,rfl,_⟩<;>rfl
 have M:y.ask:=by rcases hy with rfl|⟨k,_,rfl,_⟩<;>trivial
 refine uL aeG ?_;rw[aeH];refine lB ?_;refine ax ?_;refine aw (dL (v:=y) C) (by repeat' (first|exact trivial|exact M|refine And.intro ?_ ?_)) trivial ?_;refine gn mB (by show some (201,[y.core,D.fn (Fn.func 145) [] []])=_;rw[C]) (by repeat' (first|exact trivial|exact C|exact M|exact rfl|refine And.intro ?_ ?_)) fun d m' ai h=>?_;obtain⟨rfl,rfl,rfl⟩:=h;dsimp only[St.put];refine ji (iX rfl (ag oG (ah _ _ _)) rfl V.h V.h (kO (ah _ _ _) rfl) rfl) ak ⟨V.h,rfl,(by first|omega|exact bF rfl|(simp;done)|(simp;omega)),oC,(by first|rfl|(simp;done)|(simp;omega)),(by unfold maxLen;first|omega|(simp;omega)),(by rw[b9];first|omega|(simp;omega)),(by first|(simp;done)|(simp;omega))⟩ ?_;refine gn (T3 (k:=nx+1+1) (wsq:=word::l.map eO) (ag oG (ag oG (ag oG (ag oG hj)))) ((ah _ _ _).trans (by rw[List.drop_zero,List.drop_zero,dt oS];rfl)) (hb.mono fun i hi=>?_) oP (fun i hi=>⟨(J i hi).1,by have:=(J i hi).2;omega⟩) oG oP hs) rfl aM fun d m' ai h=>?_
 .have:=(J i hi).2;exact ag oG (ag oG (ag oG (ag oG rfl)))
 obtain⟨rfl,rfl,rfl⟩:=h;refine aa (vr (Ql iJ oG fun i hi=>?_));exact ag oG (ag oG (ag oG (ag oG rfl)))
theorem T6{m:Mem}{nx j:Nat}{u:Bool}{y:D}{a word:ByteArray}{o:Option Nat}{x:cU}(hj:m j=some (.bs u y 213))(hb:sU m y a o)
 (C:∀ i,o=some i->i≠j/\i<nx) (iJ:j<nx) (hi:Hg x) (hl:x.args.length<=10000) (hs:a.size+(T5 word x).size<=140737488355328):
 fG prog 148 [.rp j 0,S word,.agg (ct x)] m nx (C' m nx j (a++T5 word x) o):=by
 refine uL aeI ?_;rw[aeJ];refine ws ?_;refine SS ?_;refine aa (lB ?_);have ao:up m nx (some (Row.cells (ct x) 54)) nx=some (.cells [U8 x.op,I x.to,I x.a,I x.b,I x.n,aP x.args] 54):=ah _ _ _;have iF:(x.args.map I).take (x.args.length*1)=x.args.map I:=dt oS;refine bw ?_;refine bx ?_;refine aw (rK rfl (ag oG ao) V.h) ak (pQ V.h) ?_;refine aw (j5 rfl (ag oG ao) rfl V.h) ak (j6 V.h V.h rfl) ?_;refine ji (iX rfl (ah _ _ _) rfl wH c3 (qD iF) rfl) aM ⟨yu,rfl,oS,oC,rfl,by unfold maxLen;omega,by rw[b3];omega,oS⟩ ?_;refine gn (Hf (y:=.rs (nx+1+1) 0 (5+x.args.length)) (l:=vY x) (word:=word) (ag oG (ag oG (ag oG (ag oG hj)))) (hb.mono fun i hi=>?_) (fun i hi=>⟨(C i hi).1,by have:=(C i hi).2;omega⟩) oG (.inr ⟨nx+1+1,oG,congrArg (D.rs _ 0) (by simp[vY];omega),ah _ _ _⟩) hi (by simp[vY];omega) hs) rfl aM fun d m' ai h=>?_
 .have:=(C i hi).2;exact ag oG (ag oG (ag oG (ag oG rfl)))
 refine aa (vr ?_);obtain⟨rfl,q,h1,h2,J,M,U,X⟩:=h;exact⟨rfl,q,h1,oG,J,M,U,fun i hi h7 h8=>(X i oG h7 h8).trans (ag oG (ag oG (ag oG (ag oG rfl))))⟩
theorem T7{m:Mem}{nx j i:Nat}{u:Bool}{a:ByteArray}{T:TypeId}(hj:m j=some (.bs u (.rs i 0 a.size) T))(hi:m i=some (.cells (fj a) 5))(h0:0<a.size)(hs:a.size<=140737488355328):
 fG prog 120 [.rp j 0] m nx fun d m' ai=>d=S a/\m'=up m i none/\ai=nx:=by
 refine uL aeK ?_;rw[aeL];refine ws ?_;refine SS ?_;refine aa (eA Y9 ?_);have ao:=hj;have gR:=hi;have kn:=aaH a;have X:((fj a).drop 0).take a.size=lM (vZ a):=by rw[List.drop_zero,dt (by simp[fj]),adk]
 have J:=h0;have M:(prog).underlying 229=some (.pointer 5):=kr;have U:a.size<=maxLen:=by unfold maxLen;omega
 have C:=aaI a;refine ax ?_;refine q8 (Fp rfl ao V.h V.h) ak ?_;refine q8 (abN rfl gR (by first|assumption|omega)) ak ?_;refine ax ?_;refine q8 (Fp rfl ao V.h V.h) ak ?_;refine aw (Gc rfl gR) ak V.h ?_;refine ag4 (ac5 (s:=.tmp 0) rfl rfl kn gR X J M c5 U C) aM ?_;refine SS ?_;refine cz cJ (aI rfl ⟨?_,rfl,rfl⟩);exact congrArg (fun s=>D.s (.string s)) (ab8 a)
end Go.Proofs.Tryz.K
namespace Go.Proofs.Tryz.K
def mJ(q:Nat)(a:ByteArray):Mem:=br [(1,.bs true (.rs q 0 a.size) 213),(q,.cells (fj a) 5)]
theorem rD{q:Nat}{a:ByteArray}:mJ q a 1=some (.bs true (.rs q 0 a.size) 213):=by simp[mJ,br]
theorem MS{q:Nat}{a:ByteArray}(h:q≠1):mJ q a q=some (.cells (fj a) 5):=by simp[mJ,br,h]
theorem tV{q:Nat}{a:ByteArray}(h:q≠1):sU (mJ q a) (.rs q 0 a.size) a (some q):=⟨rfl,MS h⟩
theorem su{m m':Mem}{nx C:Nat}{U:List (List ByteArray)}{w:List ByteArray}{o:Option Nat}{d:D}(h:C' m nx 1 (eP U++gT w) o d m' C)(h1:1<nx):
 ∃ q,1<q/\nx<=q/\q<C/\∀ (env:Env) (l:List (Nat×D)),kW l env->aJ prog ⟨env,m',C⟩ ⟨ay l,mJ q (eP (U++[w])),C⟩:=by
 obtain⟨_,q,h2,X,h4,J,M,_⟩:=h;rw[<- QL] at J M;exact⟨q,oG,X,h4,fun env l hl=>bZ hl ⟨J,M,trivial⟩⟩
theorem Da{m:Mem}{nx j k n:Nat}{u:Bool}{x:D}{a:ByteArray}{o:Option Nat}{wsq:List ByteArray}(hj:m j=some (.bs u x 213))(hk:m k=some (.cells (wsq.map S) 9))(hb:sU m x a o)(hn:n=wsq.length)
 (J:∀ i,o=some i->i≠j/\i<nx) (C:j<nx) (M:wsq.length<=1000000) (hs:a.size+(gT wsq).size<=140737488355328):
 fG prog 144 [.rp j 0,.rs k 0 n] m nx (C' m nx j (a++gT wsq) o):=
 (T3 hj hk hb hn J C M hs).mono fun d m' U h=>by
  obtain⟨rfl,rfl,rfl⟩:=h;exact Ql C (bd _) fun _ _=>rfl
theorem abu{σ:D->D}(h:∀ n,sub σ (.s n)=.s n)(a:ByteArray):(fj a).map (sub σ)=fj a:=by
 unfold fj;rw[List.map_map];exact List.map_congr_left fun c _=>h _
theorem GP{P:Program}{env:Env}{m:Mem}{nx n' q:Nat}{a:ByteArray}{cs:List D}{e:TypeId}{l:List (Nat×D)}(hm:m nx=some (.cells cs e))(h1:m 1=mJ q a 1)(h2:m q=mJ q a q)(bL:1<q)(C:q<nx)
 (hl:kW l fun t=>sub (cF nx cs (P.cellsOf e)) (env t)):aJ P ⟨env,m,n'⟩ ⟨ay l,mJ q a,n'⟩:=by
 refine qB hm hl ⟨?_,?_,trivial⟩
 .show(if 1=nx then none else(m 1).map _)=_;rw[if_neg oG,h1,rD];show some (Row.bs true (sub (cF nx cs (P.cellsOf e)) (.rs q 0 a.size)) 213)=_;rw[zR oG]
 .show(if q=nx then none else(m q).map _)=_;rw[if_neg oG,h2,MS oG];show some (Row.cells ((fj a).map (sub (cF nx cs (P.cellsOf e)))) 5)=_;rw[abu fun _=>rfl]
theorem lG{i sz:Nat}{cs:List D}:sub (cF i cs sz) (.rp i 0)=.pt cs:=lU.trans (by rw[List.drop_zero])
theorem uM{c g:ap}{args:List Int}(ha:∀ r∈args,0<=r/\r<c.aU.length)(hg:g.args<=g.aU.length)(hl:args.length<=1000000):
 aB prog 99 [.agg (aY dA dA c),.agg (aX g),aP args] (B (o9 c g args)):=by
 have M:∀ a∈[D.agg (aY dA dA c),.agg (aX g),aP args],Tr a:=.cons (j9 (.s _) (.s _) c) (.cons (.agg (na g)) (.cons (dn _) .nil));refine bl ahX M (Tr.s _) ?_;rw[ahY];refine az ?_;refine ax ?_;refine aa (bJ (dD [(0,aY dA dA c,113),(1,aX g,48)] eH (l:=[(2,aP args),(3,.pt (aY dA dA c)),(4,.pt (aX g))]) eH) (aF (aj ?_)));refine bx ?_;refine aa (cQ rfl (fun h=>aF (aj ?_)) fun h=>cx (aF (az ?_)))
 .have:¬ (args.length:Int)=g.args:=by simpa using h
  have hf:o9 c g args=false:=by simp[o9,this]
  rw[hf];refine SS ?_;exact aa (eQ (aI rfl rfl))
 have hlen:(args.length:Int)=g.args:=by simpa using h
 refine ax ?_
 refine aa (cn (fun s=>aJ prog s ⟨ay [],fun _=>none,2⟩/\∀ j,j<args.length->xY c g args j=true) (cy (α:=Nat) (fun k=>⟨ay [(3,.pt (aY dA dA c)),(4,.pt (aX g)),(14,aP args),(15,I args.length),(16,I k)],fun _=>none,2⟩)
  (fun k=>k<=args.length/\∀ j,j<k->xY c g args j=true) (fun k=>args.length - k) 0 (au eH) ⟨oG,fun j hj=>by omega⟩ ?_) ?_)
 .rintro k ⟨hk,hinv⟩;refine SS ?_;refine aa ⟨_,rfl,fun h=>?_,fun h=>?_⟩
  .have af:k<args.length:=by simpa using h
   obtain⟨x,hx⟩:∃ x,args[k]? =some x:=⟨_,a7 af⟩
   obtain⟨X,D6⟩:=ha x (bu hx);refine ws ?_;refine bx ?_;obtain⟨C,rfl⟩:∃ C:Nat,x=C:=⟨x.toNat,oG⟩
   obtain⟨u,hu⟩:∃ u,c.aU[C]? =some u:=⟨_,a7 oG⟩
   obtain⟨v,hv⟩:∃ v,g.aU[k]? =some v:=⟨_,a7 oG⟩
   refine aa (eA aaJ ?_);refine bw ?_;refine ax ?_;have J:xY c g args k=(u==v):=by simp[xY,o0,dC,hx,hu,hv]
   refine cz cJ (aO rfl (fun hp=>?_) fun hp=>?_)
   .have hf:o9 c g args=false:=by
     have:(range args.length).all (xY c g args)=false:=by
      rw[List.all_eq_false];refine⟨k,List.mem_range.2 af,?_⟩;rw[J];simpa using hp
     simp[o9,this]
    rw[hf];refine ws ?_;refine SS ?_;exact aa (bH (cm (bE (aI rfl rfl))))
   .refine cT ?_;refine ab ?_;refine aa (bi (k+1) (au eH) ⟨oG,fun j hj=>?_⟩ oG);by_cases e:j=k
    .subst e;rw[J];simpa using hp
    .exact hinv j oG
  .have bq:¬ k<args.length:=by simpa using h
   exact⟨.forget _ _ _ _ fun _=>.inr rfl,fun j hj=>hinv j oG⟩
 .rintro s ⟨hg,U⟩;refine⟨_,hg,aj ?_⟩
  have:(range args.length).all (xY c g args)=true:=by
   rw[bQ];intro j hj;exact U j (List.mem_range.1 hj)
  have hf:o9 c g args=true:=by simp[o9,hlen,this]
  rw[hf];refine SS ?_;exact aa (aI rfl rfl)
end Go.Proofs.Tryz.K
namespace Go.Proofs.Tryz.K
theorem KU{n:Int}(h:i64 n):aB prog 145 [I n] (S (eO n)):=T4 h.1 h.2
theorem ab9{f:ap}(j3:fi f=0)(ht:CJ f):aB prog 111 [.agg (aX f)] (.aL [S (lS f),I 0]):=by
 have ql:=ql (f:=f);rw[j3] at ql;have kR:=T2 (l:=f.aU) (by have:=ht.aU;omega);have kS:=T2 (l:=f.cg) (by have:=ht.cg;omega);have hsg:=ht.sigs
 have T8:∀ l:List Int,∀ n∈l.map iv,i64 n:=fun l n hn=>by
  obtain⟨x,_,rfl⟩:=List.mem_map.1 hn;exact zX x
 have U9:(eP []).size+(gT [xX,f.name,ss f,eO f.args,eO (iv f.result)]).size<=140737488355328:=ht.le ⟨_,rfl⟩;have U':(eP [[xX,f.name,ss f,eO f.args,eO (iv f.result)]]).size+(gT (AD::(f.aU.map iv).map eO)).size<=140737488355328:=ht.le ⟨_,rfl⟩;have Va:(eP [[xX,f.name,ss f,eO f.args,eO (iv f.result)],AD::(f.aU.map iv).map eO]).size+(gT (CK::(f.cg.map iv).map eO)).size<=140737488355328:=ht.le ⟨_,rfl⟩;have Vb:(eP [[xX,f.name,ss f,eO f.args,eO (iv f.result)],AD::(f.aU.map iv).map eO,CK::(f.cg.map iv).map eO]).size+(gT (E5::f.signals)).size<=140737488355328:=ht.le ⟨_,rfl⟩;refine bl Td (.cons (.agg (na f)) .nil) (.aL (.cons (.s _) (.cons (.s _) .nil))) ?_;rw[Te];refine az ?_;refine ax ?_;refine aa (bJ (dD [(0,aX f,48)] eH (l:=[(1,.pt (aX f))]) eH) (aF (aj ?_)));refine SS ?_;refine cl ql ?_;refine SS ?_;refine aa (aF (aj ?_));refine ab ?_;refine aa (qU (cx (aj ?_)));refine SS ?_;refine G8 (ac6 rfl rfl rfl V.h) ak ?_;refine aw (jO (v:=.rp _ _) rfl) ak trivial ?_;refine er ?_;refine SS ?_;refine aa (iz (fun s=>aJ prog s ⟨ay [(1,.pt (aX f)),(5,.rp 1 0),(6,S (ss f))],br [(1,.bs false .z 213)],2⟩) (aj ?_) fun s hs=>⟨_,hs,WD Y' kr ?_⟩)
 .refine ab ?_;refine aa (aO rfl (fun hi=>?_) fun hi=>?_)
  .refine lB ?_;refine SS ?_;refine aa (bZ ⟨rfl,rfl,?_,trivial⟩ eH);rw[ss,hi];rfl
  .refine cT (bZ ⟨rfl,rfl,?_,trivial⟩ eH);rw[ss,hi];rfl
 refine cw ?_;refine o8 (KU ht.args) rfl aM ?_;refine ax ?_;refine o8 (KU (zX f.result)) rfl aM ?_;refine SS ?_;refine cz cJ ?_;refine gn (Da (wsq:=[xX,f.name,ss f,eO f.args,eO (iv f.result)]) (a:=eP []) (o:=none) rfl rfl ⟨rfl,rfl⟩ rfl (fun i hi=>by cases hi) oG oS U9) rfl aM fun d m nx h=>?_;refine aa ?_;dsimp only[St.put];obtain⟨q,bL,_,C,hg⟩:=su h oG;refine⟨_,hg _ [(1,.pt (aX f)),(5,.rp 1 0)] ⟨rfl,rfl,trivial⟩,az ?_⟩;clear hg h;refine ax ?_;refine o8 kR rfl aM ?_;refine gn (Hf (word:=AD) rD (tV oG) (fun i hi=>by cases hi;omega) oG (.inl rfl) (T8 _) (by simp;have:=ht.aU;omega) U') rfl aM fun d m nx h=>?_;refine aa ?_;dsimp only[St.put];obtain⟨q,bL,_,C,hg⟩:=su h oG;refine⟨_,hg _ [(1,.pt (aX f)),(5,.rp 1 0)] ⟨rfl,rfl,trivial⟩,az ?_⟩;clear hg h;refine ax ?_;refine o8 kS rfl aM ?_;refine gn (Hf (word:=CK) rD (tV oG) (fun i hi=>by cases hi;omega) oG (.inl rfl) (T8 _) (by simp;have:=ht.cg;omega) Va) rfl aM fun d m nx h=>?_;refine aa ?_;dsimp only[St.put];obtain⟨q,bL,_,C,hg⟩:=su h oG;refine⟨_,hg _ [(1,.pt (aX f)),(5,.rp 1 0)] ⟨rfl,rfl,trivial⟩,az ?_⟩;clear hg h;have X:(f.signals.map S).take (f.signals.length*1)=f.signals.map S:=dt oS;refine ba ?_;refine ji (iX rfl (ah _ _ _) rfl rE c9 (qD X) rfl) aM ⟨uh,rfl,oS,oC,rfl,by unfold maxLen;omega,by rw[b9];omega,oS⟩ ?_;refine gn (Da (wsq:=E5::f.signals) (ag oG (ag oG (ag oG rD))) (ah _ _ _) ((tV oG).mono fun i hi=>?_) oP (fun i hi=>by cases hi;omega) oG oP Vb) rfl aM fun d m nx h=>?_
 .cases hi;exact ag oG (ag oG (ag oG rfl))
 refine aa ?_;dsimp only[St.put];obtain⟨q,bL,_,C,hg⟩:=su h oG;refine⟨_,hg _ [(1,.pt (aX f)),(5,.rp 1 0)] ⟨rfl,rfl,trivial⟩,aF (az ?_)⟩;clear hg h;refine ba ?_;have LL:kL f f.blocks.length=jR f:=by rw[kL,List.take_length];rfl
 have dk:=ht.LM
 refine aa (cn (fun s=>∃ q nx,1<q/\q<nx/\aJ prog s ⟨ay [(5,.rp 1 0)],mJ q (eP (jR f)),nx⟩) (cy (α:=Nat×Nat×Nat)
  (fun s=>⟨ay [(5,.rp 1 0),(53,cG f.blocks),(54,I f.blocks.length),(55,I s.1)],mJ s.2.1 (eP (kL f s.1)),s.2.2⟩)
  (fun s=>s.1<=f.blocks.length/\1<s.2.1/\s.2.1<s.2.2) (fun s=>f.blocks.length - s.1) (0,q,nx)
  (au eH) ⟨Nat.zero_le _,bL,C⟩ ?_) ?_)
 .clear U9 U' Va Vb kR kS bL C X;rintro⟨k,q,nx⟩ ⟨hk,bL,C⟩;dsimp only at hk bL C ⊢;refine SS ?_;refine aa ⟨_,rfl,fun h=>?_,fun h=>?_⟩
  .have gj:k<f.blocks.length:=by simpa using h
   clear h;obtain⟨b,hb⟩:∃ b,f.blocks[k]? =some b:=⟨_,a7 gj⟩
   have jh:=bu hb;have MP:=ht.ahT b jh;have MQ:=ht.ins b jh;have M:=ht.fin b jh;refine az ?_;refine ba ?_;refine aa ⟨_,GP (cs:=bS b) (e:=59) (ah _ _ _) (ag oG (ag oG rfl)) (ag oG (ag oG rfl)) bL C (l:=[(5,.rp 1 0),(53,cG f.blocks),(54,I f.blocks.length),(55,I k),(8,.pt (bS b))]) ⟨gk oG,rfl,rfl,rfl,lG,trivial⟩,az ?_⟩;refine ab ?_;refine gn (Da (wsq:=[oZ]) (ag oG rD) (ah _ _ _) ((tV oG).mono fun i hi=>by cases hi;exact(ag oG rfl)) rfl (fun i hi=>by cases hi;omega) oG oS (ht.le (IU hb ⟨_,rfl⟩))) rfl aM fun d m nx h=>?_;refine aa ?_;dsimp only[St.put];obtain⟨q,bL,_,C,hg⟩:=su h oG;refine⟨_,hg _ [(5,.rp 1 0),(53,cG f.blocks),(54,I f.blocks.length),(55,I k),(8,.pt (bS b))] ⟨rfl,rfl,rfl,rfl,rfl,trivial⟩,aF (az ?_)⟩;clear hg h;refine ba ?_
   refine aa (cn (fun s=>∃ q nx,1<q/\q<nx/\aJ prog s ⟨ay [(5,.rp 1 0),(53,cG f.blocks),(54,I f.blocks.length),(55,I k),(8,.pt (bS b))],mJ q (eP (kL f k++([oZ]::qW b))),nx⟩) (cy (α:=Nat×Nat×Nat)
    (fun s=>⟨ay [(5,.rp 1 0),(53,cG f.blocks),(54,I f.blocks.length),(55,I k),(8,.pt (bS b)),(63,lH b.ins),(64,I b.ins.length),(65,I s.1)],mJ s.2.1 (eP (kL f k++([oZ]::(b.ins.take s.1).map (nH sF)))),s.2.2⟩)
    (fun s=>s.1<=b.ins.length/\1<s.2.1/\s.2.1<s.2.2) (fun s=>b.ins.length - s.1) (0,q,nx)
    (au eH) ⟨Nat.zero_le _,bL,C⟩ ?_) ?_)
   .clear bL C;rintro⟨i,q,nx⟩ ⟨hi,bL,C⟩;dsimp only at hi bL C ⊢;refine SS ?_;refine aa ⟨_,rfl,fun h=>?_,fun h=>?_⟩
    .have ei:i<b.ins.length:=by simpa using h
     clear h;obtain⟨x,hx⟩:∃ x,b.ins[i]? =some x:=⟨_,a7 ei⟩
     have iO:=MQ x (bu hx);have he:kL f k++([oZ]::(b.ins.take (i+1)).map (nH sF))=(kL f k++([oZ]::(b.ins.take i).map (nH sF)))++[nH sF x]:=by rw[List.take_add_one,hx];simp
     have q7:(kL f k++([oZ]::(b.ins.take i).map (nH sF)))++[nH sF x]<+:jR f:=by
      rw[<- he];refine IU hb ?_;unfold lN qW;refine(List.cons_prefix_cons).2 ⟨rfl,?_⟩;exact((List.take_prefix _ _).map _).trans (List.prefix_append _ _)
     refine az ?_;refine ba ?_;refine aa ⟨_,GP (cs:=ct x) (e:=54) (ah _ _ _) (ag oG (ag oG rfl)) (ag oG (ag oG rfl)) bL C (l:=[(5,.rp 1 0),(53,cG f.blocks),(54,I f.blocks.length),(55,I k),(63,lH b.ins),(64,I b.ins.length),(65,I i),(8,.pt (bS b)),(10,.pt (ct x))]) ⟨gk oG,rfl,rfl,rfl,rfl,rfl,rfl,rfl,lG,trivial⟩,fF ?_⟩;refine ab ?_;refine gn (T6 (x:=x) (word:=sF) rD (tV oG) (fun i hi=>by cases hi;omega) oG iO.1 iO.2 (ht.le q7)) rfl aM fun d m nx h=>?_;refine aa ?_;dsimp only[St.put];obtain⟨q,bL,_,C,hg⟩:=su (w:=nH sF x) h oG;refine ab ?_;refine aa (bi (i+1,q,nx) ?_ ⟨oM,bL,C⟩ oM);dsimp only;rw[he];exact hg _ _ ⟨rfl,rfl,rfl,rfl,rfl,rfl,rfl,rfl,trivial⟩
    .have bq:¬ i<b.ins.length:=by simpa using h
     have:i=b.ins.length:=by omega
     subst this;rw[List.take_length];exact⟨q,nx,bL,C,au eH⟩
   clear bL C;rintro s ⟨q,nx,bL,C,hg⟩;refine⟨_,hg,az ?_⟩;clear hg;refine ax ?_;refine bN (fq (cs':=bD _) rfl rfl (ah _ _ _) rfl) ak (bX V.h V.h (by first|(simp;done)|exact⟨rfl,bF rfl⟩|(simp;omega)) (by rfl)) ?_;refine aa ⟨_,GP (cs:=bD b.fin) (e:=57) (ah _ _ _) (ag oG (ag oG rfl)) (ag oG (ag oG rfl)) bL C (l:=[(5,.rp 1 0),(53,cG f.blocks),(54,I f.blocks.length),(55,I k),(11,.pt (bD b.fin))]) ⟨gk oG,rfl,rfl,rfl,lG,trivial⟩,az ?_⟩;generalize hfx:b.fin=x at*
   have X:(x.args.map I).take (x.args.length*1)=x.args.map I:=dt oS;have qm:=M.2.1;have hwl:=M.2.2.2.2.1;have hB:lN b=[oZ]::(qW b++(ra x::(jS x++(ll x++x.aR.map lT)))):=by unfold lN;rw[hfx]
   have U:∀ A,A<+:jS x++(ll x++x.aR.map lT)->((kL f k++([oZ]::qW b))++[ra x])++A<+:jR f:=fun A hA=>by
    have:=IU hb (p:=[oZ]::(qW b++(ra x::A))) (by
     rw[hB]
     exact(List.cons_prefix_cons).2 ⟨rfl,(List.prefix_append_right_inj _).2 ((List.cons_prefix_cons).2 ⟨rfl,hA⟩)⟩)
    simpa[List.append_assoc] using this
   refine bw ?_;refine dJ ?_;refine ji (iX rfl (ah _ _ _) rfl wH c3 (qD X) rfl) aM ⟨yu,rfl,oS,oC,rfl,by unfold maxLen;omega,by rw[b3];omega,oS⟩ ?_;refine gn (Hf (y:=.rs (nx+1+1) 0 (6+x.args.length)) (l:=ui x) (word:=Dz) (ag oG (ag oG (ag oG rD))) ((tV oG).mono fun i hi=>by cases hi;exact(ag oG (ag oG (ag oG rfl)))) (fun i hi=>by cases hi;omega) oG (.inr ⟨nx+1+1,oG,congrArg (D.rs _ 0) (by simp[ui];omega),ah _ _ _⟩) M.1 (by simp[ui];omega) (ht.le (p:=kL f k++([oZ]::qW b)) (l:=ra x) (by simpa using U [] List.nil_prefix))) rfl aM fun d m nx h=>?_;refine aa ?_;dsimp only[St.put];obtain⟨q,bL,_,C,hg⟩:=su (w:=ra x) h oG;generalize HL:(kL f k++([oZ]::qW b))++[ra x]=T1 at*
   refine⟨_,hg _ [(5,.rp 1 0),(53,cG f.blocks),(54,I f.blocks.length),(55,I k),(11,.pt (bD x))] ⟨rfl,rfl,rfl,rfl,rfl,trivial⟩,iz (fun s=>∃ q nx,1<q/\q<nx/\aJ prog s ⟨ay [(5,.rp 1 0),(53,cG f.blocks),(54,I f.blocks.length),(55,I k),(11,.pt (bD x))],mJ q (eP (T1++jS x)),nx⟩) (aj ?_) fun s hs=>?_⟩
   .refine ax ?_;refine aa (aO rfl (fun hn=>?_) fun hn=>?_)
    .have J:jS x=[[GQ,x.name]]:=by
      unfold jS;rw[if_neg];intro he;simp[he] at hn
     refine lB ?_;refine ba ?_;refine gn (Da (wsq:=[GQ,x.name]) (ag oG rD) (ah _ _ _) ((tV oG).mono fun i hi=>by cases hi;exact(ag oG rfl)) rfl (fun i hi=>by cases hi;omega) oG oS (ht.le (U _ (by rw[J];exact List.prefix_append _ _)))) rfl aM fun d m nx h=>?_;refine aa ?_;dsimp only[St.put];obtain⟨q,bL,_,C,hg⟩:=su h oG;rw[J];exact⟨q,nx,bL,C,hg _ _ ⟨rfl,rfl,rfl,rfl,rfl,trivial⟩⟩
    .have J:jS x=[]:=by
      unfold jS;rw[if_pos];by_cases he:x.name.toList=[]
      .exact he
      .simp[he] at hn
     rw[J,List.append_nil];exact cT ⟨q,nx,bL,C,au eH⟩
   clear hg h bL C;obtain⟨q,nx,bL,C,hg⟩:=hs;refine⟨_,hg,iz (fun s=>∃ q nx,1<q/\q<nx/\aJ prog s ⟨ay [(5,.rp 1 0),(53,cG f.blocks),(54,I f.blocks.length),(55,I k),(11,.pt (bD x))],mJ q (eP ((T1++jS x)++ll x)),nx⟩) (aj ?_) fun s hs=>?_⟩
   .refine ax ?_;refine aa (aO rfl (fun hn=>?_) fun hn=>?_)
    .have J:ll x=[nH AS x.ins]:=by
      unfold ll;rw[if_pos];simpa using hn
     have MR:(T1++jS x)++[nH AS x.ins]<+:jR f:=by
      rw[List.append_assoc];refine U _ ((List.prefix_append_right_inj _).2 ?_);rw[J];exact List.prefix_append _ _
     refine lB ?_;refine ax ?_;refine gn (T6 (x:=x.ins) (word:=AS) rD (tV oG) (fun i hi=>by cases hi;omega) oG M.2.2.1 M.2.2.2.1 (ht.le MR)) rfl aM fun d m nx h=>?_;refine aa ?_;dsimp only[St.put];obtain⟨q,bL,_,C,hg⟩:=su (w:=nH AS x.ins) h oG;rw[J];exact⟨q,nx,bL,C,hg _ _ ⟨rfl,rfl,rfl,rfl,rfl,trivial⟩⟩
    .have J:ll x=[]:=by
      unfold ll;rw[if_neg];simpa using hn
     rw[J,List.append_nil];exact cT ⟨q,nx,bL,C,au eH⟩
   clear hg bL C;obtain⟨q,nx,bL,C,hg⟩:=hs;refine⟨_,hg,az ?_⟩;clear hg;refine ba ?_
   refine aa (cy (α:=Nat×Nat×Nat)
    (fun s=>⟨ay [(5,.rp 1 0),(53,cG f.blocks),(54,I f.blocks.length),(55,I k),(110,lC x.aR),(111,I x.aR.length),(112,I s.1)],mJ s.2.1 (eP (((T1++jS x)++ll x)++(x.aR.take s.1).map lT)),s.2.2⟩)
    (fun s=>s.1<=x.aR.length/\1<s.2.1/\s.2.1<s.2.2) (fun s=>x.aR.length - s.1) (0,q,nx)
    (by dsimp only;rw[List.take_zero,List.map_nil,List.append_nil];exact au eH) ⟨Nat.zero_le _,bL,C⟩ ?_)
   clear bL C;rintro⟨i,q,nx⟩ ⟨hi,bL,C⟩;dsimp only at hi bL C ⊢;refine SS ?_;refine aa ⟨_,rfl,fun h=>?_,fun h=>?_⟩
   .have ei:i<x.aR.length:=by simpa using h
    clear h;obtain⟨w,hw⟩:∃ w,x.aR[i]? =some w:=⟨_,a7 ei⟩
    have Ms:=M.2.2.2.2.2 w (bu hw);have he:((T1++jS x)++ll x)++(x.aR.take (i+1)).map lT=(((T1++jS x)++ll x)++(x.aR.take i).map lT)++[lT w]:=by rw[List.take_add_one,hw];simp
    have MR:(((T1++jS x)++ll x)++(x.aR.take i).map lT)++[lT w]<+:jR f:=by
     rw[<- he,List.append_assoc,List.append_assoc];exact U _ ((List.prefix_append_right_inj _).2 ((List.prefix_append_right_inj _).2 ((List.take_prefix _ _).map _)))
    refine az ?_;refine ba ?_;refine aa ⟨_,GP (cs:=gP w) (e:=79) (ah _ _ _) (ag oG (ag oG rfl)) (ag oG (ag oG rfl)) bL C (l:=[(5,.rp 1 0),(53,cG f.blocks),(54,I f.blocks.length),(55,I k),(110,lC x.aR),(111,I x.aR.length),(112,I i),(13,.pt (gP w))]) ⟨gk oG,rfl,rfl,rfl,rfl,rfl,rfl,lG,trivial⟩,JP XZ kr ?_⟩;refine bx ?_;refine o8 (KU Ms) rfl aM ?_;refine SS ?_;refine cz cJ ?_;refine gn (Da (wsq:=lT w) (ag oG rD) (ah _ _ _) ((tV oG).mono fun i hi=>by cases hi;exact(ag oG rfl)) rfl (fun i hi=>by cases hi;omega) oG (by simp[lT]) (ht.le MR)) rfl aM fun d m nx h=>?_;refine aa ?_;dsimp only[St.put];obtain⟨q,bL,_,C,hg⟩:=su (w:=lT w) h oG;show aq prog cY (Z dE 31) false [] _ (Z dE 31).toList _ [];refine ab ?_;refine aa (bi (i+1,q,nx) ?_ ⟨oM,bL,C⟩ oM);dsimp only;rw[he];exact hg _ _ ⟨rfl,rfl,rfl,rfl,rfl,rfl,rfl,trivial⟩
   .have bq:¬ i<x.aR.length:=by simpa using h
    have:i=x.aR.length:=by omega
    subst this;rw[List.take_length];show aq prog cY (Z dE 32) false [] _ (Z dE 32).toList _ [];refine ab ?_;refine aa (bi (k+1,q,nx) ?_ ⟨oM,bL,C⟩ oM);dsimp only;rw[Qm hb,show kL f k++lN b=((T1++jS x)++ll x)++x.aR.map lT by rw[hB, <- HL];simp[List.append_assoc]];exact au eH
  .have bq:¬ k<f.blocks.length:=by simpa using h
   have:k=f.blocks.length:=by omega
   subst this;rw[LL];exact⟨q,nx,bL,C,au eH⟩
 .rintro s ⟨q,nx,bL,C,hg⟩;refine⟨_,hg,aj ?_⟩
  have h0:0<(eP (jR f)).size:=by
   show 0<(gT _++eP _).size;rw[ByteArray.size_append,gT,ByteArray.size_append];have:(⟨#[10]⟩:ByteArray).size=1:=rfl;omega
  refine SS ?_;refine aw (Ga rfl rfl) ak trivial ?_;refine SS ?_;refine gn (T7 rD (MS oG) h0 ht.size) rfl aM fun d m nx h=>?_;obtain⟨rfl,rfl,rfl⟩:=h;dsimp only[St.put];refine ab ?_;exact aa (gl rfl rfl rfl)
theorem Hh{f:ap}(ht:fi f=0->CJ f):aB prog 111 [.agg (aX f)] (.aL [S (if fi f=0 then lS f else⟨#[]⟩),I (fi f)]):=by
 by_cases C:fi f=0
 .have h:=ab9 C (ht C);rw[if_pos C,C];exact h
 rw[if_neg C];have ql:=ql (f:=f);refine bl Td (.cons (.agg (na f)) .nil) (.aL (.cons (.s _) (.cons (.s _) .nil))) ?_;rw[Te];generalize fi f=e at*
 have ud:(e !=0)=true:=by simpa using C
 refine az ?_;refine ax ?_;refine aa (bJ (dD [(0,aX f,48)] eH (l:=[(1,.pt (aX f))]) eH) (aF (aj ?_)));refine SS ?_;refine cl ql ?_;refine SS ?_;refine aa (aF (aj ?_));refine ab ?_;refine aa (GN (aF (aj ?_)));refine ax ?_;exact aa (eQ (gl rfl rfl rfl))
theorem ahU{f:ap}{name:ByteArray}:aB prog 116 [.agg (aX f),.pt [S name]] (B (f.name.toList==name.toList)):=by
 refine bl aeM (.cons (.agg (na f)) (.cons (.pt (.cons (.s _) .nil)) .nil)) (Tr.s _) ?_;rw[aeN];refine az ?_;refine ab ?_;refine aa (bJ (dD [(0,aX f,48)] eH (l:=[(1,.pt [S name]),(2,.pt (aX f))]) eH) (aj ?_));refine bx ?_;exact aa (aI rfl rfl)
theorem yv{l:List ap}{g:FuncId}{fs cs:List D}{p:ap->Bool}(hl:l.length<=1000000)(ht:Tr (.fn (.func g) fs cs))(hg:∀ x∈l,aB prog g (fs++[.agg (aX x)]++cs) (B (p x))):aB prog 115 [bj l,.fn (.func g) fs cs] (I (mI p l)):=by
 refine bl aeO (.cons (js _) (.cons ht .nil)) (Tr.s _) ?_;rw[aeP];refine ws ?_;refine SS ?_;refine aa (aF (az ?_));refine ax ?_
 refine aa (cn (fun s=>aJ prog s ⟨ay [],fun _=>none,0⟩/\∀ (j:Nat) y,l[j]? =some y->p y=false) (cy (α:=Nat) (fun k=>⟨ay [(0,bj l),(1,.fn (.func g) fs cs),(7,I l.length),(8,I k)],fun _=>none,0⟩)
  (fun k=>k<=l.length/\∀ j y,j<k->l[j]? =some y->p y=false) (fun k=>l.length - k) 0 (au eH) ⟨oG,fun j y hj=>by omega⟩ ?_) ?_)
 .rintro k ⟨hk,hinv⟩;refine SS ?_;refine aa ⟨_,rfl,fun h=>?_,fun h=>?_⟩
  .have af:k<l.length:=by simpa using h
   obtain⟨x,hx⟩:∃ x,l[k]? =some x:=⟨_,a7 af⟩
   have C:=hg x (bu hx);refine ws ?_;refine ab ?_;refine er ?_;refine bx ?_;refine cl C ?_;refine aa (aO rfl (fun hp=>?_) fun hp=>?_)
   .refine ws ?_;refine ab ?_;refine aa (bH (cm (bE (aI rfl ?_))));rw[td hx hp hinv];rfl
   .refine cT ?_;refine ab ?_;refine aa (bi (k+1) (au eH) ⟨oG,fun j y hj hy=>?_⟩ oG);by_cases e:j=k
    .subst e;rw[hx] at hy;cases hy;exact hp
    .exact hinv j y oG hy
  .have M:¬ k<l.length:=by simpa using h
   exact⟨.forget _ _ _ _ fun _=>.inr rfl,fun j y hy=>hinv j y (by have:=(bC.1 hy).1;omega) hy⟩
 .rintro s ⟨hg,J⟩;refine⟨_,hg,aj ?_⟩;refine SS ?_;refine aa (aI rfl ?_);rw[w8 J];rfl
theorem pk{l:List ap}{name:ByteArray}(hl:l.length<=1000000):aB prog 74 [bj l,S name] (CL (findF l name)):=by
 have yv:=yv (l:=l) (g:=116) (fs:=[]) (cs:=[.pt [S name]]) (p:=fun g=>g.name.toList==name.toList) hl (.fn oS (.cons (.pt (.cons (.s _) .nil)) .nil)) fun x _=>ahU
 change aB _ _ _ (I (named l name)) at yv
 have C:Tr (CL (findF l name)):=by
  cases findF l name with
  |none=>exact .aL (.cons (.agg (.cons (.s _) (.cons (.s _) (.cons (.s _) (.cons (.s _) (.cons .z (.cons .z (.cons .z (.cons .z .nil))))))))) (.cons (.s _) .nil))
  |some g=>exact .aL (.cons (.agg (na g)) (.cons (.s _) .nil))
 refine bl ahV (.cons (js _) (.cons (.s _) .nil)) C ?_;rw[ahW];refine az ?_;refine eI (F9 (d:=.s (.string _)) rfl rfl) ak rfl ?_;refine ab ?_;refine aa ⟨_,qB (i:=0) (cs:=[S name]) (e:=9) rfl (l:=[(0,bj l),(3,.pt [S name]),(4,.rp 1 0)]) eH (ml:=[(1,.cells jA 48)]) eH,aj ?_⟩;refine ab ?_;refine cl yv ?_;refine SS ?_;refine aa (aF (aj ?_));rcases Xm l name with⟨hn,hf⟩|⟨i,g,hn,hg,hf⟩
 .rw[hn,hf];refine ab ?_;refine aa (GN (aF (aj ?_)));refine ax ?_;exact aa (eQ (mX (gN rfl rfl zc oE rfl t48 oC) rfl rfl))
 .rw[hn,hf];have af:=(bC.1 hg).1;refine ab ?_;refine aa (cQ rfl (fun h=>?_) fun _=>cx (aj ?_))
  .simp at h;omega
  refine cw ?_;exact aa (mX (gN rfl rfl zc oE rfl t48 (bd 8)) rfl rfl)
theorem Rv{m:Mem}{nx j sz:Nat}{r:Row}{cs:List D}(hj:j≠nx)(h1:m j=some r)(hr:Row.sub (cF nx cs sz) r=r):(fun j=>if j=nx then none else(m j).map (Row.sub (cF nx cs sz))) j=some r:=by
 show(if j=nx then none else(m j).map _)=_;rw[if_neg hj,h1];exact congrArg some hr
theorem p8{c:ap}{l:List ap}{r:Int}(hl:l.length<=1000000)(dk:c.blocks.length<=1000000):aB prog 100 [.agg (aY dA dA c),bj l,I r] (CL (wa c l r)):=by
 have M:∀ a∈[D.agg (aY dA dA c),bj l,I r],Tr a:=.cons (j9 (.s _) (.s _) c) (.cons (js l) (.cons (.s _) .nil));have pk:∀ {name:ByteArray},aB prog 74 [bj l,S name] (CL (findF l name)):=fun {name}=>pk hl;refine bl aeQ M (aaK _) ?_;rw[aeR];refine az ?_;refine ax ?_;refine aa ⟨_,qB (i:=0) (cs:=aY dA dA c) (e:=113) rfl (l:=[(1,bj l),(2,I r),(3,.pt (aY dA dA c)),(6,.rp 1 0)]) eH (ml:=[(1,.cells jA 48)]) eH,aF (az ?_)⟩;refine bx ?_
 refine aa (cn (fun s=>(∃ nx,2<=nx/\aJ prog s ⟨ay [(6,.rp 1 0)],br [(1,.cells jA 48)],nx⟩)/\∀ (j:Nat) y,c.blocks[j]? =some y->AE r y=false) (cy (α:=Nat×Nat) (fun s=>⟨ay [(1,bj l),(2,I r),(6,.rp 1 0),(12,cG c.blocks),(13,I c.blocks.length),(14,I s.1)],br [(1,.cells jA 48)],s.2⟩)
  (fun s=>s.1<=c.blocks.length/\2<=s.2/\∀ j y,j<s.1->c.blocks[j]? =some y->AE r y=false) (fun s=>c.blocks.length - s.1) (0,2) (au eH) ⟨Nat.zero_le _,bd _,fun j y hj=>by omega⟩ ?_) ?_)
 .rintro⟨k,nx⟩ ⟨hk,C,hinv⟩;dsimp only at hk C hinv ⊢;refine SS ?_;refine aa ⟨_,rfl,fun h=>?_,fun h=>?_⟩
  .have af:k<c.blocks.length:=by simpa using h
   obtain⟨b,hb⟩:∃ b,c.blocks[k]? =some b:=⟨_,a7 af⟩
   refine az ?_;refine ba ?_;refine aa ⟨_,qB (i:=nx) (cs:=bS b) (e:=59) (ah _ _ _) (l:=[(1,bj l),(2,I r),(6,.rp 1 0),(12,cG c.blocks),(13,I c.blocks.length),(14,I k),(9,.pt (bS b))]) ⟨rfl,rfl,gk oG,rfl,rfl,rfl,lG,trivial⟩ (ml:=[(1,.cells jA 48)]) ⟨Rv oG (ag oG (ag oG rfl)) rfl,trivial⟩,aj ?_⟩;have J:AE r b=(decide (b.fin.kind=7)&&decide (b.fin.a=r)):=rfl;refine bw ?_;refine ab ?_;refine aa (aO rfl (fun hp=>?_) fun hp=>?_)
   .have hf:wa c l r=findF l b.fin.name:=by
     unfold wa
     have:c.blocks.find? (AE r)=some b:=by
      rw[List.find?_eq_some_iff_getElem];refine⟨by rw[J];simpa using hp,k,af,(bC.1 hb).2,fun j hj=>?_⟩;have:=hinv j c.blocks[j] hj (a7 oG);simp[this]
     rw[this]
    rw[hf];have pk:= @pk b.fin.name;generalize findF l b.fin.name=o at pk;cases o with
    |none=>
     refine ws ?_;refine ba ?_;refine cl pk ?_;refine ba ?_;refine aa (bH (cm (bE (mX (gN rfl rfl zc oE rfl t48 (bd 8)) rfl rfl))))
    |some g=>
     refine ws ?_;refine ba ?_;refine cl pk ?_;refine ba ?_;refine aa (bH (cm (bE (mX (gN rfl rfl zc oE rfl t48 (bd 8)) rfl rfl))))
   .refine cT ?_;refine ab ?_;refine aa (bi (k+1,nx+1) (au eH) ⟨oM,oM,fun j y hj hy=>?_⟩ oM);by_cases e:j=k
    .subst e;rw[hb] at hy;cases hy;rw[J];simpa using hp
    .exact hinv j y (by dsimp only at hj;omega) hy
  .have X:¬ k<c.blocks.length:=by simpa using h
   exact⟨⟨nx,C,au eH⟩,fun j y hy=>hinv j y (by have:=(bC.1 hy).1;omega) hy⟩
 .rintro s ⟨⟨nx,C,hg⟩,U⟩
  have hf:wa c l r=none:=by
   unfold wa
   have:c.blocks.find? (AE r)=none:=by
    rw[List.find?_eq_none];intro y hy;obtain⟨j,hj⟩:=dw hy;simp[U j y hj]
   rw[this]
  rw[hf];refine⟨_,hg,aj ?_⟩;refine ax ?_;exact aa (mX (gN rfl rfl zc oE rfl t48 (bd 8)) rfl rfl)
theorem HM{c:ap}{l:List ap}(hc:JS c l):aB prog 64 [.agg (aY dA dA c),bj l] (B (tM c l)):=by
 have bg:∀ a∈[D.agg (aY dA dA c),bj l],Tr a:=.cons (j9 (.s _) (.s _) c) (.cons (js l) .nil);have hl:=hc.len;have dk:=hc.LM;refine bl ahZ bg (.s _) ?_;rw[ah0];refine az ?_;refine ab ?_;refine aa (bJ (dD [(0,aY dA dA c,113)] eH (l:=[(1,bj l),(2,.pt (aY dA dA c))]) eH) (aF (az ?_)));refine bx ?_
 refine aa (cn (fun s=>∃ nx,aJ prog s ⟨ay [],fun _=>none,nx⟩/\∀ (j:Nat) y,c.blocks[j]? =some y->iZ c l y=true) (cy (α:=Nat×Nat) (fun s=>⟨ay [(1,bj l),(2,.pt (aY dA dA c)),(14,cG c.blocks),(15,I c.blocks.length),(16,I s.1)],fun _=>none,s.2⟩)
  (fun s=>s.1<=c.blocks.length/\∀ j y,j<s.1->c.blocks[j]? =some y->iZ c l y=true) (fun s=>c.blocks.length - s.1) (0,1) (au eH) ⟨Nat.zero_le _,fun j y hj=>by omega⟩ ?_) ?_)
 .rintro⟨k,nx⟩ ⟨hk,hinv⟩;dsimp only at hk hinv ⊢;refine SS ?_;refine aa ⟨_,rfl,fun h=>?_,fun h=>?_⟩
  .have af:k<c.blocks.length:=by simpa using h
   clear h;obtain⟨b,hb⟩:∃ b,c.blocks[k]? =some b:=⟨_,a7 af⟩
   have jh:=bu hb;have fD:=hc.args b jh;have hcA:=hc.a b jh;have T9:=hc.b b jh;have C:iZ c l b=if b.fin.kind=6 then xZ c l b.fin else if b.fin.kind=7 then yc c l b.fin else if b.fin.kind=8 then vJ c l b.fin else true:=rfl
   have iM:iZ c l b=false->tM c l=false:=fun h=>by
    unfold tM;rw[List.all_eq_false];exact⟨b,jh,by simp[h]⟩
   have p9:iZ c l b=true->∀ j y,j<k+1->c.blocks[j]? =some y->iZ c l y=true:=fun h j y hj hy=>by
    by_cases e:j=k
    .subst e;rw[hb] at hy;cases hy;exact h
    .exact hinv j y oG hy
   refine az ?_;refine ba ?_;refine aa ⟨_,fu (i:=nx) (cs:=bS b) (e:=59) (ah _ _ _) (l:=[(1,bj l),(2,.pt (aY dA dA c)),(14,cG c.blocks),(15,I c.blocks.length),(16,I k),(6,.pt (bS b))]) ⟨rfl,rfl,rfl,rfl,rfl,lG,trivial⟩,az ?_⟩;refine ax ?_;refine bN (fq (cs':=bD _) rfl rfl (ah _ _ _) rfl) ak (bX V.h V.h (by first|(simp;done)|exact⟨rfl,bF rfl⟩|(simp;omega)) (by rfl)) ?_;refine aa ⟨_,fu (i:=nx+1) (cs:=bD b.fin) (e:=57) (ah _ _ _) (l:=[(1,bj l),(2,.pt (aY dA dA c)),(14,cG c.blocks),(15,I c.blocks.length),(16,I k),(7,.pt (bD b.fin))]) ⟨rfl,rfl,rfl,rfl,rfl,lG,trivial⟩,az ?_⟩;generalize b.fin=x at*
   have pk:=pk (l:=l) (name:=x.name) hl;cases ho:findF l x.name with
   |none=>
    rw[ho] at pk;refine ax ?_;refine cl pk ?_;refine cw ?_;refine aa ⟨_,fu (i:=nx+1+1) (cs:=jA) (e:=48) (ah _ _ _) (l:=[(1,bj l),(2,.pt (aY dA dA c)),(14,cG c.blocks),(15,I c.blocks.length),(16,I k),(7,.pt (bD x)),(8,.pt jA),(9,B false)]) ⟨rfl,rfl,rfl,rfl,rfl,rfl,lG,rfl,trivial⟩,aj ?_⟩;refine ab ?_;refine aa (pz (aj ?_));refine ab ?_;refine aa (aO rfl (fun J=>?_) fun J=>?_)
    .have J:x.kind=6:=by simpa using J
     rw[if_pos J] at C;have zd:xZ c l x=false:=by unfold xZ;rw[ho]
     rw[iM (C.trans zd)];refine eA Jp ?_;refine dJ ?_;refine z fun _ _=>?_;refine ab ?_;(iterate 2 refine z fun _ _=>?_);refine bw ?_;refine ab ?_;(iterate 2 refine z fun _ _=>?_);refine ab ?_;(iterate 2 refine z fun _ _=>?_);refine SS ?_;refine cz cJ (S3 (aj ?_));refine SS ?_;exact aa (bH (eB (cm (bE (aI rfl rfl)))))
    .have J:¬ x.kind=6:=by simpa using J
     rw[if_neg J] at C;refine ws ?_;refine ab ?_;refine aa (aO rfl (fun U=>?_) fun U=>?_)
     .have U:x.kind=7:=by simpa using U
      rw[if_pos U] at C;have wI:yc c l x=false:=by unfold yc;rw[ho]
      rw[iM (C.trans wI)];refine ws ?_;refine bw ?_;refine z fun _ _=>?_;refine ab ?_;(iterate 2 refine z fun _ _=>?_);refine SS ?_;refine aa (S3 (aj ?_));refine SS ?_;exact aa (bH (eB (cm (bE (aI rfl rfl)))))
     have U:¬ x.kind=7:=by simpa using U
     rw[if_neg U] at C;refine ws ?_;refine ab ?_;refine aa (aO rfl (fun X=>?_) fun X=>?_)
     .have X:x.kind=8:=by simpa using X
      rw[if_pos X] at C;obtain⟨Mz,MP⟩:=T9 X;have p8:=p8 (c:=c) (l:=l) (r:=x.a) hl dk;cases nT:wa c l x.a with
      |none=>
       rw[nT] at p8;have M:iZ c l b=true:=by rw[C];unfold vJ;rw[nT]
       refine az ?_;refine ba ?_;refine cl p8 ?_;refine cw ?_;refine aa ⟨_,fu (i:=nx+1+1+1) (cs:=jA) (e:=48) (ah _ _ _) (l:=[(1,bj l),(2,.pt (aY dA dA c)),(14,cG c.blocks),(15,I c.blocks.length),(16,I k),(7,.pt (bD x)),(10,.pt jA),(11,B false)]) ⟨rfl,rfl,rfl,rfl,rfl,rfl,lG,rfl,trivial⟩,eA EQ ?_⟩;refine iu ?_;(iterate 2 refine z fun _ _=>?_);refine ab ?_;refine z fun _ _=>?_;refine SS ?_;refine cz cJ (GM (cT ?_));show aq prog cY (Z dM 17) false [] _ (Z dM 17).toList _ [];refine ab ?_;refine aa (bi (k+1,_) (au eH) ⟨oM,p9 M⟩ oM)
      |some g'=>
       rw[nT] at p8;have po:vJ c l x= !(o0 c.aU x.b !=g'.result):=by unfold vJ;rw[nT]
       obtain⟨bn,MT⟩:∃ bn:Nat,x.b=bn:=⟨x.b.toNat,oG⟩
       obtain⟨u,hu⟩:∃ u,c.aU[bn]? =some u:=⟨_,a7 oG⟩
       obtain⟨kd,a,bb,to,gL,nm,ins,args,aR,ze⟩:=x;dsimp only at*
       subst MT;have D7:o0 c.aU (bn:Int)=u:=by simp[o0,dC,hu]
       refine az ?_;refine ba ?_;refine cl p8 ?_;refine cw ?_;refine aa ⟨_,fu (i:=nx+1+1+1) (cs:=aX g') (e:=48) (ah _ _ _) (l:=[(1,bj l),(2,.pt (aY dA dA c)),(14,cG c.blocks),(15,I c.blocks.length),(16,I k),(7,.pt (bD ⟨kd,a,(bn:Int),to,gL,nm,ins,args,aR,ze⟩)),(10,.pt (aX g')),(11,B true)]) ⟨rfl,rfl,rfl,rfl,rfl,rfl,lG,rfl,trivial⟩,eA EQ ?_⟩;refine bw ?_;refine ba ?_;refine cz cJ (aO rfl (fun hp=>aj ?_) fun hp=>cT ?_)
       .have jG:iZ c l b=false:=by
         rw[C,po,D7];simpa using hp
        rw[iM jG];refine SS ?_;exact aa (bH (eB (cm (bE (aI rfl rfl)))))
       .have M:iZ c l b=true:=by
         rw[C,po,D7];simpa using hp
        show aq prog cY (Z dM 17) false [] _ (Z dM 17).toList _ [];refine ab ?_;refine aa (bi (k+1,_) (au eH) ⟨oM,p9 M⟩ oM)
     .have X:¬ x.kind=8:=by simpa using X
      have M:iZ c l b=true:=by rw[C,if_neg X]
      refine cT ?_;show aq prog cY (Z dM 17) false [] _ (Z dM 17).toList _ [];refine ab ?_;refine aa (bi (k+1,_) (au eH) ⟨oM,p9 M⟩ oM)
   |some g=>
    rw[ho] at pk;have Vd:=Za ho;refine ax ?_;refine cl pk ?_;refine cw ?_;refine aa ⟨_,fu (i:=nx+1+1) (cs:=(aX g)) (e:=48) (ah _ _ _) (l:=[(1,bj l),(2,.pt (aY dA dA c)),(14,cG c.blocks),(15,I c.blocks.length),(16,I k),(7,.pt (bD x)),(8,.pt (aX g)),(9,B true)]) ⟨rfl,rfl,rfl,rfl,rfl,rfl,lG,rfl,trivial⟩,aj ?_⟩;refine ab ?_;refine aa (pz (aj ?_));refine ab ?_;refine aa (aO rfl (fun J=>?_) fun J=>?_)
    .have J:x.kind=6:=by simpa using J
     rw[if_pos J] at C;have zd:xZ c l x=(!g.iter&&(o9 c g x.args&& !(decide (0<=x.a)&&(o0 c.aU x.a !=g.result)))):=by unfold xZ;rw[ho]
     have uM:=uM (c:=c) (g:=g) (args:=x.args) (fD (.inl J)).1 (hc.fl g Vd) (fD (.inl J)).2;generalize o9 c g x.args=fb at uM zd;by_cases ha:0<=x.a
     .have zg:=hcA J;obtain⟨an,MU⟩:∃ an:Nat,x.a=an:=⟨x.a.toNat,oG⟩
      obtain⟨u,hu⟩:∃ u,c.aU[an]? =some u:=⟨_,a7 oG⟩
      obtain⟨kd,a,bb,to,gL,nm,ins,args,aR,ze⟩:=x;dsimp only at*
      subst MU;have uf:decide ((0:Int)<=(an:Int))=true:=by simpa using ha
      refine eA Jp ?_;refine bw ?_;refine ab ?_;refine gc uM ?_;refine bx ?_;refine bt rfl rfl (Aj rfl rfl uf) (fun hc=>⟨ak,rfl⟩) ?_;refine bw ?_;refine ba ?_;refine cz cJ (aO rfl (fun hp=>aj ?_) fun hp=>cT ?_)
      .have jG:iZ c l b=false:=by
        rw[C,zd];revert hp;cases g.iter<;>cases fb<;>simp[o0,dC,hu]
       rw[iM jG];refine SS ?_;exact aa (bH (eB (cm (bE (aI rfl rfl)))))
      .have M:iZ c l b=true:=by
        rw[C,zd];revert hp;cases g.iter<;>cases fb<;>simp[o0,dC,hu]
       show aq prog cY (Z dM 17) false [] _ (Z dM 17).toList _ [];refine ab ?_;refine aa (bi (k+1,_) (au eH) ⟨oM,p9 M⟩ oM)
     .have uf:decide (0<=x.a)=false:=by simpa using ha
      refine eA Jp ?_;refine bw ?_;refine ab ?_;refine gc uM ?_;refine bx ?_;refine bt rfl rfl (Aj rfl rfl uf) (fun hc=>⟨ak,rfl⟩) ?_;refine SS ?_;refine iY rfl (congrArg some (Bool.and_false _)) fun _ _=>?_;refine iY rfl (congrArg some (Bool.and_false _)) fun _ _=>?_;refine iY rfl (congrArg some (Bool.and_false _)) fun _ _=>?_;refine iY rfl (congrArg some (Bool.and_false _)) fun _ _=>?_;refine iY rfl (congrArg some (Bool.and_false _)) fun _ _=>?_;refine iY rfl (congrArg some (Bool.and_false _)) fun _ _=>?_;refine iY rfl (congrArg some (Bool.and_false _)) fun _ _=>?_;refine iY rfl (congrArg some (Bool.and_false _)) fun _ _=>?_;refine iY rfl (congrArg some (Bool.and_false _)) fun _ _=>?_;refine iY rfl (congrArg some (Bool.and_false _)) fun _ _=>?_;refine ab ?_;refine cz cJ (aO rfl (fun hp=>aj ?_) fun hp=>cT ?_)
      .have jG:iZ c l b=false:=by
        rw[C,zd];revert hp;cases g.iter<;>cases fb<;>simp[ha]
       rw[iM jG];refine SS ?_;exact aa (bH (eB (cm (bE (aI rfl rfl)))))
      .have M:iZ c l b=true:=by
        rw[C,zd];revert hp;cases g.iter<;>cases fb<;>simp[ha]
       show aq prog cY (Z dM 17) false [] _ (Z dM 17).toList _ [];refine ab ?_;refine aa (bi (k+1,_) (au eH) ⟨oM,p9 M⟩ oM)
    .have J:¬ x.kind=6:=by simpa using J
     rw[if_neg J] at C;refine ws ?_;refine ab ?_;refine aa (aO rfl (fun U=>?_) fun U=>?_)
     .have U:x.kind=7:=by simpa using U
      rw[if_pos U] at C;have wI:yc c l x=(g.iter&&o9 c g x.args):=by unfold yc;rw[ho]
      have uM:=uM (c:=c) (g:=g) (args:=x.args) (fD (.inr U)).1 (hc.fl g Vd) (fD (.inr U)).2;generalize o9 c g x.args=fb at uM wI;refine ws ?_;refine bw ?_;refine ax ?_;refine gc uM ?_;refine ab ?_;refine aa (aO rfl (fun hp=>aj ?_) fun hp=>cT ?_)
      .have jG:iZ c l b=false:=by
        rw[C,wI];revert hp;cases g.iter<;>cases fb<;>simp
       rw[iM jG];refine SS ?_;exact aa (bH (eB (cm (bE (aI rfl rfl)))))
      .have M:iZ c l b=true:=by
        rw[C,wI];revert hp;cases g.iter<;>cases fb<;>simp
       show aq prog cY (Z dM 17) false [] _ (Z dM 17).toList _ [];refine ab ?_;refine aa (bi (k+1,_) (au eH) ⟨oM,p9 M⟩ oM)
     have U:¬ x.kind=7:=by simpa using U
     rw[if_neg U] at C;refine ws ?_;refine ab ?_;refine aa (aO rfl (fun X=>?_) fun X=>?_)
     .have X:x.kind=8:=by simpa using X
      rw[if_pos X] at C;obtain⟨Mz,MP⟩:=T9 X;have p8:=p8 (c:=c) (l:=l) (r:=x.a) hl dk;cases nT:wa c l x.a with
      |none=>
       rw[nT] at p8;have M:iZ c l b=true:=by rw[C];unfold vJ;rw[nT]
       refine az ?_;refine ba ?_;refine cl p8 ?_;refine cw ?_;refine aa ⟨_,fu (i:=nx+1+1+1) (cs:=jA) (e:=48) (ah _ _ _) (l:=[(1,bj l),(2,.pt (aY dA dA c)),(14,cG c.blocks),(15,I c.blocks.length),(16,I k),(7,.pt (bD x)),(10,.pt jA),(11,B false)]) ⟨rfl,rfl,rfl,rfl,rfl,rfl,lG,rfl,trivial⟩,eA EQ ?_⟩;refine iu ?_;(iterate 2 refine z fun _ _=>?_);refine ab ?_;refine z fun _ _=>?_;refine SS ?_;refine cz cJ (GM (cT ?_));show aq prog cY (Z dM 17) false [] _ (Z dM 17).toList _ [];refine ab ?_;refine aa (bi (k+1,_) (au eH) ⟨oM,p9 M⟩ oM)
      |some g'=>
       rw[nT] at p8;have po:vJ c l x= !(o0 c.aU x.b !=g'.result):=by unfold vJ;rw[nT]
       obtain⟨bn,MT⟩:∃ bn:Nat,x.b=bn:=⟨x.b.toNat,oG⟩
       obtain⟨u,hu⟩:∃ u,c.aU[bn]? =some u:=⟨_,a7 oG⟩
       obtain⟨kd,a,bb,to,gL,nm,ins,args,aR,ze⟩:=x;dsimp only at*
       subst MT;have D7:o0 c.aU (bn:Int)=u:=by simp[o0,dC,hu]
       refine az ?_;refine ba ?_;refine cl p8 ?_;refine cw ?_;refine aa ⟨_,fu (i:=nx+1+1+1) (cs:=aX g') (e:=48) (ah _ _ _) (l:=[(1,bj l),(2,.pt (aY dA dA c)),(14,cG c.blocks),(15,I c.blocks.length),(16,I k),(7,.pt (bD ⟨kd,a,(bn:Int),to,gL,nm,ins,args,aR,ze⟩)),(10,.pt (aX g')),(11,B true)]) ⟨rfl,rfl,rfl,rfl,rfl,rfl,lG,rfl,trivial⟩,eA EQ ?_⟩;refine bw ?_;refine ba ?_;refine cz cJ (aO rfl (fun hp=>aj ?_) fun hp=>cT ?_)
       .have jG:iZ c l b=false:=by
         rw[C,po,D7];simpa using hp
        rw[iM jG];refine SS ?_;exact aa (bH (eB (cm (bE (aI rfl rfl)))))
       .have M:iZ c l b=true:=by
         rw[C,po,D7];simpa using hp
        show aq prog cY (Z dM 17) false [] _ (Z dM 17).toList _ [];refine ab ?_;refine aa (bi (k+1,_) (au eH) ⟨oM,p9 M⟩ oM)
     .have X:¬ x.kind=8:=by simpa using X
      have M:iZ c l b=true:=by rw[C,if_neg X]
      refine cT ?_;show aq prog cY (Z dM 17) false [] _ (Z dM 17).toList _ [];refine ab ?_;refine aa (bi (k+1,_) (au eH) ⟨oM,p9 M⟩ oM)
  .have bq:¬ k<c.blocks.length:=by simpa using h
   exact⟨nx,au trivial,fun j y hy=>hinv j y (by have:=(bC.1 hy).1;omega) hy⟩
 .rintro s ⟨nx,hg,bp⟩
  have hf:tM c l=true:=by
   unfold tM;rw[bQ];intro y hy;obtain⟨j,hj⟩:=dw hy;exact bp j y hj
  rw[hf];refine⟨_,hg,aj ?_⟩;refine SS ?_;exact aa (aI rfl rfl)
theorem HN{l:List ap}(hc:(∀ f∈l,fi f=0)->∀ f∈l,JS f l)(hlen:l.length<=1000000):aB prog 30 [bj l] (.aL [I (dc l).1,I (dc l).2]):=by
 refine bl ah1 (.cons (js l) .nil) (.aL (.cons (.s _) (.cons (.s _) .nil))) ?_;rw[ah2];refine ws ?_;refine ab ?_;refine aa (aF (aj ?_));refine ax ?_;refine aa (cQ rfl (fun h=>aF (aj ?_)) fun h=>cx (aF (az ?_)))
 .have h:60<l.length:=by
   have:(60:Int)<l.length:=by simpa using h
   omega
  have he:dc l=(0,2):=by unfold dc;rw[if_pos h]
  rw[he];refine ab ?_;exact aa (eQ (gl rfl rfl rfl))
 have wJ:¬ 60<l.length:=by
  have:¬ (60:Int)<l.length:=by simpa using h
  omega
 clear h;refine ax ?_
 refine aa (cn (fun s=>(∃ nx,aJ prog s ⟨ay [(0,bj l)],fun _=>none,nx⟩)/\∀ j,j<l.length->kT l j=0) (cy (α:=Nat×Nat) (fun s=>⟨ay [(0,bj l),(12,bj l),(13,I l.length),(14,I s.1)],fun _=>none,s.2⟩)
  (fun s=>s.1<=l.length/\∀ j,j<s.1->kT l j=0) (fun s=>l.length - s.1) (0,0) (au eH) ⟨Nat.zero_le _,fun j hj=>by omega⟩ ?_) ?_)
 .rintro⟨k,nx⟩ ⟨hk,hinv⟩;dsimp only at hk hinv ⊢;refine SS ?_;refine aa ⟨_,rfl,fun h=>?_,fun h=>?_⟩
  .have af:k<l.length:=by simpa using h
   clear h;obtain⟨f,hf⟩:∃ f,l[k]? =some f:=⟨_,a7 af⟩
   have ql:=ql (f:=f);have C:kT l k=if fi f=0 then(if decide (0<k)&&AT (oR l (k - 1)) f.name then 1 else 0) else fi f:=by unfold kT;rw[hf]
   have DA:kT l k≠0->dc l=(↑k,kT l k):=fun h=>by
    unfold dc;rw[if_neg wJ,OJ af (by simpa using h) fun j hj=>by simp[hinv j hj]]
   refine az ?_;refine cw ?_;refine aa ⟨_,fu (i:=nx) (cs:=aX f) (e:=48) (ah _ _ _) (l:=[(0,bj l),(12,bj l),(13,I l.length),(14,I k),(4,I k),(5,.pt (aX f))]) ⟨rfl,rfl,rfl,rfl,rfl,lG,trivial⟩,aF (aj ?_)⟩;generalize fi f=e at ql C;refine SS ?_;refine cl ql ?_;refine SS ?_;refine aa (aF (aj ?_));refine ab ?_;refine aa (cQ rfl (fun h=>aF (aj ?_)) fun h=>cx (eA aaM ?_))
   .have h:e≠0:=by simpa using h
    rw[if_neg h] at C;rw[DA (by rw[C];exact h),C];refine ba ?_;exact aa (eQ (cm (bE (gl rfl rfl rfl))))
   have h:e=0:=by simpa using h
   rw[if_pos h] at C;clear h ql
   have p9:kT l k=0->∀ j,j<k+1->kT l j=0:=fun h j hj=>by
    by_cases e:j=k
    .subst e;exact h
    .exact hinv j oG
   cases k with
   |zero=>
    have hz:kT l 0=0:=by rw[C];simp
    refine bx ?_;refine bt rfl rfl (KI rfl rfl oG) (fun hc=>⟨ak,rfl⟩) ?_
    (iterate 3 refine z fun _ _=>?_);refine ab ?_;refine z fun _ _=>?_;refine SS ?_
    refine cz cJ (GM (cT ?_));refine ab ?_;exact aa (bi (0+1,_) (au eH) ⟨oM,p9 hz⟩ oM)
   |succ k'=>
    obtain⟨U,X⟩:∃ U,l[k']? =some U:=⟨_,a7 oG⟩
    have MU:oR l (k'+1 - 1)=U.name:=by unfold oR;rw[Nat.add_sub_cancel,X]
    rw[MU] at C;have vX:(((k'+1:Nat):Int) - 1=(k':Int))/\ -9223372036854775808<=(k':Int)/\(k':Int)<=9223372036854775807:=by omega
    have vW:decide ((0:Int)<((k'+1:Nat):Int))=true:=by simp
    refine cw ?_;refine bt rfl rfl (r7 rfl rfl V.h V.h (uW) oN) (fun hc=>⟨ak,(r8 V.h (uW) oN)⟩) ?_;refine ba ?_;refine bt rfl rfl (R2 rfl rfl) (fun hc=>⟨ak,trivial⟩) ?_;refine SS ?_;refine cz cJ (aO rfl (fun hp=>aj ?_) fun hp=>cT ?_)
    .have h1:kT l (k'+1)=1:=by
      rw[C,if_pos];simpa[AT] using hp
     rw[DA (by rw[h1];decide),h1];refine ax ?_;exact aa (bH (cm (bE (gl rfl rfl rfl))))
    .have hz:kT l (k'+1)=0:=by
      rw[C,if_neg];simpa[AT] using hp
     refine ab ?_;exact aa (bi (k'+1+1,_) (au eH) ⟨oM,p9 hz⟩ oM)
  .have bq:¬ k<l.length:=by simpa using h
   exact⟨⟨nx,au eH⟩,fun j hj=>hinv j oG⟩
 .rintro s ⟨⟨nx,hg⟩,bp⟩
  have j3:∀ f∈l,fi f=0:=fun f hf=>by
   obtain⟨j,hj⟩:=dw hf;have dj:=(bC.1 hj).1;have h1:=bp j dj;unfold kT at h1;rw[hj] at h1;dsimp only at h1;by_cases h2:fi f=0
   .exact h2
   .rw[if_neg h2] at h1;exact absurd h1 h2
  have hc:=hc j3;have oA:(range l.length).find? (fun i=>kT l i !=0)=none:=OK fun j hj=>by simp[bp j hj]
  refine⟨_,hg,aF (az ?_)⟩;clear hg;refine ax ?_
  refine aa (cn (fun s=>(∃ nx,aJ prog s ⟨ay [],fun _=>none,nx⟩)/\∀ j,j<l.length->ve l j=false) (cy (α:=Nat×Nat) (fun s=>⟨ay [(0,bj l),(40,bj l),(41,I l.length),(42,I s.1)],fun _=>none,s.2⟩)
   (fun s=>s.1<=l.length/\∀ j,j<s.1->ve l j=false) (fun s=>l.length - s.1) (0,nx) (au eH) ⟨Nat.zero_le _,fun j hj=>by omega⟩ ?_) ?_)
  .rintro⟨k,nx⟩ ⟨hk,hinv⟩;dsimp only at hk hinv ⊢;refine SS ?_;refine aa ⟨_,rfl,fun h=>?_,fun h=>?_⟩
   .have af:k<l.length:=by simpa using h
    clear h;obtain⟨f,hf⟩:∃ f,l[k]? =some f:=⟨_,a7 af⟩
    have HM:=HM (hc f (bu hf));have J:ve l k= !tM f l:=by unfold ve;rw[hf]
    refine az ?_;refine cw ?_;refine aa ⟨_,fu (i:=nx) (cs:=aX f) (e:=48) (ah _ _ _) (l:=[(0,bj l),(40,bj l),(41,I l.length),(42,I k),(7,I k),(8,.pt (aX f))]) ⟨rfl,rfl,rfl,rfl,rfl,lG,trivial⟩,aj ?_⟩;generalize tM f l=cb at HM J;refine ax ?_;refine cl HM ?_;refine SS ?_;refine aa (aO rfl (fun hp=>aj ?_) fun hp=>cT ?_)
    .have J:ve l k=true:=by rw[J];simpa using hp
     have hr:dc l=(↑k,82):=by
      unfold dc;rw[if_neg wJ,oA,OJ af J hinv]
     rw[hr];refine ax ?_;exact aa (bH (cm (bE (gl rfl rfl rfl))))
    .have J:ve l k=false:=by rw[J];simpa using hp
     refine ab ?_;refine aa (bi (k+1,_) (au eH) ⟨oM,fun j hj=>?_⟩ oM);by_cases e:j=k
     .subst e;exact J
     .exact hinv j (by dsimp only at hj;omega)
   .have bq:¬ k<l.length:=by simpa using h
    exact⟨⟨nx,au trivial⟩,fun j hj=>hinv j oG⟩
  .rintro s ⟨⟨nx,hg⟩,M⟩
   have hr:dc l=(0,0):=by
    unfold dc;rw[if_neg wJ,oA,OK M]
   rw[hr];refine⟨_,hg,aj ?_⟩;refine ab ?_;exact aa (gl rfl rfl rfl)
end Go.Proofs.Tryz.K
end
namespace Go.Argus
abbrev W8:=List UInt8
def l5:List W8->W8
 |[]=>[]
 |[w]=>w
 |w::v::l=>w++32::l5 (v::l)
def yh(wsq:List W8):W8:=l5 wsq++[10]
def yi(C:List (List W8)):W8:=C.flatMap yh
def xK(w:W8):Prop:=(32:UInt8)∉w/\(10:UInt8)∉w
theorem Kv{α:Type}{c:α}:∀ {x y s t:List α},c∉x->c∉y->x++c::s=y++c::t->x=y/\s=t
 |[],[],s,t,_,_,h=>⟨rfl,by simpa using h⟩
 |[],b::y,s,t,_,hy,h=>by
  simp only[List.nil_append,List.cons_append,List.cons.injEq] at h;exact absurd (by rw[h.1];exact List.mem_cons_self) hy
 |a::x,[],s,t,hx,_,h=>by
  simp only[List.nil_append,List.cons_append,List.cons.injEq] at h;exact absurd (by rw[<- h.1];exact List.mem_cons_self) hx
 |a::x,b::y,s,t,hx,hy,h=>by
  simp only[List.cons_append,List.cons.injEq] at h;obtain⟨h1,h2⟩:=Kv (fun h=>hx (List.mem_cons_of_mem _ h)) (fun h=>hy (List.mem_cons_of_mem _ h)) h.2;exact⟨by rw[h.1,h1],h2⟩
theorem Ju:∀ {a:List W8},(∀ w∈a,xK w)->(10:UInt8)∉l5 a
 |[],_=>by simp[l5]
 |[w],h=>(h w oS).2
 |w::v::l,h=>by
  have ih:=Ju (a:=v::l) fun u hu=>h u (List.mem_cons_of_mem _ hu);simp only[l5,List.mem_append,List.mem_cons,not_or];exact⟨(h w oS).2,oC,ih⟩
theorem PJ:∀ {a b:List W8},a≠[]->b≠[]->(∀ w∈a,xK w)->(∀ w∈b,xK w)->l5 a=l5 b->a=b
 |[],_,h,_,_,_,_=>absurd rfl h
 |_::_,[],_,h,_,_,_=>absurd rfl h
 |[w],[v],_,_,_,_,h=>by simpa[l5] using h
 |[w],v::u::l,_,_,ha,_,h=>by
  have h1:=(ha w oS).1;simp only[l5] at h;exact absurd (by rw[h];simp) h1
 |w::u::l,[v],_,_,_,hb,h=>by
  have h1:=(hb v oS).1;simp only[l5] at h;exact absurd (by rw[<- h];simp) h1
 |w::u::l,v::x::m,_,_,ha,hb,h=>by
  simp only[l5] at h;obtain⟨h1,h2⟩:=Kv (ha w oS).1 (hb v oS).1 h;have ih:=PJ (a:=u::l) (b:=x::m) oS oS (fun y hy=>ha y (List.mem_cons_of_mem _ hy)) (fun y hy=>hb y (List.mem_cons_of_mem _ hy)) h2;rw[h1,ih]
def J3(C:List (List W8)):Prop:=∀ l∈C,l≠[]/\∀ w∈l,xK w
theorem PK:∀ {a b:List (List W8)},J3 a->J3 b->yi a=yi b->a=b
 |[],[],_,_,_=>rfl
 |[],y::b,_,_,h=>by simp[yi,yh] at h
 |x::a,[],_,_,h=>by simp[yi,yh] at h
 |x::a,y::b,ha,hb,h=>by
  simp only[yi,List.flatMap_cons,yh,List.append_assoc,List.cons_append,List.nil_append] at h;have hx:=ha x oS;have hy:=hb y oS;obtain⟨h1,h2⟩:=Kv (Ju hx.2) (Ju hy.2) h;have e:=PJ hx.1 hy.1 hx.2 hy.2 h1;have ih:=PK (fun l hl=>ha l (List.mem_cons_of_mem _ hl)) (fun l hl=>hb l (List.mem_cons_of_mem _ hl)) h2;rw[e,ih]
end Go.Argus
namespace Go.Argus
open Go
theorem I8:∀ (u:Nat),∀ c∈Lib.decDigits u,48<=c.toNat/\c.toNat<=57:=fun u=>by
 induction u using Nat.strongRecOn with
 |_ u ih=>
  intro c hc;rw[Lib.decDigits] at hc;split at hc
  .simp only[List.mem_cons,List.not_mem_nil,or_false] at hc;subst hc;rw[UInt8.toNat_ofNat_of_lt' (by simp[UInt8.size];omega)];omega
  .rw[List.mem_append] at hc;rcases hc with hc|hc
   .exact ih (u / 10) oG c hc
   .simp only[List.mem_cons,List.not_mem_nil,or_false] at hc;subst hc;rw[UInt8.toNat_ofNat_of_lt' (by simp[UInt8.size];omega)];omega
def Kx(l:List UInt8):Nat:=l.foldl (fun n c=>10*n+(c.toNat - 48)) 0
theorem O4(u:Nat):Kx (Lib.decDigits u)=u:=by
 induction u using Nat.strongRecOn with
 |_ u ih=>
  rw[Lib.decDigits];split
  .rename_i h;simp only[Kx,List.foldl_cons,List.foldl_nil];rw[UInt8.toNat_ofNat_of_lt' (by simp[UInt8.size];omega)];omega
  .rename_i h;have:=ih (u / 10) oG;unfold Kx at this ⊢;rw[List.foldl_append,this];simp only[List.foldl_cons,List.foldl_nil];rw[UInt8.toNat_ofNat_of_lt' (by simp[UInt8.size];omega)];omega
theorem RX{u v:Nat}(h:Lib.decDigits u=Lib.decDigits v):u=v:=by rw[<- O4 u,h,O4]
theorem Yw(n:Int):∀ c∈Lib.itoa n,c.toNat=45\/(48<=c.toNat/\c.toNat<=57):=fun c hc=>by
 unfold Lib.itoa at hc;split at hc
 .rcases List.mem_cons.1 hc with rfl|hc
  .exact .inl rfl
  .exact .inr (I8 _ c hc)
 .exact .inr (I8 _ c hc)
theorem aby{m n:Int}(h:Lib.itoa m=Lib.itoa n):m=n:=by
 have key:∀ a b:Nat,Lib.decDigits a≠45::Lib.decDigits b:=fun a b e=>by
  have:=I8 a 45 (by rw[e];simp);revert this;decide
 unfold Lib.itoa at h;split at h<;>split at h
 .have:=RX (List.cons.inj h).2;omega
 .exact absurd h.symm (key _ _)
 .exact absurd h (key _ _)
 .have:=RX h;omega
theorem Yx{u:Nat}:∀ (k:Nat),u<10 ^ (k+1)->Lib.nDigits u<=k+1:=fun k h=>by
 refine Classical.byContradiction fun hn=>?_
 have h1:∀ (j v:Nat),j+1<Lib.nDigits v->10 ^ (j+1)<=v:=by
  intro j
  induction j with
  |zero=>
   intro v hv;refine Classical.byContradiction fun hc=>?_;rw[Lib.nDigits_small oG] at hv;omega
  |succ j ih=>
   intro v hv;by_cases C:v<10
   .rw[Lib.nDigits_small C] at hv;omega
   .rw[Lib.nDigits_big C] at hv;have:=ih (v / 10) oG;rw[Nat.pow_succ];omega
 have:=h1 k u oG;omega
theorem Xt(n:Int):xK (Lib.itoa n):=by
 constructor<;>intro h<;>have:=Yw n _ h<;>revert this<;>decide
theorem join_eq:∀ l:List W8,Lib.join l [32]=l5 l
 |[]=>rfl
 |[w]=>by rw[Lib.join_one];rfl
 |w::v::l=>by
  have ih:=join_eq (v::l);rw[Lib.join_cons] at ih ⊢;rw[l5, <- ih];simp[Lib.joinTail]
theorem PT:∀ l:List W8,(l5 l).length<=(l.map fun w=>w.length+1).sum
 |[]=>by simp[l5]
 |[w]=>by simp[l5]
 |w::v::l=>by
  have ih:=PT (v::l);simp only[l5,List.length_append,List.length_cons,List.map_cons,List.sum_cons] at ih ⊢;omega
end Go.Argus
section
open Go Go.Abs Go.Proofs Go.Argus
namespace Go.Argus
def dS(n:Int):Prop:= -1000000000<=n/\n<=1000000000
theorem dS.i{n:Int}(h:dS n):i64 n:=by unfold dS at h;unfold i64;omega
structure xL(x:cU):Prop where
 to:dS x.to
 a:dS x.a
 b:dS x.b
 n:dS x.n
 args:∀ r∈x.args,dS r
 len:x.args.length<=1200
theorem tH{l:List Int}{r:Int}(hl:l.length<=1200)(h:jg l r):dS r:=by unfold jg at h;unfold dS;omega
theorem eM:dS 0:=by unfold dS;omega
theorem lL{l:List Int}(h:l.length=0):(∀ r∈l,dS r)/\l.length<=1200:=by
 cases l with
 |nil=>exact⟨oS,oS⟩
 |cons a l=>simp at h
theorem I9{l:List Int}{r want of:Int}(hl:l.length<=1200)(h:o2 l r want of=true):dS r:=by
 by_cases C:want=0
 .unfold o2 at h;rw[if_pos C] at h;have:r=0:=by simpa using h
  rw[this];exact eM
 .exact tH hl (Fb h C)
theorem Yy:(n8++nk).all (fun x=>decide (-1000000000<=x.2.low)&&decide (x.2.high<=1000000000))=true:=by decide
theorem O5{l:List Int}{x:cU}{s:Shape}(hl:l.length<=1200)(hm:(x.op,s)∈n8\/(x.op,s)∈nk)(h:vi l x s=true):xL x:=by
 have hs:=bQ.1 Yy (x.op,s) (List.mem_append.2 hm);simp only[bc,decide_eq_true_eq] at hs;unfold vi at h;simp only[bc] at h;obtain⟨h1,h2,M,C,U⟩:=h;have hn:dS x.n:=by have:=kQ.1 U;unfold dS;omega
 have J:(∀ r∈x.args,dS r)/\x.args.length<=1200:=by
  unfold wY at C;split at C
  .rw[bc] at C;have:=kQ.1 C.1;exact⟨fun r hr=>tH hl (tk C.2 r hr),oG⟩
  .split at C
   .rw[bc] at C;have:(x.args.length:Int)=1:=by simpa using C.1
    exact⟨fun r hr=>tH hl (tk C.2 r hr),oG⟩
   .exact lL (by have:(x.args.length:Int)=0:=by simpa using C
                 omega)
 exact⟨I9 hl h1,I9 hl h2,I9 hl M,hn,J.1,J.2⟩
theorem Z4{f:ap}{b:Int}{ahead:Nat}{x:cU}{phis:Bool}(hl:f.aU.length<=1200)(hs:∀ k∈f.cg,k≠0)(mQ:f.cg.length<=60)(ha:ahead<=1200)(h:kY f b x phis ahead=true):xL x:=by
 unfold kY at h;have J:tO x=true->(∀ r∈x.args,dS r)/\x.args.length<=1200:=fun h=>lL (by unfold tO at h;simp at h;simp[h]);split at h
 .simp only[bc,gO] at h;obtain⟨h1,h2,C,M,h5⟩:=h;exact⟨by rw[h1];exact eM,tH hl (ke oG),by rw[C];exact eM,by rw[M];exact eM,(J h5).1,(J h5).2⟩
 split at h
 .simp only[bc,gO] at h;obtain⟨h1,h2,C,M⟩:=h;obtain⟨X,g2,U⟩:=Fw hs M;exact⟨tH hl X,by rw[h1];exact eM,by rw[h2];exact eM,by unfold dS;omega,(J C).1,(J C).2⟩
 split at h
 .simp only[bc,gO] at h;obtain⟨h1,h2,C,M⟩:=h;obtain⟨X,g2,U⟩:=Fw hs M;exact⟨by rw[h1];exact eM,tH hl X,by rw[h2];exact eM,by unfold dS;omega,(J C).1,(J C).2⟩
 split at h
 .simp only[bc,gO] at h;obtain⟨_,_,U,g4,g5,g6,g7,g8⟩:=h;have hk:dv f.aU x.to≠0:=fun e=>by simp[n7,e] at U
  refine⟨tH hl (rO U),by rw[g4];exact eM,by rw[g5];exact eM,by rw[g6];exact eM,fun r hr=>?_,oG⟩
  have:dm (dv f.aU r) (dv f.aU x.to)=true:=by
   simp only[Bool.not_eq_true',List.any_eq_false] at g8;simpa using g8 r hr
  rw[gO] at this;exact tH hl (ke (by rw[this];exact hk))
 .rw[bc] at h;cases nP:ju n8 x.op with
  |none=>rw[nP] at h;simp at h
  |some s=>rw[nP] at h;exact O5 hl (.inl (BP nP)) h.2
abbrev bW(w:ByteArray):W8:=w.data.toList
theorem acK(s:ByteArray):∀ (n i:Nat) (r:List UInt8),s.size - i=n->ByteArray.toList.loop s i r=r.reverse++s.data.toList.drop i:=by
 intro n
 induction n with
 |zero=>
  intro i r h;unfold ByteArray.toList.loop;rw[if_neg oG,List.drop_eq_nil_of_le (by show s.data.size<=i;have:s.size=s.data.size:=rfl;omega)];simp
 |succ n ih=>
  intro i r h;unfold ByteArray.toList.loop;rw[if_pos oG,ih (i+1) _ oG];have hi:i<s.data.toList.length:=by show i<s.data.size;have:s.size=s.data.size:=rfl;omega
  have h2:i<s.data.size:=hi;rw[List.drop_eq_getElem_cons hi]
  have:s.get! i=s.data.toList[i]:=by
   show s.data[i]! =_;rw[getElem!_pos s.data i h2];rfl
  rw[this];simp
theorem te(s:ByteArray):s.toList=s.data.toList:=by
 unfold ByteArray.toList;rw[acK s _ 0 [] rfl];simp
theorem xE{a b:ByteArray}(h:bW a=bW b):a=b:=by
 obtain⟨⟨l⟩⟩:=a;obtain⟨⟨m⟩⟩:=b;simp at h;simp[h]
def iT(w:ByteArray):Prop:=w.size<=120/\xK (bW w)
theorem Ew{s:ByteArray}{c:UInt8}(h:c∈bW s):(c.toNat:Int)∈qE s:=List.mem_map_of_mem (f:=fun c=>(c.toNat:Int)) h
theorem J6{s:ByteArray}(h:n6 s=true):iT s:=by
 unfold n6 at h;simp only[bc,Bool.not_eq_true',List.any_eq_false] at h;have h1:=kQ.1 h.1;refine⟨oG,fun hc=>?_,fun hc=>?_⟩
 .exact absurd (h.2 _ (Ew hc)) oC
 .exact absurd (h.2 _ (Ew hc)) oC
theorem J7{s:ByteArray}(h:isName s=true):iT s:=by
 unfold isName at h;simp only[bc,Bool.not_eq_true',List.any_eq_false] at h;have h1:=kQ.1 h.1;refine⟨oG,fun hc=>?_,fun hc=>?_⟩
 .exact absurd (h.2 _ (Ew hc)) oC
 .exact absurd (h.2 _ (Ew hc)) oC
theorem Aq{s:ByteArray}(h:s.toList=[]):iT s:=by
 rw[te] at h;refine⟨?_,?_⟩
 .have:s.size=(bW s).length:=rfl;rw[this];unfold bW;rw[h];simp
 .unfold bW;rw[h];simp[xK]
structure Ky(x:End):Prop where
 kind:1<=x.kind/\x.kind<=9
 a:dS x.a
 b:dS x.b
 to:dS x.to
 gL:dS x.gL
 others:dS x.others
 args:∀ r∈x.args,dS r
 len:x.args.length<=1200
 ins:xL x.ins
 aR:x.aR.length<=7
 wh:∀ w∈x.aR,dS w.to/\isName w.name=true
 name:iT x.name
theorem abz{x:End}(h:vP x=true):(x.kind=0/\x.a=0/\x.b=0/\x.to=0/\x.gL=0/\x.others= -1)/\x.args.length=0/\x.aR.length=0/\x.name.toList=[]/\xL x.ins:=by
 simp only[vP,bc,decide_eq_true_eq,Gn,beq_iff_eq] at h;obtain⟨h1,h2,h3,h4,h5,h6,h7,h8,h9,VV,C,J,M,U,X⟩:=h;have:=lL (l:=x.ins.args) oG;exact⟨⟨h1,h2,h3,h4,h5,h7⟩,oG,oG,h6,by rw[C];exact eM,by rw[J];exact eM,by rw[M];exact eM,by rw[U];exact eM,this.1,this.2⟩
theorem Xu{f:ap}{x:End}(hb:f.blocks.length<=1200)(h:nY f x=true):x.aR.length<=7/\(∀ w∈x.aR,dS w.to/\isName w.name=true)/\dS x.others:=by
 obtain⟨h1,h2,J⟩:=EH h;refine⟨h1,fun w C=>⟨by have:=h2 w C;unfold dS;omega,?_⟩,?_⟩
 .unfold nY at h;rw[bc] at h;obtain⟨i,hi⟩:=dw C;have:=bQ.1 h.1 (w,i) (List.mem_zipIdx_iff_getElem?.2 hi);simp only[qY,bc] at this;exact this.1
 .by_cases h0:0<=x.others
  .have:=J h0;unfold dS;omega
  .unfold nY at h;rw[bc,bc,Bool.or_eq_true] at h;rcases h.2.2 with h|h
   .have:x.others= -1:=by simpa using h
    unfold dS;omega
   .rw[ek,kQ] at h;unfold dS;omega
theorem Z5{f:ap}{x:End}(hl:f.aU.length<=1200)(mV:f.blocks.length<=1200)(hr:u7 f=true)(h:jb f x=true):Ky x:=by
 have X:∀ {r:Int},jg f.aU r->dS r:=fun h=>tH hl h;unfold jb at h;rw[bc] at h;obtain⟨h,hb⟩:=h;have hb:=abz hb;have U:∀ {t:Int},ek f t=true->dS t:=fun h=>by rw[ek,kQ] at h;unfold dS;omega
 have wW:dS (-1):=by unfold dS;omega
 have hh:=Xu (x:=x) mV;obtain⟨kind,a,b,to,gL,name,ins,args,aR,others⟩:=x;simp only[eL] at h hb;by_cases h1:kind=1
 .subst h1;simp only[if_true] at h hb;obtain⟨⟨b1,b2,b3,b4,b5,b6⟩,b7,b8,b9,ly⟩:=hb;have M:aR=[]:=List.length_eq_zero_iff.1 b8;subst M b2 b3 b5 b6;exact⟨(⟨oC,oC⟩:(1:Int)<=1/\(1:Int)<=9),eM,eM,U h,eM,wW,(lL b7).1,(lL b7).2,ly,oS,oS,Aq b9⟩
 by_cases h2:kind=2
 .subst h2;simp only[Int.reduceEq,if_false,if_true,bc,gO] at h hb;obtain⟨⟨b1,b2,b3,b4,b5,b6⟩,b7,b8,b9,ly⟩:=hb;have M:aR=[]:=List.length_eq_zero_iff.1 b8;subst M b3 b6;exact⟨(⟨oC,oC⟩:(1:Int)<=2/\(2:Int)<=9),X (ke (l:=f.aU) (r:=a) oG),eM,U h.2.1,U h.2.2,wW,(lL b7).1,(lL b7).2,ly,oS,oS,Aq b9⟩
 by_cases C:kind=3
 .subst C;simp only[Int.reduceEq,if_false,if_true] at h hb;obtain⟨⟨b1,b2,b3,b4,b5,b6⟩,b7,b8,b9,ly⟩:=hb;have M:aR=[]:=List.length_eq_zero_iff.1 b8;subst M b3 b4 b5 b6;refine⟨(⟨oC,oC⟩:(1:Int)<=3/\(3:Int)<=9),?_,eM,eM,eM,wW,(lL b7).1,(lL b7).2,ly,oS,oS,Aq b9⟩;split at h
  .rename_i hc;rw[gO] at h;exact X (ke (by rw[h];exact hc.1))
  .rw[gO] at h;show dS a;rw[h];exact wW
 by_cases J:kind=4
 .subst J;simp only[Int.reduceEq,if_false,if_true] at h hb;obtain⟨⟨b1,b2,b3,b4,b5,b6⟩,b7,b8,b9,ly⟩:=hb;have M:aR=[]:=List.length_eq_zero_iff.1 b8;subst M b2 b3 b4 b5 b6;exact⟨(⟨oC,oC⟩:(1:Int)<=4/\(4:Int)<=9),eM,eM,eM,eM,wW,(lL b7).1,(lL b7).2,ly,oS,oS,J7 h⟩
 by_cases h5:kind=5
 .subst h5;simp only[Int.reduceEq,if_false,if_true,bc] at h hb;obtain⟨⟨b1,b2,b3,b4,b5,b6⟩,b7,b8,b9,ly⟩:=hb;obtain⟨h1,h2,C,J⟩:=h;obtain⟨g1,g2,g3⟩:=hh J;subst b2 b3 b5;refine⟨(⟨oC,oC⟩:(1:Int)<=5/\(5:Int)<=9),eM,eM,U C,eM,g3,(lL b7).1,(lL b7).2,?_,g1,g2,Aq b9⟩;cases nP:ju nk ins.op with
  |none=>rw[nP] at h1;simp at h1
  |some s=>rw[nP] at h2;exact O5 hl (.inr (BP nP)) h2
 by_cases h6:kind=6
 .subst h6;simp only[Int.reduceEq,if_false,if_true,bc,decide_eq_true_eq,Bool.or_eq_true,gO] at h hb;obtain⟨⟨b1,b2,b3,b4,b5,b6⟩,b7,b8,b9,ly⟩:=hb;obtain⟨h1,h2,C,J,h5,h6⟩:=h;obtain⟨g1,g2,g3⟩:=hh h6;subst b3 b5;refine⟨(⟨oC,oC⟩:(1:Int)<=6/\(6:Int)<=9),?_,eM,U h5,eM,g3,fun r hr=>X (tk C r hr),?_,ly,g1,g2,J6 h1⟩
  .show dS a;rcases J with rfl|J
   .exact wW
   .exact X (rO J)
  .show args.length<=1200;omega
 by_cases h7:kind=7
 .subst h7;simp only[Int.reduceEq,if_false,if_true,bc,decide_eq_true_eq,gO] at h hb;obtain⟨⟨b1,b2,b3,b4,b5,b6⟩,b7,b8,b9,ly⟩:=hb;obtain⟨h1,h2,C,J,h5⟩:=h;have M:aR=[]:=List.length_eq_zero_iff.1 b8;subst M b3 b5 b6;refine⟨(⟨oC,oC⟩:(1:Int)<=7/\(7:Int)<=9),X (ke (l:=f.aU) (r:=a) oG),eM,U h5,eM,wW,fun r hr=>X (tk C r hr),?_,ly,oS,oS,J6 h1⟩;show args.length<=1200;omega
 by_cases h8:kind=8
 .subst h8;simp only[Int.reduceEq,if_false,if_true,bc,gO] at h hb;obtain⟨⟨b1,b2,b3,b4,b5,b6⟩,b7,b8,b9,ly⟩:=hb;obtain⟨h1,h2,C,J,h5⟩:=h;obtain⟨g1,g2,g3⟩:=hh h5;exact⟨(⟨oC,oC⟩:(1:Int)<=8/\(8:Int)<=9),X (ke (l:=f.aU) (r:=a) oG),X (rO h2),U C,U J,g3,(lL b7).1,(lL b7).2,ly,g1,g2,Aq b9⟩
 by_cases h9:kind=9
 .subst h9;simp only[Int.reduceEq,if_false,if_true,bc,gO] at h hb;obtain⟨⟨b1,b2,b3,b4,b5,b6⟩,b7,b8,b9,ly⟩:=hb;obtain⟨h1,h2,C⟩:=h;have M:aR=[]:=List.length_eq_zero_iff.1 b8;subst M b3 b5 b6;refine⟨(⟨oC,oC⟩:(1:Int)<=9/\(9:Int)<=9),X (ke (l:=f.aU) (r:=a) ?_),eM,U C,eM,wW,(lL b7).1,(lL b7).2,ly,oS,oS,Aq b9⟩;rw[h2];intro e;simp[u7,e,h1] at hr
 .simp only[h1,h2,C,J,h5,h6,h7,h8,h9,if_false] at h;cases h
def ja(b:bI):Bool:=decide (b.fin.kind=6)||decide (b.fin.kind=7)
def ej(bs:List bI):List ByteArray:=(bs.filter ja).map (·.fin.name)
theorem WM(bs:List bI)(b:bI):ej (bs++[b])=ej bs++if ja b then [b.fin.name] else []:=by
 unfold ej;rw[List.filter_append,List.map_append];cases h:ja b<;>simp[h]
theorem zA(bs:List bI):(ej bs).length<=bs.length:=by
 unfold ej;rw[List.length_map];exact List.length_filter_le _ _
end Go.Argus
end
namespace Go.Argus
open Go Go.Abs
def J2(l:List Int):Prop:=∀ (i j:Nat) x y,i<=j->l[i]? =some x->l[j]? =some y->x<=y
def aj2(l:List Int)(j k:Nat):Prop:=(∀ p q,p<q->q<=k->p≠j->q≠j->l.getD p 0<=l.getD q 0)/\∀ q,j<q->q<=k->l.getD j 0<=l.getD q 0
def UH(l:List Int)(k:Nat):Prop:=∀ p q,p<=q->q<=k->l.getD p 0<=l.getD q 0
theorem PI{l:List Int}{j:Nat}(h:j+1<l.length)(i:Nat):(swapAt l j).getD i 0=if i=j then l.getD (j+1) 0 else if i=j+1 then l.getD j 0 else l.getD i 0:=by
 unfold swapAt;simp only[dC,List.getElem?_set,List.length_set];by_cases e:j=i
 .subst e;rw[if_pos rfl,if_pos rfl,if_pos oG];rfl
 .rw[if_neg e,if_neg (show ¬ i=j from fun h=>e h.symm)];by_cases e2:j+1=i
  .subst e2;rw[if_pos rfl,if_pos rfl,if_pos h];rfl
  .rw[if_neg e2,if_neg (show ¬ i=j+1 from fun h=>e2 h.symm)]
theorem RP{k:Nat}:∀ {j:Nat} {l:List Int},j<=k->k<l.length->aj2 l j k->UH (ou l j) k
 |0,l,_,_,h=>fun p q C hq=>by
  rw[ou];rcases Nat.lt_or_ge p q with g|g
  .by_cases hp:p=0
   .subst hp;exact h.2 q g hq
   .exact h.1 p q g hq hp oG
  .have:p=q:=by omega
   subst this;exact Int.le_refl _
 |j+1,l,hj,hk,h=>by
  rw[ou];split
  .rename_i af;have hs:=PI (l:=l) (j:=j) oG;refine RP oG (by simpa using hk) ⟨fun p q C hq hp M=>?_,fun q hq J=>?_⟩
   .rw[hs,hs,if_neg hp,if_neg M];by_cases e1:p=j+1
    .rw[if_pos e1,if_neg oG];exact h.1 j q oG hq oG oG
    .rw[if_neg e1];by_cases e2:q=j+1
     .rw[if_pos e2];exact h.1 p j oG oG e1 oG
     .rw[if_neg e2];exact h.1 p q C hq e1 e2
   .rw[hs,hs,if_pos rfl,if_neg oG];by_cases e2:q=j+1
    .rw[if_pos e2];omega
    .rw[if_neg e2];exact h.2 q oG J
  .rename_i U;intro p q C hq;rcases Nat.lt_or_ge p q with g|g
   .by_cases e1:p=j+1
    .subst e1;exact h.2 q g hq
    .by_cases e2:q=j+1
     .subst e2;by_cases e3:p=j
      .subst e3;omega
      .have:=h.1 p j oG oG oG oG;omega
     .exact h.1 p q g hq e1 e2
   .have:p=q:=by omega
    subst this;exact Int.le_refl _
theorem QJ{i:Nat}:∀ {j:Nat} {l:List Int},j<i->j<l.length->(ou l j).getD i 0=l.getD i 0
 |0,l,_,_=>rfl
 |j+1,l,h,hl=>by
  rw[ou];split
  .rw[QJ oG oP,PI oG,if_neg oG,if_neg oG]
  .rfl
theorem QK{l:List Int}:∀ k,k<l.length->UH (mE l k) k/\∀ i,k<i->(mE l k).getD i 0=l.getD i 0
 |0,_=>⟨fun p q C hq=>by
  have:p=q:=by omega
  subst this;exact Int.le_refl _,fun _ _=>rfl⟩
 |k+1,hk=>by
  obtain⟨h1,h2⟩:=QK (l:=l) k oG;rw[mE];refine⟨RP (bd _) (by simpa using hk) ⟨fun p q C hq hp J=>h1 p q oG oG,fun q hq J=>by omega⟩,fun i hi=>?_⟩;rw[QJ hi oP];exact h2 i oG
theorem WU(l:List Int):J2 (nu l):=fun i j x y C hx hy=>by
 obtain⟨hj,J⟩:=bC.1 hy;have hl:(nu l).length=l.length:=Pr l;have h:=(QK (l:=l) (l.length - 1) oG).1 i j C oG;have e:mE l (l.length - 1)=nu l:=rfl;rw[e,dC,dC,hx,hy] at h;exact h
theorem Sz{d:List Int}(hs:J2 d):∀ t,t<=d.length->(ff d t).Pairwise (·<·)/\(0<t->∀ x∈ff d t,x<=d.getD (t - 1) 0)
 |0,_=>⟨by simp[ff],fun h=>absurd h (Nat.lt_irrefl 0)⟩
 |t+1,ht=>by
  obtain⟨h1,h2⟩:=Sz hs t oG
  have hg:∀ i,i<d.length->d[i]? =some (d.getD i 0):=fun i hi=>by
   have:=a7 hi;rw[dC,this];rfl
  have C:∀ x∈ff d t,x<=d.getD t 0:=fun x hx=>by
   have h0:0<t:=by
    cases t with
    |zero=>simp[ff] at hx
    |succ t=>omega
   have a:=h2 h0 x hx;have b:=hs (t - 1) t _ _ oG (hg _ oG) (hg _ oG);omega
  rw[ff];split
  .rw[List.append_nil];exact⟨h1,fun _ x hx=>by rw[Nat.add_sub_cancel];exact C x hx⟩
  .rename_i J;refine⟨?_,fun _ x hx=>?_⟩
   .rw[List.pairwise_append];refine⟨h1,oS,fun x hx y hy=>?_⟩;rw[List.mem_singleton] at hy;subst hy
    have h0:0<t:=by
     cases t with
     |zero=>simp[ff] at hx
     |succ t=>omega
    have a:=h2 h0 x hx;have b:=hs (t - 1) t _ _ oG (hg _ oG) (hg _ oG);have c:d.getD t 0≠d.getD (t - 1) 0:=fun e=>J ⟨oG,e⟩;omega
   .rw[Nat.add_sub_cancel];rw[List.mem_append,List.mem_singleton] at hx;rcases hx with hx|hx
    .exact C x hx
    .rw[hx];exact Int.le_refl _
theorem Xr{d:List Int}(hs:J2 d):(nb d).Pairwise (·<·):=(Sz hs _ (bd _)).1
theorem ZZ(x:End):(Go.Proofs.Tryz.K.nextR x).Pairwise (·<·):=Xr (WU _)
theorem Yq{b:Nat}:∀ (l:List Int) (L:Nat->List Int),l.Pairwise (·<·)->(∀ t∈l,0<=t)->(∀ i,(L i).Pairwise (·<·)/\∀ x∈L i,x<(b:Int))->
 ∀ i,(l.foldl (jw b) L i).Pairwise (·<·)/\(∀ x∈l.foldl (jw b) L i,x<(b:Int)+1):=fun l=>by
 have key:∀ (l:List Int) (L:Nat->List Int),l.Pairwise (·<·)->(∀ t∈l,0<=t)->∀ i,l.foldl (jw b) L i=L i++(if(i:Int)∈l then [(b:Int)] else []):=fun l=>by
  induction l with
  |nil=>intro L _ _ i;simp
  |cons t l ih=>
   intro L hp h0 i;rw[List.pairwise_cons] at hp;have ht:=h0 t oS;obtain⟨C,rfl⟩:=jH ht;rw[List.foldl_cons,ih _ hp.2 (fun t h=>h0 t (by simp[h]))];unfold jw;simp only[jZ,up];by_cases e:i=C
   .subst e;rw[if_pos rfl,if_neg (fun h=>by have:=hp.1 _ h;omega),if_pos oS,List.append_nil]
   .rw[if_neg e];congr 1;have:¬ (i:Int)=C:=by omega
    simp[this]
 intro L hp h0 J i;rw[key l L hp h0 i];obtain⟨h1,h2⟩:=J i;split
 .refine⟨?_,fun x hx=>?_⟩
  .rw[List.pairwise_append];exact⟨h1,oS,fun x hx y hy=>by rw[List.mem_singleton] at hy;rw[hy];exact h2 x hx⟩
  .rw[List.mem_append,List.mem_singleton] at hx;rcases hx with hx|hx
   .have:=h2 x hx;omega
   .omega
 .rw[List.append_nil];exact⟨h1,fun x hx=>by have:=h2 x hx;omega⟩
theorem OX{bs:List bI}(h0:∀ b∈bs,∀ t∈Go.Proofs.Tryz.K.nextR b.fin,0<=t):∀ k i,(dd bs k i).Pairwise (·<·)/\∀ x∈dd bs k i,x<(k:Int)
 |0,i=>by simp[dd]
 |k+1,i=>by
  have ih:=OX h0 k;have e:dd bs (k+1)=pH bs (dd bs k) k:=by rw[dd,List.range_succ,List.foldl_append];rfl
  rw[e];unfold pH;cases hx:bs[k]? with
  |none=>exact⟨(ih i).1,fun x hx=>by have:=(ih i).2 x hx;omega⟩
  |some b=>
   obtain⟨h1,h2⟩:=Yq (b:=k) (Go.Proofs.Tryz.K.nextR b.fin) (dd bs k) (ZZ _) (h0 b (bu hx)) ih i;exact⟨h1,fun x hx=>by have:=h2 x hx;omega⟩
theorem RQ:∀ {l:List Int} {a k:Nat},l.Pairwise (·<·)->(∀ x∈l,(a:Int)<=x/\x<(k:Int))->l.length<=k - a
 |[],_,_,_,_=>Nat.zero_le _
 |x::l,a,k,hp,h=>by
  rw[List.pairwise_cons] at hp;have hx:=h x oS;obtain⟨C,rfl⟩:=jH (show 0<=x by omega)
  have:=RQ (l:=l) (a:=C+1) (k:=k) hp.2 fun y hy=>by
   have:=hp.1 y hy;have:=h y (by simp[hy]);omega
  rw[List.length_cons];omega
end Go.Argus
section
open Go Go.Abs Go.Proofs Go.Argus
namespace Go.Proofs.Tryz.K
theorem Qn{σ:D->D}(h:∀ n,sub σ (.s n)=.s n)(l:List ByteArray):(l.map S).map (sub σ)=l.map S:=by
 rw[List.map_map];exact List.map_congr_left fun c _=>h _
theorem MW{f:ap}(dk:f.blocks.length<=1000000):aB prog 65 [.agg (aX f)] (bU (ej f.blocks)):=by
 refine bl ah3 (.cons (.agg (na f)) .nil) (iV _) ?_;rw[ah4];refine az ?_;refine ab ?_;refine aa (bJ (dD [(0,aX f,48)] eH (l:=[(1,.pt (aX f))]) eH) (az ?_));refine SS ?_;refine aa ⟨_,.r4 _ _ _ 3 9 rfl,aF (az ?_)⟩;refine ba ?_
 refine aa (cn (fun s=>∃ r nx,aJ prog s ⟨ay [(3,.rs r 0 (ej f.blocks).length)],br [(r,.cells ((ej f.blocks).map S) 9)],nx⟩) (cy (α:=Nat×Nat×Nat)
  (fun s=>⟨ay [(3,.rs s.2.1 0 (ej (f.blocks.take s.1)).length),(7,cG f.blocks),(8,I f.blocks.length),(9,I s.1)],br [(s.2.1,.cells ((ej (f.blocks.take s.1)).map S) 9)],s.2.2⟩)
  (fun s=>s.1<=f.blocks.length/\s.2.1<s.2.2) (fun s=>f.blocks.length - s.1) (0,1,2)
  (bZ eH eH) ⟨Nat.zero_le _,oC⟩ ?_) ?_)
 .rintro⟨k,r,nx⟩ ⟨hk,hr⟩;dsimp only at hk hr ⊢;refine SS ?_;refine aa ⟨_,rfl,fun h=>?_,fun h=>?_⟩
  .have af:k<f.blocks.length:=by simpa using h
   clear h;obtain⟨b,hb⟩:∃ b,f.blocks[k]? =some b:=⟨_,a7 af⟩
   have C:ej (f.blocks.take (k+1))=ej (f.blocks.take k)++if ja b then [b.fin.name] else []:=by
    rw[List.take_add_one,hb, <- WM];rfl
   have rC:(ej (f.blocks.take k)).length<=1000000:=by
    have:=zA (f.blocks.take k);have:(f.blocks.take k).length<=f.blocks.length:=List.length_take_le' _ _;omega
   have M:ja b=(decide (b.fin.kind=6)||decide (b.fin.kind=7)):=rfl;generalize ej (f.blocks.take k)=cs at*
   have J:br [(r,Row.cells (cs.map S) 9)] r=some (.cells (cs.map S) 9):=by simp[br]
   refine az ?_;refine ba ?_;refine aa ⟨_,qB (i:=nx) (cs:=bS b) (e:=59) (ah _ _ _) (l:=[(3,.rs r 0 cs.length),(7,cG f.blocks),(8,I f.blocks.length),(9,I k),(5,.pt (bS b))]) ⟨zR oG,rfl,rfl,rfl,lG,trivial⟩ (ml:=[(r,.cells (cs.map S) 9)]) ⟨Rv oG (ag oG (ag oG J)) (congrArg (Row.cells · 9) (Qn (fun _=>rfl) cs)),trivial⟩,aj ?_⟩;refine dJ ?_;refine ab ?_;have ao:=J;refine aa (aO rfl (fun hp=>?_) fun hp=>?_)
   .have hc:ja b=true:=by
     rw[M];revert hp;cases U:(b.fin.kind==6)<;>simp_all
    rw[if_pos hc] at C;refine lB ?_;refine iu ?_;refine aa ?_;show aq prog cY (Z o1 7) false [] _ (Z o1 7).toList _ [];refine ab ?_;refine aa (bi (k+1,nx+1+1,nx+1+1+1) ?_ ⟨oM,?_⟩ oM)
    .dsimp only;rw[C];refine bZ ⟨?_,rfl,rfl,rfl,trivial⟩ ⟨(ah _ _ _).trans (by simp;rfl),trivial⟩;rw[List.length_append];rfl
    .dsimp only;omega
   .have hc:ja b=false:=by
     rw[M];revert hp;cases U:(b.fin.kind==6)<;>simp_all
    rw[hc,if_neg oS,List.append_nil] at C;refine cT ?_;refine ab ?_;refine aa (bi (k+1,r,nx+1) ?_ ⟨oM,?_⟩ oM)
    .dsimp only;rw[C];exact au eH
    .dsimp only;omega
  .have X:¬ k<f.blocks.length:=by simpa using h
   have:k=f.blocks.length:=by omega
   subst this;rw[List.take_length];exact⟨r,nx,au eH⟩
 .rintro s ⟨r,nx,hg⟩;refine⟨_,hg,az ?_⟩;refine ab ?_;refine aa (bJ (fu (i:=r) (cs:=(ej f.blocks).map S) (e:=9) (by simp[br]) (l:=[(2,bU (ej f.blocks))]) ⟨?_,trivial⟩) (aI rfl rfl));exact(jM (by rw[c9];simp)).trans oS
theorem Iq{P:Program}{Y:eg}{rf:Bool}{Q:Exit->St->Prop}{st:St}{b:Code}{c:Operand}{x y:Code}(hc:opd st.env c=.ub)(ht:AW P Y rf (.seq x b) Q st)(hf:AW P Y rf (.seq y b) Q st):AW P Y rf (.seq (.cond c x y) b) Q st:=Rt hc ht hf
theorem Vh{l:List Int}(hl:l.length<=1000000):aB prog 91 [iy l] (iy l):=by
 refine bl ah5 (.cons (oV l) .nil) (oV l) ?_;rw[ah6];refine ws ?_;refine SS ?_;cases l with
 |nil=>
  refine aa (aF (aj ?_));refine aw (dL (v:=.sl [] 0) rfl) aM trivial ?_;refine aw (Gj rfl) aM AU ?_;refine aa (Iq rfl (aF (az ?_)) (cx (az ?_)))
  .refine SS ?_;exact aa (bJ (w9 (n0:=2) rfl) (eQ (aI rfl rfl)))
  .have C:(([]:List Int).map U8).take (0*1)=[]:=rfl;refine ab ?_;refine ji (iX rfl rfl rfl HO c5 (qD C) rfl) aM ⟨AU,rfl,oS,oC,rfl,oC,oC,oS⟩ ?_;refine SS ?_;refine aa (bJ (fu (i:=1) rfl (l:=[(2,iy [])]) ⟨?_,trivial⟩) (aI rfl rfl));exact(jM (by simp[c5])).trans oS
 |cons x J=>
  have M:(x::J).length≠0:=by simp
  generalize x::J=l at*
  have C:(l.map U8).take (l.length*1)=l.map U8:=dt oS;refine aa (aF (aj ?_));refine aw (dL (v:=.sl _ _) rfl) aM trivial ?_;refine aw (Gk rfl M) aM AU ?_;refine aa (qU (cx (az ?_)));refine ab ?_;refine ji (iX rfl rfl rfl HO c5 (qD C) rfl) aM ⟨AU,rfl,oS,oC,rfl,by unfold maxLen;omega,by rw[b5];omega,oS⟩ ?_;refine SS ?_;refine aa (bJ (fu (i:=1) rfl (l:=[(2,iy l)]) ⟨?_,trivial⟩) (aI rfl rfl));exact(jM (by simp[c5])).trans oS
theorem MX{l:List ByteArray}(hl:l.length<=1000000):aB prog 92 [bU l] (bU l):=by
 refine bl ah7 (.cons (iV l) .nil) (iV l) ?_;rw[ah8];refine ws ?_;refine SS ?_;cases l with
 |nil=>
  refine aa (aF (aj ?_));refine aw (dL (v:=.sl [] 0) rfl) aM trivial ?_;refine aw (Gj rfl) aM uh ?_;refine aa (Iq rfl (aF (az ?_)) (cx (az ?_)))
  .refine SS ?_;exact aa (bJ (w9 (n0:=2) rfl) (eQ (aI rfl rfl)))
  .have C:(([]:List ByteArray).map S).take (0*1)=[]:=rfl;refine ab ?_;refine ji (iX rfl rfl rfl rE c9 (qD C) rfl) aM ⟨uh,rfl,oS,oC,rfl,oC,oC,oS⟩ ?_;refine SS ?_;refine aa (bJ (fu (i:=1) rfl (l:=[(2,bU [])]) ⟨?_,trivial⟩) (aI rfl rfl));exact(jM (by simp[c9])).trans oS
 |cons x J=>
  have M:(x::J).length≠0:=by simp
  generalize x::J=l at*
  have C:(l.map S).take (l.length*1)=l.map S:=dt oS;refine aa (aF (aj ?_));refine aw (dL (v:=.sl _ _) rfl) aM trivial ?_;refine aw (Gk rfl M) aM uh ?_;refine aa (qU (cx (az ?_)));refine ab ?_;refine ji (iX rfl rfl rfl rE c9 (qD C) rfl) aM ⟨uh,rfl,oS,oC,rfl,by unfold maxLen;omega,by rw[b9];omega,oS⟩ ?_;refine SS ?_;refine aa (bJ (fu (i:=1) rfl (l:=[(2,bU l)]) ⟨?_,trivial⟩) (aI rfl rfl));exact(jM (by simp[c9])).trans oS
theorem MY{l:List iE}(hl:l.length<=1000000):aB prog 94 [lC l] (lC l):=by
 refine bl ah9 (.cons (iU l) .nil) (iU l) ?_;rw[ah'];refine ws ?_;refine SS ?_;cases l with
 |nil=>
  refine aa (aF (aj ?_));refine aw (dL (v:=.sl [] 0) rfl) aM trivial ?_;refine aw (Gj rfl) aM DB ?_;refine aa (Iq rfl (aF (az ?_)) (cx (az ?_)))
  .refine SS ?_;exact aa (bJ (w9 (n0:=2) rfl) (eQ (aI rfl rfl)))
  .have C:(([]:List iE).flatMap gP).take (0*2)=[]:=rfl;refine ab ?_;refine ji (iX rfl rfl rfl MZ HP (qD C) rfl) aM ⟨DB,rfl,oS,oC,rfl,oC,oC,oS⟩ ?_;refine SS ?_;refine aa (bJ (fu (i:=1) (cs:=[]) rfl (l:=[(2,lC [])]) ⟨?_,trivial⟩) (aI rfl rfl));exact jM (sz:=2) rfl
 |cons x M=>
  have J:(x::M).length≠0:=by simp
  generalize x::M=l at*
  have C:(l.flatMap gP).take (l.length*2)=l.flatMap gP:=by rw[B2 (f:=gP) (sz:=2) (fun _=>rfl),List.take_length]
  have U:(l.flatMap gP).length=l.length*2:=by clear C J;induction l with|nil=>rfl|cons x l ih=>rw[List.flatMap_cons,List.length_append,ih (by simp at hl;omega),List.length_cons];show 2+l.length*2=_;omega
  refine aa (aF (aj ?_));refine aw (dL (v:=.sl _ _) rfl) aM trivial ?_;refine aw (Gk rfl J) aM DB ?_;refine aa (qU (cx (az ?_)));refine ab ?_;refine ji (iX rfl rfl rfl MZ HP (qD C) rfl) aM ⟨DB,rfl,Nat.le_of_eq U.symm,oC,rfl,by unfold maxLen;omega,by rw[Vi];omega,oS⟩ ?_;refine SS ?_;refine aa (bJ (fu (i:=1) (cs:=l.flatMap gP) rfl (l:=[(2,lC l)]) ⟨?_,trivial⟩) (aI rfl rfl));exact(jM (by rw[HP,Nat.zero_add];exact U)).trans (by rw[Nat.zero_add];rfl)
end Go.Proofs.Tryz.K
namespace Go.Argus
structure Ar(b:bI):Prop where
 len:b.ins.length<=200
 ins:∀ x∈b.ins,xL x
 fin:Ky b.fin
structure qO(f:ap):Prop where
 name:iT f.name
 args:i64 f.args
 aU:f.aU.length<=1200
 cg:f.cg.length<=60
 sigs:f.signals.length<=6
 sig:∀ s∈f.signals,isName s=true
 kN:f.blocks.length<=1200
 bG:∀ b∈f.blocks,Ar b
theorem vf{f:ap}(h:nh f=true):qO f:=by
 have C:=Ku h;unfold nh at h;simp only[bc] at h;obtain⟨h1,h2,h3,X,h5⟩:=h;unfold tE at h1;simp only[bc] at h1;unfold xm at h2;simp only[bc,Bool.not_eq_true',decide_eq_false_iff_not,List.any_eq_false] at h2;refine⟨J6 h1.1,by have:=C.args;unfold i64;omega,C.aU,C.cg.2,oG,fun s hs=>by simpa using h2.2.2.2.2 s hs,C.kN,fun b hb=>?_⟩;obtain⟨k,hk⟩:=dw hb;have U:k<f.blocks.length:=(bC.1 hk).1;have he:=bQ.1 X k (List.mem_range.2 U);unfold lJ at he;rw[getD_some hk] at he;simp only[bc,Bool.not_eq_true',decide_eq_false_iff_not] at he;refine⟨oG,fun x hx=>?_,Z5 C.aU C.kN h1.2.2.1 he.1⟩;obtain⟨j,hj⟩:=dw hx;have hr:=C.right k b hk j x hj;refine Z4 C.aU C.cg.1 C.cg.2 ?_ hr;obtain⟨J,M⟩:=OX (bs:=f.blocks) (fun b hb t ht=>((C.bG b hb).to t ht).1) f.blocks.length k;have:=RQ (a:=0) J fun x hx=>⟨by obtain⟨b,rfl,_⟩:=IH.1 hx;omega,M x hx⟩
 have:=C.kN;omega
theorem O6(wsq:List ByteArray):bW (gT wsq)=yh (wsq.map bW):=by
 unfold gT yh bW;rw[ByteArray.data_append,Array.toList_append, <- join_eq];rfl
theorem Jy:∀ C:List (List ByteArray),bW (eP C)=yi (C.map fun l=>l.map bW)
 |[]=>rfl
 |l::C=>by
  have ih:=Jy C;unfold bW at ih;simp only[eP,yi,List.map_cons,List.flatMap_cons,bW,ByteArray.data_append,Array.toList_append];rw[ih];have:=O6 l;unfold bW at this;rw[this];rfl
def LB(l:List ByteArray):Prop:=l≠[]/\l.length<=1210/\∀ w∈l,iT w
theorem Yz{n:Int}(h:i64 n):(Lib.itoa n).length<=20:=by
 have:∀ u:Nat,u<10 ^ 19->(Lib.decDigits u).length<=19:=fun u hu=>by
  rw[Lib.decDigits_length];exact Yx 18 hu
 unfold i64 at h;unfold Lib.itoa;split
 .have:=this n.natAbs oG;simp;omega
 .have:=this n.toNat oG;omega
theorem GC{n:Int}(h:i64 n):iT (eO n):=by
 refine⟨?_,by unfold bW eO;simpa using Xt n⟩;have:(eO n).size=(Lib.itoa n).length:=by unfold eO;rfl
 have:=Yz h;omega
theorem F6{l:List Int}(h:∀ n∈l,i64 n):∀ w∈l.map eO,iT w:=fun w C=>by
 obtain⟨n,hn,rfl⟩:=List.mem_map.1 C;exact GC (h n hn)
theorem UN(l:List Int):∀ n∈l.map iv,i64 n:=fun n hn=>by
 obtain⟨m,_,rfl⟩:=List.mem_map.1 hn;exact zX m
theorem pN{w:ByteArray}(h:(Nat.ble w.size 120&&(!(bW w).contains 32&& !(bW w).contains 10))=true):iT w:=by
 simp only[bc,Bool.not_eq_true',List.contains_eq_mem,decide_eq_false_iff_not] at h;exact⟨bF h.1,h.2.1,h.2.2⟩
theorem RY:iT xX/\iT TH/\iT TI/\iT AD/\iT CK/\iT E5/\iT oZ/\iT sF/\iT Dz/\iT GQ/\iT AS/\iT TJ:=by
 exact⟨pN oC,pN oC,pN oC,pN oC,pN oC,pN oC,pN oC,pN oC,pN oC,pN oC,pN oC,pN oC⟩
theorem Jz{x:cU}(h:xL x):Hg x:=fun n hn=>by
 unfold vY at hn;simp only[List.mem_cons] at hn;rcases hn with rfl|rfl|rfl|rfl|rfl|hn
 .exact zX _
 .exact h.to.i
 .exact h.a.i
 .exact h.b.i
 .exact h.n.i
 .exact(h.args n hn).i
theorem SF{word:ByteArray}{x:cU}(C:iT word)(h:xL x):LB (nH word x):=by
 refine⟨by simp[nH],?_,fun w hm=>?_⟩
 .have:=h.len;simp[nH,vY];omega
 .rcases List.mem_cons.1 hm with rfl|hm
  .exact C
  .exact F6 (Jz h) w hm
theorem QT{x:End}(h:Ky x):∀ n∈ui x,i64 n:=fun n hn=>by
 unfold ui at hn;simp only[List.mem_cons] at hn;rcases hn with rfl|rfl|rfl|rfl|rfl|rfl|hn
 .exact zX _
 .exact h.a.i
 .exact h.b.i
 .exact h.to.i
 .exact h.gL.i
 .exact h.others.i
 .exact(h.args n hn).i
theorem abA{b:bI}(h:Ar b):∀ l∈lN b,LB l:=fun l hl=>by
 obtain⟨wf,wp,wi,wr,wsq,VY,X,J,we,wn,wt,ww⟩:=RY;unfold lN at hl;simp only[List.mem_cons,List.mem_append] at hl;rcases hl with rfl|hl|rfl|hl|hl|hl
 .exact⟨oS,oS,fun w C=>by simp at C;subst C;exact X⟩
 .obtain⟨x,hx,rfl⟩:=List.mem_map.1 hl;exact SF J (h.ins x hx)
 .refine⟨by simp[ra],?_,fun w hm=>?_⟩
  .have:=h.fin.len;simp[ra,ui];omega
  .rcases List.mem_cons.1 hm with rfl|hm
   .exact we
   .exact F6 (QT h.fin) w hm
 .unfold jS at hl;split at hl
  .simp at hl
  .simp only[List.mem_cons,List.not_mem_nil,or_false] at hl;subst hl
   exact⟨oS,oS,fun w C=>by
    simp only[List.mem_cons,List.not_mem_nil,or_false] at C;rcases C with rfl|rfl
    .exact wn
    .exact h.fin.name⟩
 .unfold ll at hl;split at hl
  .simp only[List.mem_cons,List.not_mem_nil,or_false] at hl;subst hl;exact SF wt h.fin.ins
  .simp at hl
 .obtain⟨x,hx,rfl⟩:=List.mem_map.1 hl;obtain⟨M,U⟩:=h.fin.wh x hx
  exact⟨by simp[lT],by simp[lT],fun w C=>by
   simp only[lT,List.mem_cons,List.not_mem_nil,or_false] at C;rcases C with rfl|rfl|rfl
   .exact ww
   .exact J7 U
   .exact GC M.i⟩
theorem RZ{f:ap}(h:qO f):∀ l∈jR f,LB l:=fun l hl=>by
 obtain⟨M,X,U,wr,wsq,J,wb,VZ,we,wn,wt,ww⟩:=RY;unfold jR Dm at hl;rw[List.mem_append] at hl;rcases hl with hl|hl
 .simp only[List.mem_cons,List.not_mem_nil,or_false] at hl;rcases hl with rfl|rfl|rfl|rfl
  .refine⟨oS,oS,fun w C=>?_⟩;simp only[List.mem_cons,List.not_mem_nil,or_false] at C;rcases C with rfl|rfl|rfl|rfl|rfl
   .exact M
   .exact h.name
   .unfold ss;split
    .exact U
    .exact X
   .exact GC h.args
   .exact GC (zX _)
  .refine⟨oS,by have:=h.aU;simp;omega,fun w C=>?_⟩;rcases List.mem_cons.1 C with rfl|C
   .exact wr
   .exact F6 (UN _) w C
  .refine⟨oS,by have:=h.cg;simp;omega,fun w C=>?_⟩;rcases List.mem_cons.1 C with rfl|C
   .exact wsq
   .exact F6 (UN _) w C
  .refine⟨oS,by have:=h.sigs;simp;omega,fun w C=>?_⟩;rcases List.mem_cons.1 C with rfl|C
   .exact J
   .exact J7 (h.sig w C)
 .obtain⟨b,hb,hl⟩:=List.mem_flatMap.1 hl;exact abA (h.bG b hb) l hl
theorem Z6{l:List ByteArray}(h:LB l):(gT l).size<=150000:=by
 have h1:(gT l).size=(bW (gT l)).length:=rfl;rw[h1,O6];unfold yh;rw[List.length_append,List.length_singleton];have h2:=PT (l.map bW)
 have C:∀ l:List ByteArray,(∀ w∈l,iT w)->((l.map bW).map fun w=>w.length+1).sum<=l.length*121:=fun l=>by
  induction l with
  |nil=>simp
  |cons a l ih=>
   intro h;have:=ih fun w J=>h w (List.mem_cons_of_mem _ J);have ha:(bW a).length<=120:=(h a oS).1;simp only[List.map_cons,List.sum_cons,List.length_cons];omega
 have:=C l h.2.2;have:=h.2.1;omega
theorem QU:∀ {C:List (List ByteArray)},(∀ l∈C,LB l)->(eP C).size<=C.length*150000
 |[],_=>by simp[eP]
 |l::C,h=>by
  have:=QU fun x hx=>h x (List.mem_cons_of_mem _ hx);have:=Z6 (h l oS);simp only[eP,ByteArray.size_append,List.length_cons];omega
theorem Z7{b:bI}(h:Ar b):(lN b).length<=220:=by
 have h1:=h.len;have h2:=h.fin.aR;have C:(jS b.fin).length<=1:=by unfold jS;split<;>simp
 have J:(ll b.fin).length<=1:=by unfold ll;split<;>simp
 simp only[lN,qW,List.length_cons,List.length_append,List.length_map];omega
theorem abB{f:ap}(h:qO f):(jR f).length<=300000:=by
 have:∀ bs:List bI,(∀ b∈bs,Ar b)->(bs.flatMap lN).length<=bs.length*220:=fun bs=>by
  induction bs with
  |nil=>simp
  |cons b bs ih=>
   intro h;have:=ih fun x hx=>h x (List.mem_cons_of_mem _ hx);have:=Z7 (h b oS);simp only[List.flatMap_cons,List.length_append,List.length_cons];omega
 have:=this f.blocks h.bG;have:=h.kN;simp only[jR,Dm,List.length_append,List.length_cons,List.length_nil];omega
theorem adm{f:ap}(h:qO f):CJ f:=by
 refine⟨h.args,by have:=h.aU;omega,by have:=h.cg;omega,by have:=h.sigs;omega,by have:=h.kN;omega,fun b hb=>by have:=(h.bG b hb).len;omega,fun b hb x hx=>?_,fun b hb=>?_,?_⟩
 .have:=(h.bG b hb).ins x hx;exact⟨Jz this,by have:=this.len;omega⟩
 .have:=(h.bG b hb).fin;exact⟨QT this,by have:=this.len;omega,Jz this.ins,by have:=this.ins.len;omega,by have:=this.aR;omega,fun w C=>(this.wh w C).1.i⟩
 .have h1:=QU (RZ h);have h2:=abB h;unfold lS;omega
def yD:List W8->Bool
 |w::k::_=>w==bW Dz&&(k==Lib.itoa 6||k==Lib.itoa 7)
 |_=>false
theorem zJ{w:W8}{l:List W8}(h:(w==bW Dz)=false):yD (w::l)=false:=by
 cases l with
 |nil=>rfl
 |cons k l=>simp only[yD];rw[h];rfl
theorem adO(n:Int):bW (eO n)=Lib.itoa n:=by simp[bW,eO]
theorem BW{α:Type}{p:α->Bool}{l:List α}(h:∀ x∈l,p x=false):l.countP p=0:=by
 rw[List.countP_eq_zero];intro x hx;rw[h x hx];simp
theorem Xv{b:bI}(h:Ar b):((lN b).map fun l=>l.map bW).countP yD=if ja b then 1 else 0:=by
 have hk:=h.fin.kind
 have e:yD ((ra b.fin).map bW)=ja b:=by
  simp only[ra,ui,List.map_cons,yD];rw[adO];have J:iv b.fin.kind=b.fin.kind:=by unfold iv IntKind.wrap;simp[IntKind.signed,IntKind.bits];omega
  rw[J]
  have C:∀ n:Int,(Lib.itoa b.fin.kind==Lib.itoa n)=decide (b.fin.kind=n):=fun n=>by
   by_cases e:b.fin.kind=n
   .rw[e];simp
   .rw[decide_eq_false e];exact beq_eq_false_iff_ne.2 fun h=>e (aby h)
  rw[C,C];simp[ja]
 simp only[lN,List.map_cons,List.map_append,List.countP_cons,List.countP_append];rw[e,zJ oC,BW (l:=(qW b).map _),BW (l:=(jS b.fin).map _),BW (l:=(ll b.fin).map _),BW (l:=(b.fin.aR.map lT).map _)]
 .simp
 .intro l hl;simp only[List.mem_map] at hl;obtain⟨_,⟨w,_,rfl⟩,rfl⟩:=hl;exact zJ oC
 .intro l hl;obtain⟨x,hx,rfl⟩:=List.mem_map.1 hl;unfold ll at hx;split at hx
  .simp only[List.mem_cons,List.not_mem_nil,or_false] at hx;subst hx;exact zJ oC
  .simp at hx
 .intro l hl;obtain⟨x,hx,rfl⟩:=List.mem_map.1 hl;unfold jS at hx;split at hx
  .simp at hx
  .simp only[List.mem_cons,List.not_mem_nil,or_false] at hx;subst hx;exact zJ oC
 .intro l hl;simp only[qW,List.mem_map] at hl;obtain⟨_,⟨x,_,rfl⟩,rfl⟩:=hl;exact zJ oC
theorem O7{f:ap}(h:qO f):((jR f).map fun l=>l.map bW).countP yD=(ej f.blocks).length:=by
 have hb:∀ bs:List bI,(∀ b∈bs,Ar b)->((bs.flatMap lN).map fun l=>l.map bW).countP yD=(ej bs).length:=fun bs=>by
  induction bs with
  |nil=>intro _;rfl
  |cons b bs ih=>
   intro h;have ih:=ih fun x hx=>h x (List.mem_cons_of_mem _ hx);have e:=Xv (h b oS);simp only[List.flatMap_cons,List.map_append,List.countP_append];rw[ih,e];unfold ej;rw[List.filter_cons];split<;>simp;omega
 unfold jR;rw[List.map_append,List.countP_append,hb f.blocks h.bG,BW,Nat.zero_add];intro l hl;unfold Dm at hl;simp only[List.map_cons,List.map_nil,List.mem_cons,List.not_mem_nil,or_false] at hl;rcases hl with rfl|rfl|rfl|rfl<;>exact zJ oC
theorem QV{f:ap}(h:qO f):J3 ((jR f).map fun l=>l.map bW):=fun l hl=>by
 obtain⟨x,hx,rfl⟩:=List.mem_map.1 hl;obtain⟨h1,_,h2⟩:=RZ h x hx;refine⟨by simpa using h1,fun w C=>?_⟩;obtain⟨y,hy,rfl⟩:=List.mem_map.1 C;exact(h2 y hy).2
theorem YA{f g:ap}(hf:qO f)(hg:qO g)(h:lS f=lS g):(jR f).map (fun l=>l.map bW)=(jR g).map fun l=>l.map bW:=by
 refine PK (QV hf) (QV hg) ?_;rw[<- Jy, <- Jy];exact congrArg bW h
theorem YB{f g:ap}(hf:qO f)(hg:qO g)(h:lS f=lS g):(ej f.blocks).length=(ej g.blocks).length:=by
 rw[<- O7 hf, <- O7 hg,YA hf hg h]
end Go.Argus
namespace Go.Argus
open Go.Proofs.Tryz.K (nextR)
section
variable{to:ByteArray->ByteArray}
def dO(to:ByteArray->ByteArray)(b:bI):bI:=if ja b then { b with fin:={ b.fin with name:=to b.fin.name } } else b
def ie(f:ap)(name:ByteArray)(to:ByteArray->ByteArray):ap:={ f with name:=name,blocks:=f.blocks.map (dO to) }
theorem Kz(b:bI):(dO to b).ins=b.ins:=by unfold dO;split<;>rfl
theorem J8(b:bI):(dO to b).fin.kind=b.fin.kind:=by unfold dO;split<;>rfl
theorem R0(b:bI):nextR (dO to b).fin=nextR b.fin:=by unfold dO;split<;>rfl
theorem acL(b:bI):ij (dO to b).fin=ij b.fin:=by unfold dO;split<;>rfl
theorem IJ(b:bI):mr (dO to b)=mr b:=by unfold dO;split<;>rfl
theorem adP(b:bI):gy (dO to b).fin=gy b.fin:=by unfold dO;split<;>rfl
theorem acN(b:bI):ja (dO to b)=ja b:=by unfold ja;rw[J8]
theorem F7(bs:List bI)(i:Nat):(bs.map (dO to)).getD i k9=dO to (bs.getD i k9):=by
 rw[dC,dC,List.getElem?_map];cases bs[i]? <;>rfl
theorem abC(bs:List bI):pH (bs.map (dO to))=pH bs:=by
 funext L b;unfold pH;rw[List.getElem?_map];cases bs[b]? with
 |none=>rfl
 |some x=>simp only[Option.map_some,R0]
theorem QW(bs:List bI)(k:Nat):dd (bs.map (dO to)) k=dd bs k:=by unfold dd;rw[abC]
theorem acO(bs:List bI):iC (bs.map (dO to))=iC bs:=by
 funext s k;unfold iC;rw[List.getElem?_map];cases bs[k]? with
 |none=>rfl
 |some x=>simp only[Option.map_some,R0,adP,IJ]
theorem YC(bs:List bI):px (bs.map (dO to))=px bs:=by funext s;unfold px;rw[acO,List.length_map]
theorem YD(bs:List bI)(n:Nat):qG (bs.map (dO to)) n=qG bs n:=by
 induction n with
 |zero=>rfl
 |succ n ih=>funext s;simp only[qG];rw[YC,ih]
theorem acP(bs:List bI)(a:Nat):pa (bs.map (dO to)) a=pa bs a:=by unfold pa;rw[YD,List.length_map]
theorem acQ(bs:List bI)(s:CS)(b:Nat)(y:cU):ua (bs.map (dO to)) s b y=ua bs s b y:=by
 unfold ua tD;simp only[List.length_map,QW,F7,acL,IJ]
theorem acR(bs:List bI)(a:Nat):tq (bs.map (dO to)) a=tq bs a:=by
 unfold tq rN;simp only[List.length_map,acP,F7,IJ,Kz];congr 1;funext b;congr 2;congr 1;funext y;exact acQ bs _ b y
theorem acS(bs:List bI)(k:Nat):oX (bs.map (dO to)) k=oX bs k:=by
 unfold oX;rw[<- List.map_take];generalize bs.take k=l
 induction l with
 |nil=>rfl
 |cons b l ih=>
  simp only[List.map_cons,List.filter_cons,J8];split
  .simp only[List.map_cons,ih,List.cons.injEq,and_true];unfold dO;split<;>rfl
  .exact ih
theorem acT{f:ap}{C:ByteArray}{b:bI}(h:jb f b.fin=true)(hn:ja b=true->n6 (to b.fin.name)=true):jb (ie f C to) (dO to b).fin=true:=by
 have hb:∀ n,ek (ie f C to) n=ek f n:=fun n=>by simp[ek,ie]
 have hh:∀ x,nY (ie f C to) x=nY f x:=fun x=>by
  unfold nY Gp qY;simp only[hb]
 have he:∀ x,jb (ie f C to) x=jb f x:=fun x=>by
  unfold jb eL;simp only[hb,hh];rfl
 rw[he];unfold dO;split
 .rename_i hc;have J:=hn hc;unfold ja at hc;simp only[Bool.or_eq_true,decide_eq_true_eq] at hc;unfold jb at h ⊢;rcases hc with hc|hc
  .simp only[eL,hc,Int.reduceEq,if_false,if_true,bc] at h ⊢;exact⟨⟨J,h.1.2⟩,h.2⟩
  .simp only[eL,hc,Int.reduceEq,if_false,if_true,bc] at h ⊢;exact⟨⟨J,h.1.2⟩,h.2⟩
 .exact h
theorem abD{f:ap}{J:ByteArray}(h:nh f=true)(h1:n6 J=true)(hn:∀ b∈f.blocks,ja b=true->n6 (to b.fin.name)=true):nh (ie f J to)=true:=by
 unfold nh at h ⊢;simp only[bc] at h ⊢;obtain⟨C,M,U,X,g5⟩:=h;refine⟨?_,M,U,bQ.2 fun k hk=>?_,bQ.2 fun k hk=>?_⟩
 .unfold tE at C ⊢;simp only[bc] at C ⊢;refine⟨h1,C.2.1,C.2.2.1,C.2.2.2.1,C.2.2.2.2.1,?_⟩;have:=C.2.2.2.2.2;simpa[ie] using this
 .have hk:k<f.blocks.length:=by simpa[ie] using hk
  have:=bQ.1 X k (List.mem_range.2 hk);unfold lJ at this ⊢;have e:(ie f J to).blocks.getD k k9=dO to (f.blocks.getD k k9):=F7 _ _;have e2:oX (ie f J to).blocks k=oX f.blocks k:=acS _ _;have hm:f.blocks.getD k k9∈f.blocks:=bu (dZ hk);simp only[e,e2,Kz,J8];simp only[bc] at this ⊢;refine⟨acT this.1 (hn _ hm),this.2.1,?_⟩;have e3:(dO to (f.blocks.getD k k9)).fin.a=(f.blocks.getD k k9).fin.a:=by unfold dO;split<;>rfl
  rw[e3];exact this.2.2
 .have hk:k<f.blocks.length:=by simpa[ie] using hk
  have:=bQ.1 g5 k (List.mem_range.2 hk);unfold tu at this ⊢;have e:(ie f J to).blocks.getD k k9=dO to (f.blocks.getD k k9):=F7 _ _
  have e2:qH (ie f J to)=qH f:=by
   funext b l j;unfold qH ie;simp only[QW,List.length_map];rfl
  simp only[e,Kz];rw[e2];exact this
theorem acU{f:ap}{C:ByteArray}(h:fi f=0)(h1:n6 C=true)(hn:∀ b∈f.blocks,ja b=true->n6 (to b.fin.name)=true):fi (ie f C to)=0:=by
 unfold fi at h ⊢;split at h
 .rename_i hf;rw[if_pos (abD hf h1 hn)];split at h
  .rename_i hr;rw[if_pos (by rw[show(ie f C to).blocks=f.blocks.map (dO to) from rfl,acR];exact hr)]
  .cases h
 .cases h
theorem checked{f:ap}(h:fi f=0):nh f=true:=by
 unfold fi at h;split at h
 .assumption
 .cases h
theorem WY(bs:List bI):ej (bs.map (dO to))=(ej bs).map to:=by
 unfold ej
 induction bs with
 |nil=>rfl
 |cons b bs ih=>
  simp only[List.map_cons,List.filter_cons,acN];split
  .rename_i h;simp only[List.map_cons,ih,List.cons.injEq,and_true];unfold dO;rw[if_pos h]
  .exact ih
end
def kM:ByteArray:=⟨#[95]⟩
def yd(f:ap):ap:=ie f kM fun _=>kM
def pF(f:ap):ByteArray:=lS (yd f)
theorem OM{f:ap}(h:fi f=0):fi (yd f)=0:=acU h oC fun _ _ _=>by decide
theorem Jr{f:ap}(h:fi f=0):qO (yd f):=vf (checked (OM h))
theorem Oh{f g:ap}(hf:fi f=0)(hg:fi g=0)(h:pF f=pF g):(ej f.blocks).length=(ej g.blocks).length:=by
 have:=YB (Jr hf) (Jr hg) h
 have e:∀ f:ap,(ej (yd f).blocks).length=(ej f.blocks).length:=fun f=>by
  show(ej (f.blocks.map (dO _))).length=_;rw[WY,List.length_map]
 rw[e,e] at this;exact this
end Go.Argus
namespace Go.Argus
def gY(l:List Int):ByteArray:=mkStr (l.map (·+33))
theorem WN(a b:List Int):mkStr (a++b)=mkStr a++mkStr b:=by
 refine xE ?_;simp[mkStr,bW]
theorem Zb(l:List Int)(n:Int):gY (l++[n])=gY l++mkStr [n+33]:=by simp[gY,WN]
theorem IV(l:List Int):(gY l).size=l.length:=by
 show(gY l).data.size=_;simp[gY,mkStr]
theorem Zc{x:Int}(h:0<=x/\x<90):IntKind.i32.wrap (x+33)=x+33:=by
 unfold IntKind.wrap;simp[IntKind.signed,IntKind.bits];omega
def cR(l:List ap)(sh:List ByteArray)(ca:List (List Int)):List D:=[bj l,bU sh,bM ca]
@[simp] theorem al5 (l : List ap) (sh : List ByteArray) (ca : List (List Int)) : (cR l sh ca).length = 3 := rfl
theorem E6(l:List ap)(sh:List ByteArray)(ca:List (List Int)):∀ a∈cR l sh ca,Tr a:=.cons (js l) (.cons (iV sh) (.cons (nX ca) .nil))
section
variable{κ:Type}[DecidableEq κ]
def jD(fs:List κ)(k:κ):Nat:=fs.idxOf k
def fz(fs:List κ)(k:κ):Bool:=decide (k∈fs)
theorem IW(a s:κ)(fs:List κ):fz (a::fs) s=(decide (a=s)||fz fs s):=by
 unfold fz;by_cases h:a=s
 .subst h;simp
 .have:s∈a::fs↔s∈fs:=by
   constructor
   .intro hm;rcases List.mem_cons.1 hm with e|e
    .exact absurd e.symm h
    .exact e
   .exact List.mem_cons_of_mem _
  rw[decide_eq_false h,Bool.false_or];exact decide_eq_decide.2 this
theorem IX(a s:κ)(fs:List κ):jD (a::fs) s=if a=s then 0 else jD fs s+1:=by
 unfold jD;rw[List.idxOf_cons];by_cases h:a=s
 .subst h;simp
 .rw[if_neg h,beq_eq_false_iff_ne.2 h];rfl
theorem Qo{ks:List κ}{k:Nat}{s:κ}(h:ks[k]? =some s):
 aV (ks.take (k+1))=(if fz (aV (ks.take k)) s then aV (ks.take k) else aV (ks.take k)++[s])/\(aT ks).take (k+1)=(aT ks).take k++[if fz (aV (ks.take k)) s then jD (aV (ks.take k)) s else(aV (ks.take k)).length]:=by
 have h1:ks.take (k+1)=ks.take k++[s]:=by rw[List.take_add_one,h];rfl
 have h2:aV (ks.take (k+1))=(if s∈aV (ks.take k) then aV (ks.take k) else aV (ks.take k)++[s]):=by rw[h1,Pk]
 unfold fz jD;simp only[decide_eq_true_eq];refine⟨h2,?_⟩;rw[List.take_add_one,zS h];congr 1;show [(aV ks).idxOf s]=_
 have hp:aV (ks.take (k+1))<+:aV ks:=by
  have:=EB (ks.take (k+1)) (ks.drop (k+1))
  rwa[List.take_append_drop] at this
 rw[IC hp (by rw[lD,h1];simp),h2];split
 .rfl
 .rename_i hn;rw[List.idxOf_append,if_neg hn];simp
end
def eU(fs:List ByteArray):List (Value×D):=fs.zipIdx.map fun x=>(.string x.1,I (x.2:Nat))
theorem Pm(s:ByteArray):∀ (fs:List ByteArray) (j:Nat),cM (.string s) ((fs.zipIdx j).map fun x=>(Value.string x.1,I (x.2:Nat)))=if fz fs s then some (jD fs s,I ((jD fs s+j:Nat):Int)) else none
 |[],j=>rfl
 |a::fs,j=>by
  have ih:=Pm s fs (j+1);simp only[List.zipIdx_cons,List.map_cons,cM];rw[IW,IX];by_cases h:a=s
  .subst h;have hv:kH (Value.string a) (.string a)=true:=by show(a.data.toList==a.data.toList)=true;simp
   simp[hv]
  .have hv:kH (Value.string a) (.string s)=false:=beq_eq_false_iff_ne.2 fun e=>h (xE e);simp only[hv,h,decide_false,Bool.false_or,Bool.false_eq_true,if_false];rw[ih];cases fz fs s with
   |false=>rfl
   |true=>
    simp only[if_true,Option.map_some];rw[show jD fs s+(j+1)=jD fs s+1+j by omega]
theorem Jq(s:ByteArray)(fs:List ByteArray):cM (.string s) (eU fs)=if fz fs s then some (jD fs s,I (jD fs s:Nat)) else none:=Pm s fs 0
theorem Zd(fs:List ByteArray)(s:ByteArray):eU (fs++[s])=eU fs++[(.string s,I (fs.length:Nat))]:=by
 unfold eU;rw[List.zipIdx_append,List.map_append];simp
theorem Rw{s:ByteArray}{fs:List ByteArray}(h:fz fs s=false):fX (.string s) (I (fs.length:Nat)) (eU fs)=eU (fs++[s]):=by
 unfold fX;rw[Jq,h,Zd];rfl
theorem Qp(fs:List ByteArray):(eU fs).length=fs.length:=by simp[eU]
end Go.Argus
namespace Go.Proofs.Tryz.K
theorem aia{s:ByteArray}:aB prog 112 [S s] (S kM):=by
 refine bl aeX (.cons (.s _) .nil) (Tr.s _) ?_;rw[aeY];refine ws ?_;refine SS ?_;refine er ?_;refine SS ?_;exact aa (aI rfl rfl)
theorem iP{l:List ap}{sh:List ByteArray}{ca:List (List Int)}:aB prog 48 [.agg (cR l sh ca)] (I l.length):=by
 refine bl aib (.cons (.agg (E6 l sh ca)) .nil) (Tr.s _) ?_;rw[aic];refine az ?_;refine ab ?_;refine aa (bJ (dD [(0,cR l sh ca,82)] eH (l:=[(1,.pt (cR l sh ca))]) eH) (aj ?_));refine ba ?_;exact aa (aI rfl rfl)
theorem M0{l:List Int}(h:∀ n∈l,0<=n/\n<90)(hl:l.length<=100000)(U:l≠[]):aB prog 83 [aP l] (S (gY l)):=by
 refine bl aid (.cons (dn l) .nil) (Tr.s _) ?_;rw[aie];refine ws ?_;refine SS ?_;refine er ?_;refine G8 (aad rfl V.h V.h) ak ?_;refine aa (aF (az ?_));refine ax ?_
 refine aa (cn (fun s=>∃ u q m nx,aJ prog s ⟨ay [(3,.rp 0 0)],m,nx⟩/\m 0=some (.bs u (.rs q 0 (gY l).size) 183)/\m q=some (.cells (fj (gY l)) 5)) (cy (α:=Nat×Bool×D×Option Nat×Mem×Nat)
  (fun s=>⟨ay [(3,.rp 0 0),(6,aP l),(7,I l.length),(8,I s.1)],s.2.2.2.2.1,s.2.2.2.2.2⟩)
  (fun s=>s.1<=l.length/\s.2.2.2.2.1 0=some (.bs s.2.1 s.2.2.1 183)/\sU s.2.2.2.2.1 s.2.2.1 (gY (l.take s.1)) s.2.2.2.1/\(∀ i,s.2.2.2.1=some i->i≠0/\i<s.2.2.2.2.2)/\0<s.2.2.2.2.2/\(0<s.1->s.2.2.2.1≠none)) (fun s=>l.length - s.1) (0,false,.z,none,_,_)
  (au eH) ⟨Nat.zero_le _,rfl,⟨rfl,rfl⟩,(fun i hi=>by cases hi),oM,fun h=>absurd h (Nat.lt_irrefl 0)⟩ ?_) ?_)
 .rintro⟨k,u,x,o,m,nx⟩ ⟨hk,J,hb,ho,X,M⟩;dsimp only at hk J hb ho X M ⊢;refine SS ?_;refine aa ⟨_,rfl,fun af=>?_,fun bq=>?_⟩
  .have gj:k<l.length:=by simpa using af
   clear af;obtain⟨y,hy⟩:∃ y,l[k]? =some y:=⟨_,a7 gj⟩
   have C:=h y (bu hy);have hw:=Zc C;have hr:0<=IntKind.i32.wrap (y+33)/\IntKind.i32.wrap (y+33)<128:=by rw[hw];omega
   have fm:gY (l.take (k+1))=gY (l.take k)++mkStr [IntKind.i32.wrap (y+33)]:=by rw[List.take_add_one,hy,hw, <- Zb];rfl
   have bA:(gY (l.take k)).size<=100000:=by rw[IV,List.length_take];omega
   generalize gY (l.take k)=a at*
   refine ws ?_;refine ax ?_;refine aa (fF ?_);refine ax ?_;refine q8 (ac4 rfl V.h V.h (by first|assumption|omega)) ak ?_;refine gn (He (s:=mkStr [IntKind.i32.wrap (y+33)]) J kr hb ho X (by rw[show(mkStr [IntKind.i32.wrap (y+33)]).size=1 from rfl];omega)) rfl aM fun d m' ai hp=>?_;obtain⟨rfl,rfl,rfl⟩:=hp;refine aa ?_;dsimp only[St.put];refine ab ?_;refine aa (bi (k+1,true,.rs nx 0 (a++mkStr [IntKind.i32.wrap (y+33)]).size,some nx,zb m nx 0 183 (a++mkStr [IntKind.i32.wrap (y+33)]) o,nx+1) (au eH) ?_ oM);dsimp only;refine⟨oG,ah _ _ _,?_,fun i hi=>by cases hi;omega,oG,fun _=>by simp⟩;rw[fm];exact⟨rfl,(aA _ _ oG).trans (ah _ _ _)⟩
  .have gj:¬ k<l.length:=by simpa using bq
   have:k=l.length:=by omega
   subst this;rw[List.take_length] at hb;cases o with
   |none=>exact absurd rfl (M (by cases l with|nil=>exact absurd rfl U|cons a l=>simp))
   |some q=>
    obtain⟨rfl,hq⟩:=hb;exact⟨u,q,m,nx,au eH,J,hq⟩
 .rintro s ⟨u,q,m,nx,hg,h0,hq⟩;refine⟨_,hg,aj ?_⟩;refine gn (T7 h0 hq (by rw[IV];cases l with|nil=>exact absurd rfl U|cons a l=>simp) (by rw[IV];omega)) rfl aM fun d m' ai hp=>?_;obtain⟨rfl,rfl,rfl⟩:=hp;dsimp only[St.put];refine SS ?_;exact aa (aI rfl rfl)
theorem u9:prog.underlying 9=some .string:=kr
theorem vK(s:ByteArray):cE prog 9 (.string s)=true:=by simp[cE,u9]
theorem GS(fs:List ByteArray):(eU fs).all (fun e=>cE prog 9 e.1)=true:=by
 refine bQ.2 fun e he=>?_;obtain⟨x,_,rfl⟩:=List.mem_map.1 he;exact vK _
theorem Tf:lQ prog (lb prog 144)=I 0:=kr
theorem ab'(s:ByteArray)(fs:List ByteArray):fy prog 144 true (cM (.string s) (eU fs))=.aL [I (if fz fs s then(jD fs s:Nat) else 0:Int),B (fz fs s)]:=by
 rw[Jq];cases fz fs s with
 |true=>rfl
 |false=>
  show(D.aL [lQ prog (lb prog 144),_])=_;rw[Tf];rfl
theorem D8{ks:List ByteArray}(hl:ks.length<=100000):aB prog 82 [bU ks] (.aL [aP (al (aT ks)),I (aV ks).length]):=by
 refine bl aif (.cons (iV ks) .nil) (.aL (.cons (dn _) (.cons (.s _) .nil))) ?_;rw[aih];refine ws ?_;refine ab ?_;refine er ?_;refine ab ?_;refine aa (az ?_);refine SS ?_;refine aa ⟨_,.r4 _ _ _ 5 3 rfl,aF (az ?_)⟩;refine ax ?_
 refine aa (cn (fun s=>∃ r nx,r≠0/\aJ prog s ⟨ay [(4,.mp 0),(5,.rs r 0 ks.length)],br [(0,.map (eU (aV ks))),(r,.cells ((al (aT ks)).map I) 3)],nx⟩) (cy (α:=Nat×Nat×Nat)
  (fun s=>⟨ay [(4,.mp 0),(5,.rs s.2.1 0 s.1),(11,bU ks),(12,I ks.length),(13,I s.1)],br [(0,.map (eU (aV (ks.take s.1)))),(s.2.1,.cells ((al ((aT ks).take s.1)).map I) 3)],s.2.2⟩)
  (fun s=>s.1<=ks.length/\0<s.2.1/\s.2.1<s.2.2) (fun s=>ks.length - s.1) (0,1,2)
  (bZ eH eH) ⟨Nat.zero_le _,oC,oC⟩ ?_) ?_)
 .rintro⟨k,r,nx⟩ ⟨hk,X,hr⟩;dsimp only at hk X hr ⊢;refine SS ?_;refine aa ⟨_,rfl,fun h=>?_,fun h=>?_⟩
  .have af:k<ks.length:=by simpa using h
   clear h;obtain⟨y,hy⟩:∃ y,ks[k]? =some y:=⟨_,a7 af⟩
   obtain⟨C,J⟩:=Qo hy;have DO:(aV (ks.take k)).length<=100000:=by have:=tA (ks.take k);simp at this;omega
   have U:((aT ks).take k).length=k:=by simp;omega
   generalize aV (ks.take k)=fs at*
   generalize (aT ks).take k=out at*
   have ao:br [(0,Row.map (eU fs)),(r,.cells ((al out).map I) 3)] 0=some (.map (eU fs)):=rfl;have gR:br [(0,Row.map (eU fs)),(r,.cells ((al out).map I) 3)] r=some (.cells ((al out).map I) 3):=by simp[br];omega
   have mR:((al out).map I).length=k:=by simp[U]
   refine ws ?_;refine ax ?_;refine er ?_;refine ab ?_;refine aw (E2 rfl ao rfl Dc (ab' y fs)) aM ⟨Dd,vK y,GS fs⟩ ?_;refine bx ?_;cases hm:fz fs y with
   |true=>
    rw[hm] at C J;simp only[if_true] at C J ⊢;refine aa (aF (aj ?_));refine ab ?_;refine aa (cQ rfl (fun h=>by cases h) fun _=>cx (fF ?_));refine bx ?_;refine aa ?_;refine ab ?_;refine aa (bi (k+1,nx+1,nx+1+1) ?_ ⟨oM,oM,oM⟩ oM);dsimp only;rw[C,J];refine bZ eH ⟨?_,?_,trivial⟩
    .exact ag oG (ag oG (ag oG ao))
    .exact(ah _ _ _).trans (by simp;rfl)
   |false=>
    rw[hm] at C J;simp only[Bool.false_eq_true,if_false] at C J ⊢;refine aa (aF (aj ?_));refine ab ?_;refine aa (cQ rfl (fun _=>aF (aj ?_)) fun h=>by cases h);refine SS ?_;refine q8 (Ke rfl rfl V.h) ak ?_;refine SS ?_;rw[Qp];refine er ?_;refine ax ?_;refine bN (xA (key:=.string y) (v:=I (fs.length:Nat)) rfl ao rfl rfl Dc) aM ⟨Dd,vK y,GS fs⟩ ?_;rw[Rw hm];have M:up (br [(0,Row.map (eU fs)),(r,.cells ((al out).map I) 3)]) 0 (some (.map (eU (fs++[y])))) 0=some (.map (eU (fs++[y]))):=ah _ _ _;have gR:=ag (f:=br [(0,Row.map (eU fs)),(r,.cells ((al out).map I) 3)]) (k:=0) (v:=some (.map (eU (fs++[y])))) oG gR;refine aa (fF ?_);refine bx ?_;refine aa ?_;refine ab ?_;refine aa (bi (k+1,nx+1,nx+1+1) ?_ ⟨oM,oM,oM⟩ oM);dsimp only;rw[C,J];refine bZ eH ⟨?_,?_,trivial⟩
    .exact ag oG (ag oG (ag oG M))
    .exact(ah _ _ _).trans (by simp;rfl)
  .have bq:¬ k<ks.length:=by simpa using h
   have:k=ks.length:=by omega
   subst this;rw[List.take_length,dt oS];exact⟨r,nx,oG,au eH⟩
 .rintro s ⟨r,nx,hr,hg⟩;refine⟨_,hg,az ?_⟩;have ao:br [(0,Row.map (eU (aV ks))),(r,.cells ((al (aT ks)).map I) 3)] 0=some (.map (eU (aV ks))):=rfl;refine ab ?_;refine q8 (Ke rfl rfl V.h) ak ?_;refine ab ?_;rw[Qp];refine aa (bJ (fu (i:=r) (cs:=(al (aT ks)).map I) (e:=3) (by simp[br,hr]) (l:=[(2,aP (al (aT ks))),(3,I (aV ks).length)]) ⟨?_,rfl,trivial⟩) (gl rfl rfl rfl));exact(jM (by rw[c3];simp)).trans oS
end Go.Proofs.Tryz.K
namespace Go.Abs
def c8(i:Nat)(cs:List D)(sz:Nat)(m:Mem):Mem:=fun j=>if j=i then none else(m j).map (Row.sub (cF i cs sz))
theorem lz{P:Program}{env:Env}{m:Mem}{nx i:Nat}{cs:List D}{e:TypeId}{l:List (Nat×D)}(hm:m i=some (.cells cs e))(hl:kW l fun t=>sub (cF i cs (P.cellsOf e)) (env t)):aJ P ⟨env,m,nx⟩ ⟨ay l,c8 i cs (P.cellsOf e) m,nx⟩:=
 (aJ.freeze env m nx i cs e hm).trans (au hl)
theorem gQ{i j sz:Nat}{cs:List D}{m:Mem}{r:Row}(h:m j=some r)(hj:j≠i)(hr:lO (fun k=>k=i) r):c8 i cs sz m j=some r:=by
 unfold c8;rw[if_neg hj,h];exact congrArg some (hr i cs sz rfl)
end Go.Abs
namespace Go.Argus
theorem BS{X:Nat->Prop}{α:Type}{f:α->List D}(h:∀ x,∀ d∈f x,fI X d)(l:List α){e:TypeId}:lO X (.cells (l.flatMap f) e):=lO.cells fun d hd=>by
 obtain⟨x,_,hx⟩:=List.mem_flatMap.1 hd;exact h x d hx
theorem amc{X:Nat->Prop}(x:cU):∀ d∈ct x,fI X d:=fun d hd=>by
 simp only[ct,List.mem_cons,List.not_mem_nil,or_false] at hd;rcases hd with rfl|rfl|rfl|rfl|rfl|rfl<;>first|exact .s _|exact .sl _ _
theorem Ze{X:Nat->Prop}(x:End):∀ d∈bD x,fI X d:=fun d hd=>by
 simp only[bD,List.mem_cons,List.not_mem_nil,or_false] at hd;rcases hd with rfl|rfl|rfl|rfl|rfl|rfl|rfl|rfl|rfl|rfl|rfl|rfl|rfl|rfl|rfl<;>first|exact .s _|exact .sl _ _
theorem Xn{X:Nat->Prop}(b:bI):∀ d∈bS b,fI X d:=fun d hd=>by
 rcases List.mem_cons.1 hd with rfl|hd
 .exact .sl _ _
 .exact Ze _ d hd
def headD(f:ap)(x:D):List D:=[S f.name,B f.iter,I f.args,U8 f.result,iy f.aU,iy f.cg,bU f.signals,x]
theorem X0{X:Nat->Prop}{f:ap}{x:D}(h:fI X x):∀ d∈headD f x,fI X d:=fun d hd=>by
 simp only[headD,List.mem_cons,List.not_mem_nil,or_false] at hd;rcases hd with rfl|rfl|rfl|rfl|rfl|rfl|rfl|rfl<;>first|exact .s _|exact .sl _ _|exact h
theorem Of{X:Nat->Prop}:∀ d∈jA,fI X d:=fun d hd=>by
 simp only[jA,List.mem_cons,List.not_mem_nil,or_false] at hd;rcases hd with rfl|rfl|rfl|rfl|rfl|rfl|rfl|rfl<;>first|exact .s _|exact .z
def Grow(m:Mem)(lo hi:Nat)(x:D)(n:Nat)(cs:List D)(e:TypeId):Prop:=(n=0/\cs=[]/\x=.z)\/∃ r,lo<=r/\r<hi/\x=.rs r 0 n/\m r=some (.cells cs e)
theorem Grow.mono{m m':Mem}{lo hi C:Nat}{x:D}{n:Nat}{cs:List D}{e:TypeId}(h:Grow m lo hi x n cs e)(hm:∀ j,lo<=j->j<hi->m' j=m j)(hh:hi<=C):Grow m' lo C x n cs e:=by
 rcases h with h|⟨r,h1,h2,J,M⟩
 .exact .inl h
 .exact .inr ⟨r,h1,oG,J,by rw[hm r h1 h2,M]⟩
theorem Grow.nR{m:Mem}{lo hi C i sz:Nat}{x:D}{n:Nat}{cs cs':List D}{e:TypeId}(h:Grow m lo hi x n cs e)(U:hi<=i)(hh:hi<=C)(hr:lO (fun k=>k=i) (.cells cs e)):Grow (c8 i cs' sz m) lo C x n cs e:=by
 rcases h with h|⟨r,h1,h2,J,M⟩
 .exact .inl h
 .exact .inr ⟨r,h1,oG,J,gQ M oG hr⟩
theorem Grow.Tg{m:Mem}{lo hi i:Nat}{x:D}{n:Nat}{cs:List D}{e:TypeId}(h:Grow m lo hi x n cs e)(C:hi<=i):fI (fun k=>k=i) x:=by
 rcases h with⟨_,_,rfl⟩|⟨r,h1,h2,rfl,J⟩
 .exact .z
 .exact .rs oG
structure TB(m:Mem)(nx:Nat)(f:ap)(x:D)(bs:List bI):Prop where
 r1:m 1=some (.cells jA 48)
 r2:m 2=some (.cells (headD f x) 48)
 lt:2<nx
 gr:Grow m 3 nx x bs.length (bs.flatMap bS) 59
theorem TB.mono{m m':Mem}{nx C:Nat}{f:ap}{x:D}{bs:List bI}(h:TB m nx f x bs)(hm:∀ j,j<nx->m' j=m j)(hn:nx<=C):TB m' C f x bs:=
 ⟨by rw[hm 1 (by have:=h.lt;omega)];exact h.r1,by rw[hm 2 h.lt];exact h.r2,by have:=h.lt;omega,h.gr.mono (fun j _ hj=>hm j hj) hn⟩
theorem TB.nR{m:Mem}{nx C i sz:Nat}{f:ap}{x:D}{bs:List bI}{cs:List D}(h:TB m nx f x bs)(hi:nx<=i)(hn:nx<=C):TB (c8 i cs sz m) C f x bs:=
 ⟨gQ h.r1 (by have:=h.lt;omega) (.cells Of),gQ h.r2 (by have:=h.lt;omega) (.cells (X0 (h.gr.Tg hi))),by have:=h.lt;omega,h.gr.nR hi hn (BS Xn _)⟩
end Go.Argus
namespace Go.Proofs.Tryz.K
theorem zi{f:ap}{name:ByteArray}{g:FuncId}{fs cs:List D}{to:ByteArray->ByteArray}(ht:Tr (.fn (.func g) fs cs))(sK:∀ X:Nat->Prop,fI X (.fn (.func g) fs cs))(hg:∀ b∈f.blocks,ja b=true->aB prog g (fs++[S b.fin.name]++cs) (S (to b.fin.name)))
 (h1:f.aU.length<=100000) (h2:f.cg.length<=100000) (h3:f.signals.length<=100000) (h4:f.blocks.length<=100000) (h5:∀ b∈f.blocks,b.ins.length<=100000/\(∀ x∈b.ins,x.args.length<=100000)/\b.fin.args.length<=100000/\b.fin.aR.length<=100000/\b.fin.ins.args.length<=100000):
 aB prog 57 [.agg (aX f),S name,.fn (.func g) fs cs] (.agg (aX (ie f name to))):=by
 have kr:=Vh (l:=f.aU) oG;have ks:=Vh (l:=f.cg) oG;have MX:=MX (l:=f.signals) oG;refine bl aii (.cons (.agg (na f)) (.cons (.s _) (.cons ht .nil))) (.agg (na _)) ?_;rw[aij];refine az ?_;refine ab ?_;refine aa ⟨_,qB (i:=0) (cs:=aX f) (e:=48) rfl (l:=[(1,S name),(2,.fn (.func g) fs cs),(3,.pt (aX f)),(6,.rp 1 0)]) ⟨rfl,sK _ _ _ _ rfl,lU,rfl,trivial⟩ (ml:=[(1,.cells jA 48)]) eH,aj ?_⟩;refine ax ?_;refine er ?_;refine ax ?_;refine aa (eA aaN ?_);refine ab ?_;refine o8 kr rfl aM ?_;refine ab ?_;refine o8 ks rfl aM ?_;refine ab ?_;refine cl MX ?_;refine cw ?_;refine cz cJ (az ?_);refine ab ?_;have DY:∀ i (iQ:List D) sz,sub (cF i iQ sz) (.fn (.func g) fs cs)=.fn (.func g) fs cs:=fun i iQ sz=>sK (fun k=>k=i) i iQ sz rfl;generalize hF:ie f name to=F at*
 have hn:F.name=name:=by rw[<- hF];rfl
 refine aa ⟨_,bZ (l:=[(2,.fn (.func g) fs cs),(3,.pt (aX f)),(6,.rp 1 0),(7,.rp 2 0)]) eH (ml:=[(1,.cells jA 48),(2,.cells (headD F .z) 48)]) ⟨rfl,by subst hF;rfl,trivial⟩,aF (az ?_)⟩;refine ba ?_;have Bp:∀ k,(F.blocks.take k)=(f.blocks.take k).map (dO to):=fun k=>by rw[<- hF];exact List.map_take.symm
 have DO:F.blocks.length=f.blocks.length:=by rw[<- hF];simp[ie]
 refine aa (cn (fun s=>∃ x m nx,TB m nx F x F.blocks/\aJ prog s ⟨ay [(6,.rp 1 0),(7,.rp 2 0)],m,nx⟩) (cy (α:=Nat×D×Mem×Nat)
  (fun s=>⟨ay [(2,.fn (.func g) fs cs),(6,.rp 1 0),(7,.rp 2 0),(30,cG f.blocks),(31,I f.blocks.length),(32,I s.1)],s.2.2.1,s.2.2.2⟩)
  (fun s=>s.1<=f.blocks.length/\TB s.2.2.1 s.2.2.2 F s.2.1 (F.blocks.take s.1)) (fun s=>f.blocks.length - s.1) (0,.z,_,_)
  (au eH) ⟨Nat.zero_le _,rfl,rfl,oM,.inl ⟨rfl,rfl,rfl⟩⟩ ?_) ?_)
 .rintro⟨k,x7,m,nx⟩ ⟨hk,M⟩;dsimp only at hk M ⊢;refine SS ?_;refine aa ⟨_,rfl,fun h=>?_,fun h=>?_⟩
  .have af:k<f.blocks.length:=by simpa using h
   clear h;obtain⟨b,hb⟩:∃ b,f.blocks[k]? =some b:=⟨_,a7 af⟩
   have Bt:b∈f.blocks:=bu hb;obtain⟨MP,MQ,gv,qf,hb5⟩:=h5 b Bt;have hgb:=hg b Bt;have fm:F.blocks.take (k+1)=F.blocks.take k++[dO to b]:=by rw[Bp,Bp,List.take_add_one,hb,List.map_append];rfl
   refine az ?_;refine ba ?_;refine aa ⟨_,lz (i:=nx) (cs:=bS b) (e:=59) (ah _ _ _) (l:=[(2,.fn (.func g) fs cs),(6,.rp 1 0),(7,.rp 2 0),(30,cG f.blocks),(31,I f.blocks.length),(32,I k),(9,.pt (bS b))]) ⟨DY _ _ _,gk (by have:=M.lt;omega),gk (by have:=M.lt;omega),rfl,rfl,rfl,lG,trivial⟩,aj ?_⟩;have HL:TB (c8 nx (bS b) (prog.cellsOf 59) _) (nx+1) F x7 (F.blocks.take k):=(M.mono (m':=up (up m nx (some (.cells (a8 prog 59) 59))) nx (some (.cells (bS b) 59))) (fun j hj=>(aA _ _ oG).trans (aA _ _ oG)) (bd _)).nR (bd _) oG;have cv:=M.lt;have aik:a8 prog 59=_:=z59;rw[aik] at HL;generalize c8 nx (bS b) (prog.cellsOf 59) _=m1 at*
   clear M;refine ax ?_;refine er ?_;have ao:∀ {r},up (up m1 (nx+1) r) (nx+1) (some (.cells (bS b) 59)) (nx+1)=some (.cells (lH b.ins::bD b.fin) 59):=ah _ _ _;refine SS ?_;refine bN (eK (d:=.z) (cs':=_) rfl rfl ao rfl rfl) ak (bX V.h V.h (by first|(simp;done)|exact⟨rfl,bF rfl⟩|(simp;omega)) rfl) ?_;refine aa (aF (az ?_));refine ba ?_
   refine aa (cn (fun s=>∃ m' C,TB m' (nx+1) F x7 (F.blocks.take k)/\m' (nx+1)=some (.cells (bS b) 59)/\nx+2<=C/\aJ prog s ⟨ay [(2,.fn (.func g) fs cs),(6,.rp 1 0),(7,.rp 2 0),(9,.pt (bS b)),(10,.rp (nx+1) 0),(30,cG f.blocks),(31,I f.blocks.length),(32,I k)],m',C⟩) (cy (α:=Nat×D×Mem×Nat)
    (fun s=>⟨ay [(2,.fn (.func g) fs cs),(6,.rp 1 0),(7,.rp 2 0),(9,.pt (bS b)),(10,.rp (nx+1) 0),(30,cG f.blocks),(31,I f.blocks.length),(32,I k),(39,lH b.ins),(40,I b.ins.length),(41,I s.1)],s.2.2.1,s.2.2.2⟩)
    (fun s=>s.1<=b.ins.length/\TB s.2.2.1 (nx+1) F x7 (F.blocks.take k)/\s.2.2.1 (nx+1)=some (.cells (s.2.1::bD b.fin) 59)/\Grow s.2.2.1 (nx+2) s.2.2.2 s.2.1 s.1 ((b.ins.take s.1).flatMap ct) 54/\nx+2<=s.2.2.2) (fun s=>b.ins.length - s.1) (0,.z,_,_)
    (au eH) ⟨Nat.zero_le _,HL.mono (fun j hj=>(aA _ _ oG).trans ((aA _ _ oG).trans (aA _ _ oG))) (bd _),ah _ _ _,.inl ⟨rfl,rfl,rfl⟩,oM⟩ ?_) ?_)
   .rintro⟨j,y0,m',C⟩ ⟨hj,wK,hq,hG,AV⟩;dsimp only at hj wK hq hG AV ⊢;refine SS ?_;refine aa ⟨_,rfl,fun h=>?_,fun h=>?_⟩
    .have dj:j<b.ins.length:=by simpa using h
     clear h;obtain⟨y,hy⟩:∃ y,b.ins[j]? =some y:=⟨_,a7 dj⟩
     have rF:=rF (l:=y.args) (MQ y (bu hy));have Ua:b.ins.take (j+1)=b.ins.take j++[y]:=by rw[List.take_add_one,hy];rfl
     have M1:((b.ins.take j).flatMap ct).length=j*6:=by
      rw[Ex (sz:=6) (fun _=>rfl),List.length_take];congr 1;omega
     generalize b.ins.take j=l0 at*
     refine ws ?_;refine ba ?_;refine er ?_;refine SS ?_;refine aw (j5 rfl (ah _ _ _) rfl V.h) ak (j6 V.h V.h rfl) ?_;refine cl rF ?_;refine SS ?_;refine bN (eK (d:=.sl _ _) (cs':=_) rfl rfl (ah _ _ _) rfl rfl) ak (bX V.h V.h (by first|(simp;done)|exact⟨rfl,bF rfl⟩|(simp;omega)) rfl) ?_;refine aa (fF ?_);have ao:∀ {a J c},up (up (up m' C a) C J) C c (nx+1)=some (.cells (y0::bD b.fin) 59):=ag oG (ag oG (ag oG hq));have kd:(y0::bD b.fin).drop 0=y0::bD b.fin:=rfl;refine ba ?_;rcases hG with⟨rfl,D9,rfl⟩|⟨r,uO,wL,rfl,kG⟩
     .refine eI (Ae rfl rfl V.h V.h (kO (ah _ _ _) rfl)) ak ⟨V.h,(by first|omega|exact bF rfl|(simp;done)|(simp;omega)),oC,(by unfold maxLen;first|omega|(simp;omega)),(by rw[M3];first|omega|(simp;omega))⟩ ?_;have ao:∀ {a J c d e2},up (up (up (up (up m' C a) C J) C c) (C+1) d) (C+1+1) e2 (nx+1)=some (.cells (.z::bD b.fin) 59):=ag oG (ag oG (ag oG (ag oG (ag oG hq))));refine ab ?_;refine aa ?_;refine ab ?_;refine aa (bi (0+1,.rs (C+1+1) 0 1,_,C+1+1+1) (au eH) ?_ oM);dsimp only;refine⟨oG,wK.mono (fun i hi=>(aA _ _ oG).trans ((aA _ _ oG).trans ((aA _ _ oG).trans ((aA _ _ oG).trans ((aA _ _ oG).trans (aA _ _ oG)))))) (bd _),ah _ _ _,.inr ⟨C+1+1,oG,oG,rfl,(aA _ _ oG).trans ((ah _ _ _).trans ?_)⟩,oG⟩;rw[Ua,List.flatMap_append,D9];simp;rfl
     .have gR:∀ {a J c d},up (up (up (up m' C a) C J) C c) (C+1) d r=some (.cells (l0.flatMap ct) 54):=ag oG (ag oG (ag oG (ag oG kG)));refine ji (iX rfl gR rfl Vj M4 (kO (ah _ _ _) rfl) rfl) aM ⟨Ub,rfl,bF rfl,oC,by rw[M1];omega,by unfold maxLen;omega,by rw[M3];omega,by simp;omega⟩ ?_;have ao:∀ {a J c d e1 e2},up (up (up (up (up (up m' C a) C J) C c) (C+1) d) r e1) (C+1+1) e2 (nx+1)=some (.cells (.rs r 0 j::bD b.fin) 59):=ag oG (ag oG (ag oG (ag oG (ag oG (ag oG hq)))));refine ab ?_;refine aa ?_;refine ab ?_;refine aa (bi (j+1,.rs (C+1+1) 0 (j+1),_,C+1+1+1) (au eH) ?_ oM);dsimp only;refine⟨oG,wK.mono (fun i hi=>(aA _ _ oG).trans ((aA _ _ oG).trans ((aA _ _ oG).trans ((aA _ _ oG).trans ((aA _ _ oG).trans ((aA _ _ oG).trans (aA _ _ oG))))))) (bd _),ah _ _ _,.inr ⟨C+1+1,oG,oG,rfl,(aA _ _ oG).trans ((ah _ _ _).trans ?_)⟩,oG⟩;rw[Ua,List.flatMap_append];simp;rfl
    .have bq:¬ j<b.ins.length:=by simpa using h
     have:j=b.ins.length:=by omega
     subst this;rw[List.take_length] at hG;rcases hG with⟨h0,D9,rfl⟩|⟨r,uO,wL,rfl,kG⟩
     .have gX:b.ins=[]:=List.length_eq_zero_iff.1 h0;refine⟨up m' (nx+1) (some (.cells (bS b) 59)),C,wK.mono (fun j hj=>aA _ _ oG) (bd _),ah _ _ _,AV,?_⟩;refine(au (l:=[(2,.fn (.func g) fs cs),(6,.rp 1 0),(7,.rp 2 0),(9,.pt (bS b)),(10,.rp (nx+1) 0),(30,cG f.blocks),(31,I f.blocks.length),(32,I k)]) eH).trans (aJ.nw _ _ _ _ _ (fun t=>tB _) fun i=>?_);by_cases hi:i=nx+1
      .subst hi;refine .inr ⟨_,bS b,59,hq,ah _ _ _,rfl,fun k d d' hd fa=>?_⟩;cases k with
       |zero=>
        simp only[List.getElem?_cons_zero,aH,bS] at hd fa;subst hd fa;rw[gX];exact AY
       |succ k=>
        simp only[List.getElem?_cons_succ,bS] at hd fa;rw[hd] at fa;cases fa;exact tB _
      .exact .inl (aA _ _ hi)
     .refine⟨c8 r _ (prog.cellsOf 54) m',C,wK.nR oG (bd _),?_,AV,lz kG ⟨DY _ _ _,gk oG,gk oG,rfl,gk oG,rfl,rfl,rfl,trivial⟩⟩;unfold c8;rw[if_neg oG,hq];show some (Row.cells (sub (cF r (b.ins.flatMap ct) (prog.cellsOf 54)) (.rs r 0 b.ins.length)::bD b.fin) 59)=_;rw[AF,M4,List.drop_zero,B2 (f:=ct) (sz:=6) (fun _=>rfl),List.take_length];rfl
   .rintro s ⟨m',C,wK,hq,AV,dQ⟩;refine⟨_,dQ,?_⟩;clear dQ;have kA:=rF (l:=b.fin.args) gv;have MY:=MY (l:=b.fin.aR) oG;have kI:=rF (l:=b.fin.ins.args) hb5;refine eA Zf ?_;have ao:=hq;refine ax ?_;refine o8 kA rfl aM ?_;refine ax ?_;refine cl MY ?_;refine ba ?_;refine o8 kI rfl aM ?_;refine ax ?_;have ao:∀ {a},up m' (nx+1) a (nx+1)=a:=ah _ _ _;refine ax ?_;have ao:∀ {a J},up (up m' (nx+1) a) (nx+1) J (nx+1)=J:=ah _ _ _;refine ba ?_;refine cz cJ ?_;refine iz (fun s=>∃ U,TB U (nx+1) F x7 (F.blocks.take k)/\U (nx+1)=some (.cells (bS (dO to b)) 59)/\aJ prog s ⟨ay [(2,.fn (.func g) fs cs),(6,.rp 1 0),(7,.rp 2 0),(9,.pt (bS b)),(10,.rp (nx+1) 0),(30,cG f.blocks),(31,I f.blocks.length),(32,I k)],U,C⟩) ?_ ?_
    .refine ws ?_;refine dJ ?_;refine ab ?_;refine aa (aO rfl (fun hp=>sd ?_) fun hp=>cI ?_)
     .have hc:ja b=true:=by
       show(decide (b.fin.kind=6)||decide (b.fin.kind=7))=true;revert hp;cases h6:(b.fin.kind==6)<;>simp_all
      have kc:=hgb hc;have ao:∀ {a J c},up (up (up m' (nx+1) a) (nx+1) J) (nx+1) c (nx+1)=c:=ah _ _ _;refine ba ?_;refine cl kc ?_;refine ab ?_;refine bN (eK (d:=.s (.string _)) (cs':=_) rfl rfl ao rfl rfl) ak (bX V.h V.h (by first|(simp;done)|exact⟨rfl,bF rfl⟩|(simp;omega)) rfl) ?_;refine aa ⟨_,wK.mono (fun i hi=>(aA _ _ oG).trans ((aA _ _ oG).trans ((aA _ _ oG).trans (aA _ _ oG)))) (bd _),?_,au eH⟩;rw[dO,if_pos hc];exact ah _ _ _
     .have hc:¬ ja b=true:=by
       show ¬ (decide (b.fin.kind=6)||decide (b.fin.kind=7))=true;revert hp;cases h6:(b.fin.kind==6)<;>simp_all
      refine⟨_,wK.mono (fun i hi=>(aA _ _ oG).trans ((aA _ _ oG).trans (aA _ _ oG))) (bd _),?_,au eH⟩;rw[dO,if_neg hc];exact ah _ _ _
    .rintro s ⟨U,Bu,yM,dQ⟩;refine⟨_,dQ,fF ?_⟩;clear dQ;have lk:(F.blocks.take k).length=k:=by rw[List.length_take];omega
     have lc:((F.blocks.take k).flatMap bS).length=k*16:=by rw[Ex (sz:=16) (fun _=>rfl),lk]
     have ao:=Bu.r2;have kd:(headD F x7).drop (0+7)=x7::[]:=rfl;refine ab ?_;have ao:=yM;refine aw (fg (vs:=bS _) rfl ao V.h V.h rfl) ak (fh V.h V.h (by first|(simp;done)|omega|exact bF rfl)) ?_;refine SS ?_;rcases Bu.gr with⟨h0,D9,rfl⟩|⟨r,uO,wL,rfl,kG⟩
     .refine eI (Ae rfl rfl V.h V.h (kO (ah _ _ _) rfl)) ak ⟨V.h,(by first|omega|exact bF rfl|(simp;done)|(simp;omega)),oC,(by unfold maxLen;first|omega|(simp;omega)),(by rw[M5];first|omega|(simp;omega))⟩ ?_;have ao:∀ {a J},up (up U C a) (C+1) J 2=some (.cells (headD F .z) 48):=ag oG (ag oG Bu.r2);refine ab ?_;refine aa ?_;refine ab ?_;refine aa (bi (k+1,.rs (C+1) 0 1,_,C+1+1) (au eH) ?_ oM);dsimp only;have sQ:k=0:=by omega
      subst sQ;refine⟨oG,(aA _ _ oG).trans ((aA _ _ oG).trans Bu.r1),rfl,oG,.inr ⟨C+1,oG,oG,?_,(aA _ _ oG).trans ((ah _ _ _).trans ?_)⟩⟩
      .rw[fm];rfl
      .rw[fm,List.flatMap_append,D9];simp;rfl
     .have gR:∀ {a},up U C a r=some (.cells ((F.blocks.take k).flatMap bS) 59):=ag oG kG;refine ji (iX rfl gR rfl M6 HQ (kO (ah _ _ _) rfl) rfl) aM ⟨LN,rfl,bF rfl,oC,by rw[lc,lk];omega,by unfold maxLen;omega,by rw[M5];omega,by simp;omega⟩ ?_;have ao:∀ {a J c},up (up (up U C a) r J) (C+1) c 2=some (.cells (headD F (.rs r 0 (F.blocks.take k).length)) 48):=ag oG (ag oG (ag oG Bu.r2));refine ab ?_;refine aa ?_;refine ab ?_;refine aa (bi (k+1,.rs (C+1) 0 ((F.blocks.take k).length+1),_,C+1+1) (au eH) ?_ oM);dsimp only;refine⟨oG,(aA _ _ oG).trans ((aA _ _ oG).trans ((aA _ _ oG).trans Bu.r1)),rfl,oG,.inr ⟨C+1,oG,oG,?_,(aA _ _ oG).trans ((ah _ _ _).trans ?_)⟩⟩
      .rw[fm,List.length_append];rfl
      .rw[fm,List.flatMap_append];simp;rfl
  .have bq:¬ k<f.blocks.length:=by simpa using h
   have:k=f.blocks.length:=by omega
   subst this;rw[dt oG] at M;exact⟨x7,m,nx,M,au eH⟩
 .rintro s ⟨x,m,nx,M,dQ⟩
  have nN:∃ U gK,aJ prog s ⟨ay [(6,.rp 1 0),(7,.rp 2 0)],U,gK⟩/\U 1=some (.cells jA 48)/\U 2=some (.cells (aX F) 48):=by
   rcases M.gr with⟨h0,D9,rfl⟩|⟨r,uO,wL,rfl,kG⟩
   .have gX:F.blocks=[]:=List.length_eq_zero_iff.1 h0;refine⟨up m 2 (some (.cells (aX F) 48)),nx,dQ.trans (aJ.nw _ _ _ _ _ (fun t=>tB _) fun i=>?_),(aA _ _ oG).trans M.r1,ah _ _ _⟩;by_cases hi:i=2
    .subst hi;refine .inr ⟨_,aX F,48,M.r2,ah _ _ _,rfl,fun k d d' hd fa=>?_⟩
     match k with
     |0|1|2|3|4|5|6=>cases (show some d=some d' from hd.symm.trans fa);exact tB _
     |7=>
      have e1:(headD F .z)[7]? =some .z:=rfl;have e2:(aX F)[7]? =some (cG F.blocks):=rfl;rw[e1] at hd;rw[e2] at fa;cases hd;cases fa;rw[gX];exact AY
     |k+8=>simp[headD] at hd
    .exact .inl (aA _ _ hi)
   .refine⟨c8 r _ (prog.cellsOf 59) m,nx,dQ.trans (lz kG ⟨gk oG,gk oG,trivial⟩),gQ M.r1 oG (.cells Of),?_⟩;unfold c8;rw[if_neg oG,M.r2];show some (Row.cells (headD F (sub (cF r (F.blocks.flatMap bS) (prog.cellsOf 59)) (.rs r 0 F.blocks.length))) 48)=_;rw[AF,HQ,List.drop_zero,B2 (f:=bS) (sz:=16) (fun _=>rfl),List.take_length];rfl
  obtain⟨U,gK,D',q1,q2⟩:=nN;refine⟨_,D',aj ?_⟩;clear D' dQ;have ao:=q2;refine SS ?_;have ao:=q1;refine bN (fq (cs':=aX _) rfl rfl ao rfl) ak (bX V.h V.h (by first|(simp;done)|exact⟨rfl,bF rfl⟩|(simp;omega)) (by rfl)) ?_;exact aa (r9 (gN (cs:=aX F) (vs:=aX F) rfl rfl zc oE rfl t48 (bF rfl)) rfl)
end Go.Proofs.Tryz.K
namespace Go.Argus
theorem acb{f:ap}{l:List ap}(hl:l.length<=1000000)(h:∀ g∈l,fi g=0)(hf:f∈l):JS f l:=by
 have C:=checked (h f hf);have M:=Ku C
 have J:∀ b∈f.blocks,jb f b.fin=true:=fun b hb=>by
  unfold nh at C;simp only[bc] at C;obtain⟨k,hk⟩:=dw hb;have:=bQ.1 C.2.2.2.1 k (List.mem_range.2 (bC.1 hk).1);unfold lJ at this;rw[getD_some hk] at this;simp only[bc] at this;exact this.1
 refine⟨hl,by have:=M.kN;omega,fun b hb hk=>?_,fun b hb hk=>?_,fun b hb hk=>?_,fun g hg=>?_⟩
 .have:=J b hb;unfold jb at this;rcases hk with hk|hk<;>simp only[eL,hk,Int.reduceEq,if_false,if_true,bc,decide_eq_true_eq] at this<;>exact⟨fun r hr=>tk this.1.2.2.1 r hr,by have:=this.1.2.1;omega⟩
 .have:=J b hb;unfold jb at this;simp only[eL,hk,Int.reduceEq,if_false,if_true,bc,decide_eq_true_eq,Bool.or_eq_true,gO] at this;rcases this.1.2.2.2.1 with h1|h1
  .omega
  .exact(rO h1).2
 .have:=J b hb;unfold jb at this;simp only[eL,hk,Int.reduceEq,if_false,if_true,bc,decide_eq_true_eq] at this;exact rO this.1.2.1
 .have:=checked (h g hg);unfold nh tE at this;simp only[bc] at this;have:=kQ.1 this.1.2.1;split at this<;>omega
structure o6(l:List ap):Prop where
 len:l.length<=60
 sW:∀ f∈l,fi f=0
 zw:∀ i,i+1<l.length->Op.bytesLess (oR l i).toList (oR l (i+1)).toList=true
 calls:∀ f∈l,tM f l=true
theorem tN{l:List ap}(h:(dc l).2=0):o6 l:=by
 unfold dc at h;split at h
 .cases h
 .rename_i J;split at h
  .rename_i i hi;have:=List.find?_some hi;simp only[bne_iff_ne,ne_eq] at this;exact absurd h this
  .rename_i hn;split at h
   .cases h
   .rename_i hc;rw[List.find?_eq_none] at hn hc
    have h1:∀ i,i<l.length->kT l i=0:=fun i hi=>by
     have:=hn i (List.mem_range.2 hi);simpa using this
    have C:∀ f∈l,fi f=0:=fun f hf=>by
     obtain⟨i,hi⟩:=dw hf;have:=h1 i (bC.1 hi).1;unfold kT at this;rw[hi] at this;simp only at this;split at this
     .assumption
     .exact this
    refine⟨oG,C,fun i hi=>?_,fun f hf=>?_⟩
    .have:=h1 (i+1) hi;obtain⟨f,hf⟩:∃ f,l[i+1]? =some f:=⟨_,a7 hi⟩
     unfold kT at this;rw[hf] at this;simp only[C f (bu hf),if_true] at this;have e:oR l (i+1)=f.name:=by unfold oR;rw[hf]
     rw[e];cases hs:AT (oR l i) f.name with
     |false=>unfold AT at hs;simpa using hs
     |true=>
      rw[show i+1 - 1=i by omega,hs] at this;simp at this
    .obtain⟨i,hi⟩:=dw hf;have:=hc i (List.mem_range.2 (bC.1 hi).1);unfold ve at this;rw[hi] at this;simpa using this
theorem QP:∀ a:List UInt8,Op.bytesLess a a=false
 |[]=>rfl
 |x::a=>by
  have:=QP a;unfold Op.bytesLess;simp[this]
theorem O0:∀ {a b c:List UInt8},Op.bytesLess a b=true->Op.bytesLess b c=true->Op.bytesLess a c=true
 |[],[],_,h,_=>by simp[Op.bytesLess] at h
 |_::_,[],_,h,_=>by simp[Op.bytesLess] at h
 |_,_::_,[],_,h=>by simp[Op.bytesLess] at h
 |[],_::_,_::_,_,_=>by simp[Op.bytesLess]
 |x::a,y::b,z::c,h1,h2=>by
  simp only[Op.bytesLess,Bool.or_eq_true,bc,decide_eq_true_eq,beq_iff_eq] at h1 h2 ⊢;rcases h1 with h1|⟨rfl,h1⟩
  .rcases h2 with h2|⟨rfl,h2⟩
   .exact .inl (UInt8.lt_trans h1 h2)
   .exact .inl h1
  .rcases h2 with h2|⟨rfl,h2⟩
   .exact .inl h2
   .exact .inr ⟨rfl,O0 h1 h2⟩
section
variable{κ:Type}[DecidableEq κ]
theorem QQ{fs:List κ}{k:κ}:fz fs k=true↔k∈fs:=by unfold fz;rw[decide_eq_true_eq]
theorem abw{fs:List κ}{k:κ}:fz fs k=false↔k∉fs:=by unfold fz;rw[decide_eq_false_iff_not]
theorem Rx{fs:List κ}{k:κ}(h:fz fs k=true):jD fs k<fs.length:=List.idxOf_lt_length_of_mem (QQ.1 h)
end
abbrev kU(l:List ap):List ByteArray:=l.map (·.name)
theorem NX{l:List ap}{i:Nat}{f:ap}(h:l[i]? =some f):oR l i=f.name:=by unfold oR;rw[h]
theorem o6.less{l:List ap}(h:o6 l):∀ {i j:Nat},i<j->j<l.length->Op.bytesLess (oR l i).toList (oR l j).toList=true
 |i,0,mf,_=>absurd mf (Nat.not_lt_zero i)
 |i,j+1,mf,hj=>by
  have h1:=h.zw j hj;by_cases e:i=j
  .subst e;exact h1
  .exact O0 (h.less (show i<j by omega) oG) h1
theorem o6.nodup{l:List ap}(h:o6 l):(kU l).Nodup:=by
 rw[List.nodup_iff_pairwise_ne,List.pairwise_iff_getElem];intro i j hi hj M e;have J:i<l.length:=by simpa using hi
 have C:j<l.length:=by simpa using hj
 have h1:=h.less M C;rw[NX (a7 J),NX (a7 C)] at h1;simp only[List.getElem_map] at e;rw[e,QP] at h1;cases h1
theorem o6.fresh{l:List ap}(h:o6 l){k:Nat}{f:ap}(hf:l[k]? =some f):fz ((kU l).take k) f.name=false:=by
 rw[abw];intro hm;obtain⟨i,hi⟩:=dw hm;have C:i<k:=by have:=(bC.1 hi).1;simp at this;omega
 rw[List.getElem?_take,if_pos C] at hi;have hk:(kU l)[k]? =some f.name:=by simp[hf]
 have:=(List.getElem?_inj (bC.1 hi).1 h.nodup).1 (hi.trans hk.symm);omega
def pr(l:List ap)(s:ByteArray):Nat:=if fz (kU l) s then jD (kU l) s else 0
def aZ(l:List ap):List (List Nat):=l.map fun f=>(ej f.blocks).map (pr l)
def bB(l:List ap):List ByteArray:=l.map pF
def cX(l:List ap):List Nat:=aT (bB l)
@[simp] theorem QR (l : List ap) : (aZ l).length = l.length := by simp [aZ]
@[simp] theorem amg (l : List ap) : (cX l).length = l.length := by simp [cX, bB]
theorem o6.known{l:List ap}(h:o6 l){f:ap}(hf:f∈l){s:ByteArray}(hs:s∈ej f.blocks):fz (kU l) s=true:=by
 unfold ej at hs;obtain⟨b,hb,rfl⟩:=List.mem_map.1 hs;rw[List.mem_filter] at hb;have hc:=bQ.1 (h.calls f hf) b hb.1;have hk:=hb.2;unfold ja at hk;simp only[Bool.or_eq_true,decide_eq_true_eq] at hk
 have C:∃ g,findF l b.fin.name=some g:=by
  unfold iZ at hc;rcases hk with hk|hk
  .rw[if_pos hk] at hc;unfold xZ at hc;split at hc
   .cases hc
   .rename_i g hg;exact⟨g,hg⟩
  .rw[if_neg oG,if_pos hk] at hc;unfold yc at hc;split at hc
   .cases hc
   .rename_i g hg;exact⟨g,hg⟩
 obtain⟨g,hg⟩:=C;have h1:=List.mem_of_find?_eq_some hg;have h2:=List.find?_some hg
 have:g.name=b.fin.name:=by
  simp only[beq_iff_eq] at h2;rw[te,te] at h2;exact xE h2
 rw[QQ, <- this];exact List.mem_map_of_mem h1
theorem adN{l:List ap}{s:ByteArray}(h:fz (kU l) s=true):pr l s<l.length:=by
 unfold pr;rw[if_pos h];have:=Rx h;simpa using this
theorem E8{l:List ap}{i:Nat}{f:ap}(h:l[i]? =some f):(aZ l).getD i []=(ej f.blocks).map (pr l):=getD_some (by simp[aZ,h])
theorem o6.wg{l:List ap}(h:o6 l):uk (aZ l):=fun i t ht=>by
 cases hf:l[i]? with
 |none=>
  have:(aZ l)[i]? =none:=by simp[aZ,hf]
  rw[dC,this] at ht;cases ht
 |some f=>
  rw[E8 hf] at ht;obtain⟨s,hs,rfl⟩:=List.mem_map.1 ht;rw[QR];exact adN (h.known (bu hf) hs)
theorem o6.GU{l:List ap}(h:o6 l):KX (cX l) (aZ l):=fun a b ha hb e=>by
 rw[QR] at ha hb;obtain⟨f,hf⟩:∃ f,l[a]? =some f:=⟨_,a7 ha⟩
 obtain⟨g,hg⟩:∃ g,l[b]? =some g:=⟨_,a7 hb⟩
 rw[E8 hf,E8 hg,List.length_map,List.length_map];have h1:(bB l)[a]? =some (pF f):=by simp[bB,hf]
 have h2:(bB l)[b]? =some (pF g):=by simp[bB,hg]
 refine Oh (h.sW f (bu hf)) (h.sW g (bu hg)) ((B' h1 h2).1 ?_);have e1:(cX l)[a]? =some ((cX l).getD a 0):=dZ (by simpa using ha);have e2:(cX l)[b]? =some ((cX l).getD b 0):=dZ (by simpa using hb);unfold cX at e1 e2 e;rw[e1,e2,e]
def qX(l:List ap):List D:=if(dc l).2=0 then cR l (bB l) ((aZ l).map al) else [.z,.z,.z]
theorem Qq(l:List ap):∀ a∈qX l,Tr a:=by
 unfold qX;split
 .exact E6 _ _ _
 .exact .cons .z (.cons .z (.cons .z .nil))
theorem zT{l:List ap}(h:(dc l).2=0):qX l=cR l (bB l) ((aZ l).map al):=if_pos h
theorem B3{l:List ap}(h:(dc l).2≠0):qX l=[.z,.z,.z]:=if_neg h
theorem aaO{s:ByteArray}{fs:List ByteArray}{k:Nat}(hk:fs.length=k)(h:fz fs s=false):fX (.string s) (I (k:Nat)) (eU fs)=eU (fs++[s]):=by
 subst hk;exact Rw h
structure OB(m:Mem)(q nx:Nat)(l:List ap)(x1 x2:D)(sh:List ByteArray)(ca:List (List Int)):Prop where
 r0:m 0=some (.cells [.z,.z,.z] 82)
 rq:m q=some (.cells [bj l,x1,x2] 82)
 lt:0<q/\q<nx
 gr:(sh=[]/\ca=[]/\x1=.z/\x2=.z)\/∃ r1 r2,r1≠r2/\q<r1/\r1<nx/\q<r2/\r2<nx/\x1=.rs r1 0 sh.length/\x2=.rs r2 0 ca.length/\m r1=some (.cells (sh.map S) 9)/\m r2=some (.cells (ca.map aP) 43)
theorem OB.mono{m m':Mem}{q nx C:Nat}{l:List ap}{x1 x2:D}{sh:List ByteArray}{ca:List (List Int)}(h:OB m q nx l x1 x2 sh ca)(hm:∀ j,j<nx->m' j=m j)(hn:nx<=C):OB m' q C l x1 x2 sh ca:=by
 refine⟨by rw[hm 0 (by have:=h.lt;omega)];exact h.r0,by rw[hm q h.lt.2];exact h.rq,by have:=h.lt;omega,?_⟩;rcases h.gr with g|⟨r1,r2,J,M,U,X,g5,g6,g7,g8,g9⟩
 .exact .inl g
 .exact .inr ⟨r1,r2,J,M,oG,X,oG,g6,g7,by rw[hm r1 U,g8],by rw[hm r2 g5,g9]⟩
theorem aca{X:Nat->Prop}(l:List ByteArray):∀ d∈l.map S,fI X d:=fun d hd=>by
 obtain⟨s,_,rfl⟩:=List.mem_map.1 hd;exact .s _
theorem OL{X:Nat->Prop}(l:List (List Int)):∀ d∈l.map aP,fI X d:=fun d hd=>by
 obtain⟨s,_,rfl⟩:=List.mem_map.1 hd;exact .sl _ _
theorem OB.nR{m:Mem}{q nx X i sz:Nat}{l:List ap}{x1 x2:D}{sh:List ByteArray}{ca:List (List Int)}{cs:List D}(h:OB m q nx l x1 x2 sh ca)(hi:nx<=i)(hn:nx<=X):OB (c8 i cs sz m) q X l x1 x2 sh ca:=by
 have hz:∀ d∈[D.z,.z,.z],fI (fun k=>k=i) d:=fun d hd=>by
  simp only[List.mem_cons,List.not_mem_nil,or_false,or_self] at hd;subst hd;exact .z
 refine⟨gQ h.r0 (by have:=h.lt;omega) (.cells hz),?_,by have:=h.lt;omega,?_⟩
 .refine gQ h.rq (by have:=h.lt;omega) (.cells fun d hd=>?_);simp only[List.mem_cons,List.not_mem_nil,or_false] at hd;rcases h.gr with⟨_,_,C,J⟩|⟨r1,r2,C,J,g3,g4,g5,M,U,g8,g9⟩
  .subst C J;rcases hd with rfl|rfl|rfl
   .exact .sl _ _
   .exact .z
   .exact .z
  .subst M U;rcases hd with rfl|rfl|rfl
   .exact .sl _ _
   .exact .rs oG
   .exact .rs oG
 .rcases h.gr with g|⟨r1,r2,C,J,g3,g4,g5,M,U,g8,g9⟩
  .exact .inl g
  .exact .inr ⟨r1,r2,C,J,oG,g4,oG,M,U,gQ g8 oG (.cells (aca _)),gQ g9 oG (.cells (OL _))⟩
end Go.Argus
namespace Go.Proofs.Tryz.K
theorem M7{f:ap}(h:fi f=0):aB prog 67 [.agg (aX f)] (S (pF f)):=by
 have hb:=vf (Go.Argus.checked h)
 have zi:aB prog 57 [.agg (aX f),S kM,.fn (.func 112) [] []] (.agg (aX (yd f))):=zi (to:=fun _=>kM) (.fn oS oS) (fun X i cs sz _=>rfl) (fun b _ _=>aia) (by have:=hb.aU;omega) (by have:=hb.cg;omega) (by have:=hb.sigs;omega) (by have:=hb.kN;omega) fun b C=>by
  have h1:=hb.bG b C;have h2:=h1.len;have J:=h1.fin.len;have M:=h1.fin.aR;have U:=h1.fin.ins.len;exact⟨oG,fun x hx=>by have:=(h1.ins x hx).len;omega,oG,oG,oG⟩
 have Hh:=Hh (f:=yd f) fun _=>adm (Jr h);rw[OM h,if_pos rfl] at Hh;refine bl ail (.cons (.agg (na f)) .nil) (Tr.s _) ?_;rw[aim];refine az ?_;refine ab ?_;refine aa (bJ (dD [(0,aX f,48)] eH (l:=[(1,.pt (aX f))]) eH) (aj ?_));refine SS ?_;refine cl zi ?_;refine cl Hh ?_;refine SS ?_;refine aw (pw (v:=.s (.string _)) rfl rfl) ak (by first|decide|simp) ?_;refine ax ?_;refine er ?_;refine ab ?_;exact aa (aI rfl rfl)
theorem aaP(s:ByteArray)(fs:List ByteArray):fy prog 144 false (cM (.string s) (eU fs))=I (if fz fs s then(jD fs s:Nat) else 0:Nat):=by
 rw[Jq];cases fz fs s with
 |true=>rfl
 |false=>
  show lQ prog (lb prog 144)=_;rw[Tf];rfl
theorem gM{l:List ap}(hl:l.length<=1000):aB prog 43 [bj l] (.aL [.agg (qX l),I (dc l).2]):=by
 have HN:=HN (l:=l) (fun h f hf=>acb oG h hf) oG;refine bl ain (.cons (js l) .nil) (.aL (.cons (.agg (Qq l)) (.cons (.s _) .nil))) ?_;rw[aio];refine ws ?_;refine ab ?_;refine aa (aF (aj ?_));refine SS ?_;refine cl HN ?_;refine bx ?_;refine aa (aF (aj ?_));refine ab ?_;have AZ:=tN (l:=l);have sM:=zT (l:=l);have yw:=B3 (l:=l);generalize (dc l).2=err at*
 generalize qX l=oD at*
 refine aa (cQ rfl (fun h=>aF (aj ?_)) fun h=>cx (aj ?_))
 .have h:err≠0:=by simpa using h
  rw[yw h];refine ba ?_;exact aa (eQ (mX (gN rfl rfl sV mU rfl t82 (bd 3)) rfl rfl))
 have h:err=0:=by simpa using h
 subst h;have hL:=AZ rfl;rw[sM rfl];clear sM yw AZ HN;refine ab ?_;refine aa (aF (az ?_));refine ax ?_
 refine aa (cn (fun s=>∃ nx,0<nx/\aJ prog s ⟨ay [(0,bj l),(2,.rp 0 0),(6,.im (eU (kU l)))],br [(0,.cells [.z,.z,.z] 82)],nx⟩) (cy (α:=Nat×Nat)
  (fun s=>⟨ay [(0,bj l),(2,.rp 0 0),(6,.mp 1),(25,bj l),(26,I l.length),(27,I s.1)],br [(0,.cells [.z,.z,.z] 82),(1,.map (eU ((kU l).take s.1)))],s.2⟩)
  (fun s=>s.1<=l.length/\1<s.2) (fun s=>l.length - s.1) (0,_) (bZ eH eH) ⟨Nat.zero_le _,oM⟩ ?_) ?_)
 .rintro⟨k,nx⟩ ⟨hk,cv⟩;dsimp only at hk cv ⊢;refine SS ?_;refine aa ⟨_,rfl,fun h=>?_,fun h=>?_⟩
  .have af:k<l.length:=by simpa using h
   clear h;obtain⟨f,hf⟩:∃ f,l[k]? =some f:=⟨_,a7 af⟩
   have MG:=hL.fresh hf;have fm:(kU l).take (k+1)=(kU l).take k++[f.name]:=by rw[List.take_add_one,List.getElem?_map,hf];rfl
   have rC:((kU l).take k).length=k:=by simp;omega
   generalize (kU l).take k=fs at*
   refine ws ?_;refine cw ?_;refine aa (fF ?_);have ao:∀ {a b},up (up (br [(0,.cells [.z,.z,.z] 82),(1,.map (eU fs))]) nx a) nx b nx=b:=ah _ _ _;have aeZ:∀ {a b},up (up (br [(0,.cells [.z,.z,.z] 82),(1,.map (eU fs))]) nx a) nx b 1=some (.map (eU fs)):=ag oG (ag oG rfl);have kd:(aX f).drop (0+0)=S f.name::(aX f).drop 1:=rfl;refine ba ?_;refine bN (xA (key:=.string f.name) (v:=I (k:Nat)) rfl aeZ rfl rfl Dc) aM ⟨Dd,vK _,GS fs⟩ ?_;rw[aaO rC MG];refine aa ?_;refine ab ?_;refine aa (bi (k+1,nx+1) ?_ ⟨oM,oM⟩ oM);dsimp only;rw[fm];exact bZ eH ⟨ag oG (ag oG (ag oG rfl)),ah _ _ _,trivial⟩
  .have bq:¬ k<l.length:=by simpa using h
   have:k=l.length:=by omega
   subst this;rw[dt oS];exact⟨nx,oG,(aJ.Ch _ _ _ 1 (eU (kU l)) rfl).trans (bZ eH eH)⟩
 .rintro s ⟨q,M8,U⟩;refine⟨_,U,aj ?_⟩;clear U;refine ba ?_;refine aa (aF (az ?_));refine ax ?_;have mQ:(bB l).length=l.length:=by simp[bB]
  have di:((aZ l).map al).length=l.length:=by simp
  refine aa (cn (fun s=>∃ x1 x2 m nx,OB m q nx l x1 x2 (bB l) ((aZ l).map al)/\aJ prog s ⟨ay [(2,.rp 0 0),(9,.rp q 0)],m,nx⟩) (cy (α:=Nat×D×D×Mem×Nat)
   (fun s=>⟨ay [(2,.rp 0 0),(6,.im (eU (kU l))),(9,.rp q 0),(39,bj l),(40,I l.length),(41,I s.1)],s.2.2.2.1,s.2.2.2.2⟩)
   (fun s=>s.1<=l.length/\OB s.2.2.2.1 q s.2.2.2.2 l s.2.1 s.2.2.1 ((bB l).take s.1) (((aZ l).map al).take s.1)) (fun s=>l.length - s.1) (0,.z,.z,_,_)
   (au eH) ⟨Nat.zero_le _,⟨ag oG (ag oG rfl),ah _ _ _,⟨M8,oM⟩,.inl ⟨rfl,rfl,rfl,rfl⟩⟩⟩ ?_) ?_)
  .rintro⟨k,x1,x2,m,nx⟩ ⟨hk,J⟩;dsimp only at hk J ⊢;refine SS ?_;refine aa ⟨_,rfl,fun h=>?_,fun h=>?_⟩
   .have af:k<l.length:=by simpa using h
    clear h;obtain⟨f,hf⟩:∃ f,l[k]? =some f:=⟨_,a7 af⟩
    have uF:=bu hf;have j3:=hL.sW f uF;have HR:=vf (Go.Argus.checked j3);have MW:=MW (f:=f) (by have:=HR.kN;omega);have M7:=M7 j3;have Bm:(ej f.blocks).length<=100000:=by have:=zA f.blocks;have:=HR.kN;omega
    have iL:(bB l).take (k+1)=(bB l).take k++[pF f]:=by
     have:(bB l)[k]? =some (pF f):=by simp[bB,hf]
     rw[List.take_add_one,this];rfl
    have HS:((aZ l).map al).take (k+1)=((aZ l).map al).take k++[al ((ej f.blocks).map (pr l))]:=by
     have:((aZ l).map al)[k]? =some (al ((ej f.blocks).map (pr l))):=by simp[aZ,hf]
     rw[List.take_add_one,this];rfl
    have hls:((bB l).take k).length=k:=by rw[List.length_take];omega
    have Vk:(((aZ l).map al).take k).length=k:=by rw[List.length_take];omega
    generalize (bB l).take k=sh at*
    generalize ((aZ l).map al).take k=ca at*
    generalize ej f.blocks=cs at*
    generalize pF f=eP at*
    have amu:=J.lt;refine ws ?_;refine ba ?_;refine aa (az ?_);refine SS ?_;refine aa ⟨_,.r4 _ _ _ 12 3 rfl,aF (az ?_)⟩;have ao:∀ {a b c},up (up (up m nx a) nx b) (nx+1) c nx=b:=ag oG (ah _ _ _);refine SS ?_;refine cl MW ?_;refine ab ?_
    refine aa (cn (fun s=>∃ m' C,OB m' q nx l x1 x2 sh ca/\m' nx=some (.cells (aX f) 48)/\nx+1<=C/\aJ prog s ⟨ay [(2,.rp 0 0),(6,.im (eU (kU l))),(9,.rp q 0),(11,.rp nx 0),(12,aP (al (cs.map (pr l)))),(39,bj l),(40,I l.length),(41,I k)],m',C⟩) (cy (α:=Nat×Nat×Mem×Nat)
     (fun s=>⟨ay [(2,.rp 0 0),(6,.im (eU (kU l))),(9,.rp q 0),(11,.rp nx 0),(12,.rs s.2.1 0 s.1),(39,bj l),(40,I l.length),(41,I k),(46,bU cs),(47,I cs.length),(48,I s.1)],s.2.2.1,s.2.2.2⟩)
     (fun s=>s.1<=cs.length/\OB s.2.2.1 q nx l x1 x2 sh ca/\s.2.2.1 nx=some (.cells (aX f) 48)/\nx<s.2.1/\s.2.1<s.2.2.2/\s.2.2.1 s.2.1=some (.cells ((al ((cs.take s.1).map (pr l))).map I) 3)) (fun s=>cs.length - s.1) (0,nx+1,_,_)
     (au eH) ⟨Nat.zero_le _,J.mono (fun j hj=>(aA _ _ oG).trans ((aA _ _ oG).trans (aA _ _ oG))) (bd _),ao,oM,oM,ah _ _ _⟩ ?_) ?_)
    .rintro⟨j,r,m',C⟩ ⟨hj,M,y9,uO,wL,kG⟩;dsimp only at hj M y9 uO wL kG ⊢;refine SS ?_;refine aa ⟨_,rfl,fun h=>?_,fun h=>?_⟩
     .have dj:j<cs.length:=by simpa using h
      clear h;obtain⟨y,hy⟩:∃ y,cs[j]? =some y:=⟨_,a7 dj⟩
      have Vl:al ((cs.take (j+1)).map (pr l))=al ((cs.take j).map (pr l))++[((pr l y:Nat):Int)]:=by rw[List.take_add_one,hy];simp[al]
      have M1:(al ((cs.take j).map (pr l))).length=j:=by simp;omega
      generalize al ((cs.take j).map (pr l))=out at*
      have ao:=kG;have mR:(out.map I).length=j:=by simpa using M1
      refine ws ?_;refine ax ?_;refine aa (fF ?_);refine ax ?_;refine aw (zG rfl rfl Dc (aaP y (kU l))) aM ⟨Dd,vK y,GS _⟩ ?_;refine ax ?_;refine aa ?_;refine ab ?_;refine aa (bi (j+1,C+1,_,C+1+1) (au eH) ?_ oM);dsimp only;refine⟨oG,M.mono (fun i hi=>(aA _ _ oG).trans ((aA _ _ oG).trans (aA _ _ oG))) (bd _),(aA _ _ oG).trans ((aA _ _ oG).trans ((aA _ _ oG).trans (y9))),oG,oG,(ah _ _ _).trans ?_⟩;rw[Vl];simp;rfl
     .have bq:¬ j<cs.length:=by simpa using h
      have:j=cs.length:=by omega
      subst this;rw[List.take_length] at kG;refine⟨c8 r _ (prog.cellsOf 3) m',C,M.nR oG (bd _),gQ y9 oG (.cells fun d hd=>?_),oG,lz kG ⟨gk oG,rfl,gk oG,gk oG,?_,rfl,rfl,rfl,trivial⟩⟩
      .rw[<- List.append_nil (aX f)] at hd;simp only[aX,List.append_nil,List.mem_cons,List.not_mem_nil,or_false] at hd;rcases hd with rfl|rfl|rfl|rfl|rfl|rfl|rfl|rfl<;>first|exact .s _|exact .sl _ _
      .show sub (cF r _ (prog.cellsOf 3)) (.rs r 0 cs.length)=_;rw[AF,c3,List.drop_zero,dt oS];simp
    .rintro s ⟨m',C,M,y9,Hx,U⟩;refine⟨_,U,?_⟩;clear U;refine Co Zg ?_;have ao:=M.rq;have kd:[bj l,x1,x2].drop (0+1)=x1::[x2]:=rfl;have Vm:[bj l,x1,x2].drop (0+2)=x2::[]:=rfl;refine ab ?_;have ao:=y9;refine SS ?_;refine cl M7 ?_;refine SS ?_;rcases M.gr with⟨h1,h2,rfl,rfl⟩|⟨r1,r2,g1,g2,g3,g4,g5,rfl,rfl,g8,g9⟩
     .refine eI (Ae rfl rfl V.h V.h (kO (ah _ _ _) rfl)) ak ⟨V.h,(by first|omega|exact bF rfl|(simp;done)|(simp;omega)),oC,(by unfold maxLen;first|omega|(simp;omega)),(by rw[b9];first|omega|(simp;omega))⟩ ?_;have ao:∀ {a b},up (up m' C a) (C+1) b q=some (.cells [bj l,.z,.z] 82):=ag oG (ag oG M.rq);have kd:=Vm;refine ba ?_;refine eI (Ae rfl rfl V.h V.h (kO (ah _ _ _) rfl)) ak ⟨V.h,(by first|omega|exact bF rfl|(simp;done)|(simp;omega)),oC,(by unfold maxLen;first|omega|(simp;omega)),(by rw[Ea];first|omega|(simp;omega))⟩ ?_;have ao:∀ {a b c d},up (up (up (up m' C a) (C+1) b) (C+1+1) c) (C+1+1+1) d q=some (.cells [bj l,.z,.z] 82):=ag oG (ag oG (ag oG (ag oG M.rq)));refine ab ?_;have ao:∀ {a b c d e},up (up (up (up (up m' C a) (C+1) b) (C+1+1) c) (C+1+1+1) d) q e q=e:=ah _ _ _;refine ab ?_;refine cz (by simp[pC];omega) ?_;refine ab ?_;refine aa (bi (k+1,.rs (C+1) 0 1,.rs (C+1+1+1) 0 1,_,C+1+1+1+1) (au eH) ?_ oM);dsimp only;subst h1 h2;have sQ:k=0:=by simpa using hls.symm
      subst sQ;refine⟨oG,(aA _ _ oG).trans ((aA _ _ oG).trans ((aA _ _ oG).trans ((aA _ _ oG).trans ((aA _ _ oG).trans ((aA _ _ oG).trans (M.r0)))))),ah _ _ _,⟨M8,oG⟩,.inr ⟨C+1,C+1+1+1,oG,oG,oG,oG,oG,?_,?_,(aA _ _ oG).trans ((aA _ _ oG).trans ((aA _ _ oG).trans ((aA _ _ oG).trans ((ah _ _ _).trans ?_)))),(aA _ _ oG).trans ((aA _ _ oG).trans ((ah _ _ _).trans ?_))⟩⟩
      .rw[iL];rfl
      .rw[HS];rfl
      .rw[iL];rfl
      .rw[HS];rfl
     .have ku:∀ {a},up m' C a r1=some (.cells (sh.map S) 9):=ag oG g8;refine ji (iX rfl ku rfl rE c9 (kO (ah _ _ _) rfl) rfl) aM ⟨uh,rfl,bF rfl,oC,oS,by unfold maxLen;omega,by rw[b9];omega,by simp;omega⟩ ?_;have ao:∀ {a b c},up (up (up m' C a) r1 b) (C+1) c q=some (.cells [bj l,.rs r1 0 sh.length,.rs r2 0 ca.length] 82):=ag oG (ag oG (ag oG M.rq));have kd:=Vm;refine ba ?_;have gR:∀ {a b c d},up (up (up (up m' C a) r1 b) (C+1) c) (C+1+1) d r2=some (.cells (ca.map aP) 43):=ag oG (ag oG (ag oG (ag oG g9)));refine ji (iX rfl gR rfl Vn sX (kO (ah _ _ _) rfl) rfl) aM ⟨Uc,rfl,bF rfl,oC,oS,by unfold maxLen;omega,by rw[Ea];omega,by simp;omega⟩ ?_;have ao:∀ {a b c d e f'},up (up (up (up (up (up m' C a) r1 b) (C+1) c) (C+1+1) d) r2 e) (C+1+1+1) f' q=some (.cells [bj l,.rs r1 0 sh.length,.rs r2 0 ca.length] 82):=ag oG (ag oG (ag oG (ag oG (ag oG (ag oG M.rq)))));refine ab ?_;have ao:∀ {a b c d e f' g},up (up (up (up (up (up (up m' C a) r1 b) (C+1) c) (C+1+1) d) r2 e) (C+1+1+1) f') q g q=g:=ah _ _ _;refine ab ?_;refine cz (by simp[pC];omega) ?_;refine ab ?_;refine aa (bi (k+1,.rs (C+1) 0 (sh.length+1),.rs (C+1+1+1) 0 (ca.length+1),_,C+1+1+1+1) (au eH) ?_ oM);dsimp only;refine⟨oG,(aA _ _ oG).trans ((aA _ _ oG).trans ((aA _ _ oG).trans ((aA _ _ oG).trans ((aA _ _ oG).trans ((aA _ _ oG).trans ((aA _ _ oG).trans ((aA _ _ oG).trans (M.r0)))))))),ah _ _ _,⟨M8,oG⟩,.inr ⟨C+1,C+1+1+1,oG,oG,oG,oG,oG,?_,?_,(aA _ _ oG).trans ((aA _ _ oG).trans ((aA _ _ oG).trans ((aA _ _ oG).trans ((aA _ _ oG).trans ((ah _ _ _).trans ?_))))),(aA _ _ oG).trans ((aA _ _ oG).trans ((ah _ _ _).trans ?_))⟩⟩
      .rw[iL,List.length_append];rfl
      .rw[HS,List.length_append];rfl
      .rw[iL,List.map_append];simp;rfl
      .rw[HS,List.map_append];rfl
   .have bq:¬ k<l.length:=by simpa using h
    have:k=l.length:=by omega
    subst this;rw[dt oG,dt oG] at J;exact⟨x1,x2,m,nx,J,au eH⟩
  .rintro s ⟨x1,x2,m,nx,J,U⟩;have af:=J.lt
   have nN:∃ m2 gK,aJ prog s ⟨ay [(2,.rp 0 0),(9,.rp q 0)],m2,gK⟩/\m2 0=some (.cells [.z,.z,.z] 82)/\m2 q=some (.cells (cR l (bB l) ((aZ l).map al)) 82):=by
    rcases J.gr with⟨h1,h2,rfl,rfl⟩|⟨r1,r2,g1,g2,g3,g4,g5,rfl,rfl,g8,g9⟩
    .rw[h1,h2];refine⟨up m q (some (.cells (cR l [] []) 82)),nx,U.trans (aJ.nw _ _ _ _ _ (fun t=>tB _) fun i=>?_),(aA _ _ oG).trans J.r0,ah _ _ _⟩;by_cases hi:i=q
     .subst hi;refine .inr ⟨_,cR l [] [],82,J.rq,ah _ _ _,rfl,fun k d d' hd fa=>?_⟩
      match k with
      |0=>cases (show some d=some d' from hd.symm.trans fa);exact tB _
      |1|2=>
       simp only[cR,List.getElem?_cons_succ,List.getElem?_cons_zero,aH] at hd fa;subst hd fa;exact AY
      |k+3=>simp at hd
     .exact .inl (aA _ _ hi)
    .have hz:∀ X,∀ d∈[D.z,.z,.z],fI X d:=fun X d hd=>by
      simp only[List.mem_cons,List.not_mem_nil,or_false,or_self] at hd;subst hd;exact .z
     have e1:c8 r1 ((bB l).map S) (prog.cellsOf 9) m r2=some (.cells (((aZ l).map al).map aP) 43):=gQ g9 oG (.cells (OL _))
     have e2:c8 r1 ((bB l).map S) (prog.cellsOf 9) m q=some (.cells [bj l,bU (bB l),.rs r2 0 ((aZ l).map al).length] 82):=by
      unfold c8;rw[if_neg oG,J.rq];show some (Row.cells [bj l,sub (cF r1 ((bB l).map S) (prog.cellsOf 9)) (.rs r1 0 (bB l).length),sub (cF r1 ((bB l).map S) (prog.cellsOf 9)) (.rs r2 0 ((aZ l).map al).length)] 82)=_;rw[AF,zR oG,c9,List.drop_zero,dt oS]
     refine⟨c8 r2 _ (prog.cellsOf 43) (c8 r1 _ (prog.cellsOf 9) m),nx,U.trans ((lz (l:=[(2,.rp 0 0),(9,.rp q 0)]) g8 ⟨gk oG,gk oG,trivial⟩).trans (lz e1 ⟨gk oG,gk oG,trivial⟩)),gQ (gQ J.r0 oG (.cells (hz _))) oG (.cells (hz _)),?_⟩;generalize c8 r1 ((bB l).map S) (prog.cellsOf 9) m=m1 at*
     unfold c8;rw[if_neg oG,e2];show some (Row.cells [bj l,bU (bB l),sub (cF r2 (((aZ l).map al).map aP) (prog.cellsOf 43)) (.rs r2 0 ((aZ l).map al).length)] 82)=_;rw[AF,sX,List.drop_zero,dt oS];rfl
   obtain⟨m2,gK,D',q1,q2⟩:=nN;refine⟨_,D',aj ?_⟩;clear D' U;have ao:=q2;refine aw (fg rfl ao V.h V.h rfl) ak (fh V.h V.h (by first|(simp;done)|omega|exact bF rfl)) ?_;have ao:=q1;refine bN (fq rfl rfl ao rfl) ak (bX V.h V.h (by first|(simp;done)|exact⟨rfl,bF rfl⟩|(simp;omega)) (by rfl)) ?_;refine SS ?_;exact aa (mX (gN (cs:=cR l (bB l) ((aZ l).map al)) (vs:=cR l (bB l) ((aZ l).map al)) rfl rfl sV mU rfl t82 (bd 3)) rfl rfl)
end Go.Proofs.Tryz.K
namespace Go.Abs
section
variable{P:Program}{Y:eg}{rf:Bool}{Q:Exit->St->Prop}{st:St}{id fU:Nat}{body:Code}{α:Type}
theorem Zh[dy Y](S:α->St)(J:α->Prop)(μ:α->Nat)(C:α)(hg:aJ P st (S C))(M:J C)(h:∀ x,J x->AW P Y rf body (k6 fU id (xU P S J μ x) Q) (S x)):
 ∃ st',aJ P st st'/\AW P Y rf (.block id (.loop (.block fU body))) Q st':=
 Cm (Q:=fv id Q) S J μ C hg M (fun x hx=>P' (h x hx)) (a:=.skip) fun _ h=>h
theorem xj{k i:Nat}{r:Row}{l:List (Nat×Row)}(h:i≠k):br ((k,r)::l) i=br l i:=if_neg h
theorem zY{k:Nat}{r:Row}{l:List (Nat×Row)}:br ((k,r)::l) k=some r:=if_pos rfl
theorem WE{l:Nat}(h:∃ st',aJ P st st'/\AW P Y rf body Q st'):AW P Y rf (.seq (.label l) body) Q st:=h
end
end Go.Abs
namespace Go.Argus
section
variable{κ ι:Type}[DecidableEq κ][DecidableEq ι]
theorem aaQ{g:κ->ι}:∀ {fs:List κ} {k:κ},(∀ a∈fs,g a=g k->a=k)->fz (fs.map g) (g k)=fz fs k
 |[],k,_=>rfl
 |a::fs,k,h=>by
  rw[List.map_cons,IW,IW,aaQ fun b hb=>h b (List.mem_cons_of_mem _ hb)];congr 1;exact decide_eq_decide.2 ⟨h a oS,fun e=>by rw[e]⟩
theorem Qr{g:κ->ι}:∀ {fs:List κ} {k:κ},(∀ a∈fs,g a=g k->a=k)->jD (fs.map g) (g k)=jD fs k
 |[],k,_=>rfl
 |a::fs,k,h=>by
  rw[List.map_cons,IX,IX,Qr fun b hb=>h b (List.mem_cons_of_mem _ hb)];by_cases e:a=k
  .rw[if_pos e,if_pos (by rw[e])]
  .rw[if_neg e,if_neg fun C=>e (h a oS C)]
theorem Qs{g:κ->ι}{ks:List κ}(h:∀ a∈ks,∀ b∈ks,g a=g b->a=b):aV (ks.map g)=(aV ks).map g:=by
 have key:∀ (ks acc:List κ),(∀ a∈acc++ks,∀ b∈acc++ks,g a=g b->a=b)->lE (acc.map g) (ks.map g)=(lE acc ks).map g:=fun ks=>by
  induction ks with
  |nil=>intro acc _;rfl
  |cons k ks ih=>
   intro acc h;simp only[List.map_cons,lE]
   have e:g k∈acc.map g↔k∈acc:=by
    constructor
    .intro hm;obtain⟨a,ha,e⟩:=List.mem_map.1 hm;rw[<- h a (by simp[ha]) k oS e];exact ha
    .exact fun hm=>List.mem_map_of_mem hm
   by_cases hk:k∈acc
   .rw[if_pos hk,if_pos (e.2 hk)];exact ih acc fun a ha b hb=>h a (by simp at ha ⊢;rcases ha with ha|ha<;>simp[ha]) b (by simp at hb ⊢;rcases hb with hb|hb<;>simp[hb])
   .rw[if_neg hk,if_neg fun hm=>hk (e.1 hm)];have:=ih (acc++[k]) fun a ha b hb=>h a (by simpa using ha) b (by simpa using hb)
    rwa[List.map_append] at this
 exact key ks [] (by simpa using h)
theorem aaR{g:κ->ι}{ks:List κ}(h:∀ a∈ks,∀ b∈ks,g a=g b->a=b):aT (ks.map g)=aT ks:=by
 have e1:∀ (l:List κ),aT l=l.map (jD (aV l)):=fun l=>rfl;have e2:∀ (l:List ι),aT l=l.map (jD (aV l)):=fun l=>rfl;rw[e1,e2,Qs h,List.map_map];exact List.map_congr_left fun k hk=>Qr fun a ha=>h a (lD.1 ha) k hk
end
theorem aaS:∀ {a b:List Nat},(∀ n∈a,n<90)->(∀ n∈b,n<90)->gY (al a)=gY (al b)->a=b:=fun {a b} ha hb h=>by
 have h1:bW (gY (al a))=bW (gY (al b)):=congrArg bW h
 have e:∀ l:List Nat,bW (gY (al l))=l.map fun n=>UInt8.ofNat (n+33):=fun l=>by
  simp only[gY,mkStr,al,List.map_map,bW];refine List.map_congr_left fun n _=>?_;show UInt8.ofNat ((n:Int)+33).toNat=_;congr 1
 rw[e,e] at h1;clear e h
 induction a generalizing b with
 |nil=>cases b with
  |nil=>rfl
  |cons y b=>simp at h1
 |cons x a ih=>cases b with
  |nil=>simp at h1
  |cons y b=>
   simp only[List.map_cons,List.cons.injEq] at h1;have hx:=ha x oS;have hy:=hb y oS;have:=congrArg UInt8.toNat h1.1;rw[UInt8.toNat_ofNat_of_lt' (by simp[UInt8.size];omega),UInt8.toNat_ofNat_of_lt' (by simp[UInt8.size];omega)] at this;rw[ih (fun n hn=>ha n (List.mem_cons_of_mem _ hn)) (fun n hn=>hb n (List.mem_cons_of_mem _ hn)) h1.2,show x=y by omega]
def ns(ca:List (List Nat))(clq:List Nat):List ByteArray:=(eS ca clq).map fun k=>gY (al k)
theorem IY{ca:List (List Nat)}{clq:List Nat}(h:∀ c∈clq,c<90):∀ k∈eS ca clq,∀ n∈k,n<90:=fun k hk n hn=>by
 have hd:∀ i,clq.getD i 0<90:=fun i=>by
  rw[dC];cases he:clq[i]? with
  |none=>decide
  |some c=>exact h c (bu he)
 obtain⟨i,_,rfl⟩:=List.mem_map.1 hk;rcases List.mem_cons.1 hn with rfl|hn
 .exact hd i
 .obtain⟨t,_,rfl⟩:=List.mem_map.1 hn;exact hd t
theorem Zi{ca:List (List Nat)}{clq:List Nat}(h:∀ c∈clq,c<90):aT (ns ca clq)=aT (eS ca clq)/\(aV (ns ca clq)).length=(aV (eS ca clq)).length:=by
 have hi:∀ a∈eS ca clq,∀ b∈eS ca clq,gY (al a)=gY (al b)->a=b:=fun a ha b hb e=>aaS (IY h a ha) (IY h b hb) e;refine⟨aaR hi,?_⟩;unfold ns;rw[Qs hi,List.length_map]
theorem ON{κ:Type}[DecidableEq κ]{ks:List κ}{n:Nat}(h:ks.length<=n):∀ c∈aT ks,c<n:=fun c hc=>by
 obtain⟨i,hi⟩:=dw hc;have h1:=Cq hi;have h2:=tA ks;omega
def fP(l:List ap)(sh:List ByteArray)(ca:List (List Int))(clq:List Int):List D:=[bj l,bU sh,bM ca,aP clq]
@[simp] theorem al2 (l : List ap) (sh : List ByteArray) (ca : List (List Int)) (clq : List Int) : (fP l sh ca clq).length = 4 := rfl
theorem EC(l:List ap)(sh:List ByteArray)(ca:List (List Int))(clq:List Int):∀ a∈fP l sh ca clq,Tr a:=.cons (js l) (.cons (iV sh) (.cons (nX ca) (.cons (dn clq) .nil)))
def k8(clq:List Nat)(i k:Nat):List Nat:=(range i).filter fun j=>clq.getD j 0==k
theorem X2(clq:List Nat)(i k:Nat):k8 clq (i+1) k=k8 clq i k++if clq.getD i 0==k then [i] else []:=by
 unfold k8;rw[List.range_succ,List.filter_append];congr 1;simp only[List.filter_cons,List.filter_nil]
theorem aaT{clq:List Nat}{i n:Nat}(h:clq.getD i 0=n):(fun k=>(al (k8 clq (i+1) k)).map I)=up (fun k=>(al (k8 clq i k)).map I) n ((al (k8 clq i n)++[(i:Int)]).map I):=by
 funext k;rw[X2,B5,h];by_cases e:k=n
 .subst e;rw[if_pos rfl,if_pos oS];simp[al]
 .rw[if_neg e,if_neg (by simpa using fun C=>e C.symm)];simp
theorem Zj(clq:List Nat)(i k:Nat):(k8 clq i k).length<=i:=by
 unfold k8;have:=List.length_filter_le (fun j=>clq.getD j 0==k) (range i);simpa using this
theorem adn(clq:List Nat)(m:Nat):eu clq m=(range m).map fun k=>al (k8 clq clq.length k):=by
 unfold eu B4 k8;rw[List.map_map];rfl
section
variable{κ:Type}[DecidableEq κ]
def jn(ks:List κ)(i:Nat):Nat:=(aV (ks.take i)).length
theorem aaU{ks:List κ}{i:Nat}(hi:i<ks.length):(aT ks).getD i 0<=jn ks i/\jn ks (i+1)=if(aT ks).getD i 0=jn ks i then jn ks i+1 else jn ks i:=by
 obtain⟨s,hs⟩:∃ s,ks[i]? =some s:=⟨_,a7 hi⟩
 obtain⟨h1,h2⟩:=Qo hs
 have C:(aT ks)[i]? =some (if fz (aV (ks.take i)) s then jD (aV (ks.take i)) s else(aV (ks.take i)).length):=by
  have:((aT ks).take (i+1))[i]? =((aT ks).take i++[if fz (aV (ks.take i)) s then jD (aV (ks.take i)) s else(aV (ks.take i)).length])[i]? :=by rw[h2]
  rw[List.getElem?_take,if_pos oG,List.getElem?_append_right oP] at this;rw[this];have e:i - (List.take i (aT ks)).length=0:=by simp;omega
  rw[e];rfl
 rw[ng C];unfold jn;rw[h1];cases hm:fz (aV (ks.take i)) s with
 |true=>
  have:=Rx hm;simp only[if_true];refine⟨oG,?_⟩;rw[if_neg oG]
 |false=>simp
theorem ado{ks:List κ}{i j:Nat}(hj:j<i)(hi:i<=ks.length):(aT ks).getD j 0<jn ks i:=by
 have h1:(aT (ks.take i))[j]? =some ((aT ks).getD j 0):=by
  rw[<- Zk,List.getElem?_take,if_pos hj,dZ (d:=0) oP]
 exact Cq h1
theorem Zl{ks:List κ}{i k:Nat}(hi:i<=ks.length)(hk:jn ks i<=k):k8 (aT ks) i k=[]:=by
 unfold k8;rw[List.filter_eq_nil_iff];intro j hj;have:=ado (List.mem_range.1 hj) hi;rw[beq_iff_eq];omega
end
end Go.Argus
namespace Go.Proofs.Tryz.K
theorem zj{l:List ap}{sh:List ByteArray}{ca:List (List Nat)}(h1:sh.length=l.length)(h2:ca.length=l.length)(fD:uk ca)(hn:l.length<=60)(hlen:∀ x∈ca,x.length<=10000):
 aB prog 44 [.agg (cR l sh (ca.map al))] (.agg (fP l sh (ca.map al) (al (lP (aT sh) ca)))):=by
 have aip:=D8 (ks:=sh) oG;refine bl aiq (.cons (.agg (E6 _ _ _)) .nil) (.agg (EC _ _ _ _)) ?_;rw[air];refine az ?_;refine ab ?_;refine aa ⟨_,qB (i:=0) (cs:=cR l sh (ca.map al)) (e:=82) rfl (l:=[(1,.pt (cR l sh (ca.map al))),(2,.rp 1 0)]) ⟨lU,rfl,trivial⟩ (ml:=[(1,.cells [.z,.z,.z,.z] 86)]) eH,?_⟩;show AW _ _ _ _ (CA _) _;refine ws ?_;refine ab ?_;refine o8 aip rfl aM ?_;refine bx ?_;refine aa (WE ?_);have mQ:(aT sh).length=ca.length:=by rw[B9];omega
 have hR:xk ca ((aT sh).length+1) (aT sh) (aV sh).length=lP (aT sh) ca:=by rw[<- xc];rfl
 have h0s:=ON (ks:=sh) (n:=90) oG;have h0m:=xc sh;have fk:=tA sh;generalize lP (aT sh) ca=RR at*
 refine cn (fun s=>∃ nx,1<nx/\aJ prog s ⟨ay [(1,.pt (cR l sh (ca.map al))),(2,.rp 1 0),(3,aP (al RR))],br [(1,.cells [.z,.z,.z,.z] 86)],nx⟩) (Zh (α:=List Nat×Nat×Nat)
  (fun s=>⟨ay [(1,.pt (cR l sh (ca.map al))),(2,.rp 1 0),(3,aP (al s.1)),(4,I (s.2.1:Nat))],br [(1,.cells [.z,.z,.z,.z] 86)],s.2.2⟩)
  (fun s=>s.1.length=ca.length/\s.2.1=(aV s.1).length/\(∀ c∈s.1,c<90)/\(∃ eh,ca.length<eh+s.2.1/\xk ca eh s.1 s.2.1=RR)/\1<s.2.2) (fun s=>ca.length - s.2.1) (aT sh,(aV sh).length,_)
  (au eH) ⟨mQ,h0m.symm,h0s,⟨_,oM,hR⟩,oM⟩ ?_) ?_
 .rintro⟨clq,many,nx⟩ ⟨di,Th,M9,⟨eh,hfu,X⟩,U⟩;dsimp only at di Th M9 hfu X U ⊢;have iP:=iP (l:=l) (sh:=sh) (ca:=ca.map al);have gj:(ns ca clq).length=l.length:=by simp[ns];omega
  have hle:many<=ca.length:=by have:=tA clq;omega
  refine az ?_;refine SS ?_;refine aa ⟨_,.r4 _ _ _ 5 9 rfl,aF (az ?_)⟩;refine SS ?_;refine cl iP ?_;refine SS ?_
  refine aa (cn (fun s=>∃ nx,1<nx/\aJ prog s ⟨ay [(1,.pt (cR l sh (ca.map al))),(2,.rp 1 0),(3,aP (al clq)),(4,I many),(5,bU (ns ca clq))],br [(1,.cells [.z,.z,.z,.z] 86)],nx⟩) (cy (α:=Nat×Nat×Nat)
   (fun s=>⟨ay [(1,.pt (cR l sh (ca.map al))),(2,.rp 1 0),(3,aP (al clq)),(4,I many),(5,.rs s.2.1 0 s.1),(19,I l.length),(20,I s.1)],br [(1,.cells [.z,.z,.z,.z] 86),(s.2.1,.cells (((ns ca clq).take s.1).map S) 9)],s.2.2⟩)
   (fun s=>s.1<=l.length/\1<s.2.1/\s.2.1<s.2.2) (fun s=>l.length - s.1) (0,nx,nx+1)
   (bZ eH ⟨ag oG rfl,ah _ _ _,trivial⟩) ⟨Nat.zero_le _,U,oM⟩ ?_) ?_)
  .rintro⟨i,r,nx⟩ ⟨hi,uO,wL⟩;dsimp only at hi uO wL ⊢;refine SS ?_;refine aa ⟨_,rfl,fun h=>?_,fun h=>?_⟩
   .have ei:i<l.length:=by simpa using h
    clear h;have HT:(al clq)[i]? =some ((clq.getD i 0:Nat):Int):=by rw[List.getElem?_map,dZ (d:=0) (show i<clq.length by omega)];rfl
    have Eb:(ca.map al)[i]? =some (al (ca.getD i [])):=by rw[List.getElem?_map,dZ (d:=[]) (show i<ca.length by omega)];rfl
    have qm:(ca.getD i []).length<=10000:=hlen _ (bu (dZ (show i<ca.length by omega)))
    have fm:(ns ca clq).take (i+1)=(ns ca clq).take i++[gY (al (lV ca clq i))]:=by
     have:(ns ca clq)[i]? =some (gY (al (lV ca clq i))):=by
      unfold ns;rw[List.getElem?_map,zD oG];rfl
     rw[List.take_add_one,this];rfl
    have oq:lV ca clq i=clq.getD i 0::(ca.getD i []).map fun t=>clq.getD t 0:=rfl
    have qi:∀ n∈al (lV ca clq i),0<=n/\n<90:=fun n hn=>by
     obtain⟨c,hc,rfl⟩:=List.mem_map.1 hn;have:=IY M9 (lV ca clq i) (List.mem_map.2 ⟨i,by simp;omega,rfl⟩) c hc;omega
    have af:(((ns ca clq).take i).map S).length=i:=by simp;omega
    have M0:=M0 (l:=al (lV ca clq i)) qi (by rw[oq];simp only[al,List.length_map,List.length_cons];omega) (by rw[oq];simp[al]);have dq:∀ t∈ca.getD i [],t<clq.length:=fun t ht=>by rw[di];exact fD i t ht
    generalize (ns ca clq).take i=done at*
    generalize ca.getD i []=C at*
    generalize lV ca clq i=key at*
    have ae0:∀ {a},up (br [(1,.cells [.z,.z,.z,.z] 86),(r,.cells (done.map S) 9)]) nx a r=some (.cells (done.map S) 9):=ag oG (by simp[br];omega);refine ws ?_;refine ab ?_;refine er ?_;refine cw ?_;refine aa (aF (az ?_));refine iu ?_
    refine aa (cn (fun s=>∃ J,r<J/\aJ prog s ⟨ay [(1,.pt (cR l sh (ca.map al))),(2,.rp 1 0),(3,aP (al clq)),(4,I many),(5,.rs r 0 i),(7,aP (al key)),(19,I l.length),(20,I i)],br [(1,.cells [.z,.z,.z,.z] 86),(r,.cells (done.map S) 9)],J⟩) (cy (α:=Nat×Nat×Nat)
     (fun s=>⟨ay [(1,.pt (cR l sh (ca.map al))),(2,.rp 1 0),(3,aP (al clq)),(4,I many),(5,.rs r 0 i),(7,.rs s.2.1 0 (s.1+1)),(19,I l.length),(20,I i),(32,aP (al C)),(33,I (al C).length),(34,I s.1)],br [(1,.cells [.z,.z,.z,.z] 86),(r,.cells (done.map S) 9),(s.2.1,.cells ((al (clq.getD i 0::(C.take s.1).map fun t=>clq.getD t 0)).map I) 3)],s.2.2⟩)
     (fun s=>s.1<=C.length/\r<s.2.1/\s.2.1<s.2.2) (fun s=>C.length - s.1) (0,nx,nx+1)
     (bZ eH ⟨ag oG rfl,ae0,ah _ _ _,trivial⟩) ⟨Nat.zero_le _,wL,oM⟩ ?_) ?_)
    .rintro⟨j,q',J⟩ ⟨hj,bL,hq2⟩;dsimp only at hj bL hq2 ⊢;refine SS ?_;refine aa ⟨_,rfl,fun h=>?_,fun h=>?_⟩
     .have dj:j<C.length:=by simpa using h
      clear h;obtain⟨t,ht⟩:∃ t,C[j]? =some t:=⟨_,a7 dj⟩
      have Vl:(al C)[j]? =some (t:Int):=by rw[List.getElem?_map,ht];rfl
      have gw:(al clq)[t]? =some ((clq.getD t 0:Nat):Int):=by rw[List.getElem?_map,dZ (d:=0) (dq t (bu ht))];rfl
      have ae1:al (clq.getD i 0::(C.take (j+1)).map fun t=>clq.getD t 0)=al (clq.getD i 0::(C.take j).map fun t=>clq.getD t 0)++[((clq.getD t 0:Nat):Int)]:=by rw[List.take_add_one,ht];simp only[al,List.map_append,List.map_cons,Option.toList_some,List.map_nil,List.cons_append]
      have De:((al (clq.getD i 0::(C.take j).map fun t=>clq.getD t 0)).map I).length=j+1:=by simp only[al,List.length_map,List.length_cons,List.length_take];omega
      generalize al (clq.getD i 0::(C.take j).map fun t=>clq.getD t 0)=out at*
      have ao:br [(1,.cells [.z,.z,.z,.z] 86),(r,.cells (done.map S) 9),(q',.cells (out.map I) 3)] q'=some (.cells (out.map I) 3):=(xj oG).trans ((xj oG).trans zY);have amj:out.length=j+1:=by simpa using De
      have ae2:br [(1,.cells [.z,.z,.z,.z] 86),(r,.cells (done.map S) 9),(q',.cells (out.map I) 3)] r=some (.cells (done.map S) 9):=(xj oG).trans zY;refine ws ?_;refine ax ?_;refine aa (fF ?_);refine dJ ?_;refine aa ?_;refine ab ?_;refine aa (bi (j+1,J+1,J+1+1) ?_ ⟨oM,oM,oM⟩ oM);dsimp only;rw[ae1];refine bZ eH ⟨ag oG (ag oG (ag oG rfl)),ag oG (ag oG (ag oG ae2)),(ah _ _ _).trans (by simp;rfl),trivial⟩
     .have bq:¬ j<C.length:=by simpa using h
      have:j=C.length:=by omega
      subst this;rw[List.take_length, <- oq];have G6:key.length=C.length+1:=by rw[oq];simp
      refine⟨J,oG,qB (i:=q') (cs:=(al key).map I) (e:=3) ((xj oG).trans ((xj oG).trans zY)) ⟨rfl,gk oG,rfl,rfl,zR oG,?_,rfl,rfl,trivial⟩ ⟨E7 oG rfl rfl,E7 oG ((xj oG).trans zY) (congrArg (Row.cells · 9) (Qn (fun _=>rfl) done)),trivial⟩⟩;exact(jM (by rw[c3];simp;omega)).trans (by show _=D.sl _ _;simp only[al,List.length_map,G6])
    .rintro s ⟨J,AV,M⟩;refine⟨_,M,fF ?_⟩;clear M;have ao:br [(1,.cells [.z,.z,.z,.z] 86),(r,.cells (done.map S) 9)] r=some (.cells (done.map S) 9):=(xj oG).trans zY;have agX:done.length=i:=by simpa using af
     refine ab ?_;refine cl M0 ?_;refine ax ?_;refine aa ?_;refine ab ?_;refine aa (bi (i+1,J+1,J+1+1) ?_ ⟨oM,oM,oM⟩ oM);dsimp only;rw[fm];exact bZ eH ⟨ag oG (ag oG (ag oG rfl)),(ah _ _ _).trans (by rw[List.map_append];simp;rfl),trivial⟩
   .have bq:¬ i<l.length:=by simpa using h
    have:i=l.length:=by omega
    subst this;rw[dt oG];refine⟨nx,oG,qB (i:=r) (cs:=(ns ca clq).map S) (e:=9) (by simp[br];omega) ⟨rfl,gk oG,rfl,rfl,?_,trivial⟩ ⟨E7 oG rfl rfl,trivial⟩⟩;exact(jM (by rw[c9,List.length_map,gj];omega)).trans (by show _=D.sl _ _;rw[gj])
  .rintro s ⟨nx,U,M⟩;refine⟨_,M,aj ?_⟩;clear M;obtain⟨yR,Ec⟩:=Zi (ca:=ca) M9;have D8:=D8 (ks:=ns ca clq) oG;rw[yR,Ec] at D8;have amk:many<=(aV (eS ca clq)).length:=by rw[Th];exact Pn di
   have amv:(aV (eS ca clq)).length<=ca.length:=by have:=tA (eS ca clq);simpa using this
   have fO:(aT (eS ca clq)).length=ca.length:=by simp
   have Bh:=xc (eS ca clq);have Bv:=ON (ks:=eS ca clq) (n:=90) oP;cases eh with
   |zero=>omega
   |succ eh=>
   unfold xk at X;generalize (aV (eS ca clq)).length=more at*
   generalize aT (eS ca clq)=pu at*
   refine SS ?_;refine cl D8 ?_;refine bx ?_;refine er ?_;refine ab ?_;refine aa (aF (aj ?_));refine ax ?_;refine aa (cQ rfl (fun h=>ta (abT oC ?_)) fun h=>cx (fF ?_))
   .have hm:more=many:=by
     have:((more:Nat):Int)=many:=by simpa using h
     omega
    rw[if_pos hm] at X;subst X;exact⟨nx,U,au eH⟩
   .have hm:¬ more=many:=by
     intro e;subst e;simp at h
    rw[if_neg hm] at X;refine ab ?_;refine aa (bi (pu,more,nx) (au eH) ⟨fO,Bh.symm,Bv,⟨eh,oM,X⟩,U⟩ oM)
 .rintro s ⟨nx,U,M⟩;refine⟨_,M,aj ?_⟩;refine ba ?_;exact aa (bH (Fu (r9 (gN (cs:=fP l sh (ca.map al) (al RR)) (vs:=fP l sh (ca.map al) (al RR)) rfl rfl Bw wM rfl t86 (bd 4)) rfl)))
end Go.Proofs.Tryz.K
namespace Go.Abs
theorem jL.grow{m m':Mem}{nx M j J n:Nat}{e et:TypeId}{ρ:Nat->Nat}{L:Nat->List D}(h:jL m nx j n e et ρ L)(U:L n=[])(hj:nx<=J)(ln:J<M)(ao:m' J=some (.cells (nI ρ L n++[.z]) e))(hk:∀ q,q<nx->q≠j->m' q=m q):jL m' M J (n+1) e et ρ L:=by
 have af:∀ i,i<n+1->L i≠[]->i<n:=fun i hi C=>by
  by_cases e:i=n
  .subst e;exact absurd U C
  .omega
 refine⟨?_,ln,fun i hi C=>?_,fun i hi C=>?_,fun i hi C=>?_,fun a b ha hb zk X=>h.inj a b (af a ha zk) (af b hb X) zk X⟩
 .rw[ao];unfold nI;rw[List.range_succ,List.map_append];simp[U,jc]
 .have:=af i hi C;exact(hk _ (h.lt i this C) (h.ne i this C)).trans (h.A0 i this C)
 .have:=h.lt i (af i hi C) C;omega
 .have:=h.lt i (af i hi C) C;omega
theorem jL.nil{m:Mem}{nx j:Nat}{e et:TypeId}{ρ:Nat->Nat}{L:Nat->List D}(hm:m j=some (.cells [] e))(hj:j<nx):jL m nx j 0 e et ρ L:=
 ⟨hm,hj,fun _ h=>absurd h (Nat.not_lt_zero _),fun _ h=>absurd h (Nat.not_lt_zero _),fun _ h=>absurd h (Nat.not_lt_zero _),fun _ _ h=>absurd h (Nat.not_lt_zero _)⟩
end Go.Abs
namespace Go.Proofs.Tryz.K
theorem Bx{κ:Type}[DecidableEq κ]{l:List ap}{sh:List ByteArray}{ca:List (List Int)}{ks:List κ}(hl:ks.length<=1000):
 aB prog 45 [.agg (fP l sh ca (al (aT ks)))] (bM (eu (aT ks) (aV ks).length)):=by
 refine bl ais (.cons (.agg (EC _ _ _ _)) .nil) (nX _) ?_;rw[ait];refine az ?_;refine ab ?_;refine aa (bJ (dD [(0,fP l sh ca (al (aT ks)),86)] eH (l:=[(1,.pt (fP l sh ca (al (aT ks))))]) eH) (az ?_));refine SS ?_;refine aa ⟨_,.r4 _ _ _ 3 43 rfl,aF (az ?_)⟩;refine ba ?_;have di:(al (aT ks)).length=ks.length:=by simp
 refine aa (cn (fun s=>∃ j m nx ρ,aJ prog s ⟨ay [(3,.rs j 0 (jn ks ks.length))],m,nx⟩/\jL m nx j (jn ks ks.length) 43 3 ρ (fun k=>(al (k8 (aT ks) ks.length k)).map I)) (cy (α:=Nat×Nat×Mem×Nat)
  (fun s=>⟨ay [(3,.rs s.2.1 0 (jn ks s.1)),(7,aP (al (aT ks))),(8,I (al (aT ks)).length),(9,I s.1)],s.2.2.1,s.2.2.2⟩)
  (fun s=>s.1<=ks.length/\∃ ρ,jL s.2.2.1 s.2.2.2 s.2.1 (jn ks s.1) 43 3 ρ (fun k=>(al (k8 (aT ks) s.1 k)).map I)) (fun s=>ks.length - s.1) (0,1,_,2)
  (au eH) ⟨Nat.zero_le _,fun _=>0,jL.nil rfl oM⟩ ?_) ?_)
 .rintro⟨i,j,m,nx⟩ ⟨hi,ρ,M⟩;dsimp only at hi M ⊢;refine SS ?_;refine aa ⟨_,rfl,fun h=>?_,fun h=>?_⟩
  .have ei:i<ks.length:=by simpa using h
   clear h;obtain⟨c1,wN⟩:=aaU ei;have HT:(al (aT ks))[i]? =some (((aT ks).getD i 0:Nat):Int):=by rw[List.getElem?_map,dZ (d:=0) (by simpa using ei)];rfl
   have Vo:=aaT (clq:=aT ks) (i:=i) rfl;have aiu:=Zj (aT ks) i ((aT ks).getD i 0);have Lw:∀ k,jn ks i<=k->k8 (aT ks) i k=[]:=fun k hk=>Zl hi hk;have amw:jn ks i<=1000:=by have:=tA (ks.take i);simp[jn] at this ⊢;omega
   generalize hn:(aT ks).getD i 0=n at*
   generalize jn ks i=c at*
   generalize k8 (aT ks) i=L at*
   have dj:=M.zl;refine ws ?_;refine bx ?_;refine aa (iz (fun s=>∃ U m' C J,n<jn ks (i+1)/\jL m' C U (jn ks (i+1)) 43 3 J (fun k=>(al (L k)).map I)/\aJ prog s ⟨ay [(3,.rs U 0 (jn ks (i+1))),(4,I i),(5,I n),(7,aP (al (aT ks))),(8,I (al (aT ks)).length),(9,I i)],m',C⟩) ?_ ?_)
   .refine ws ?_;have ao:=M.row;refine ba ?_;refine aa (aO rfl (fun h=>sd ?_) fun h=>cI ?_)
    .have e:n=c:=by
      have:(n:Int)=c:=by simpa using h
      omega
     rw[if_pos e] at wN;subst e;refine ab ?_;refine ji (iX rfl (ag oG ao) rfl V.h V.h (kO (ah _ _ _) rfl) rfl) ak ⟨V.h,rfl,(by first|omega|exact bF rfl|(simp;done)|(simp;omega)),oC,(by first|rfl|(simp;done)|(simp;omega)),(by unfold maxLen;first|omega|(simp;omega)),(by rw[Ea];first|omega|(simp;omega)),(by first|(simp;done)|(simp;omega))⟩ ?_;refine SS ?_;refine aa ⟨nx+1,_,nx+1+1,ρ,oG,?_,au ⟨?_,rfl,rfl,rfl,rfl,rfl,trivial⟩⟩
     .rw[wN];refine M.grow (by rw[Lw n (bd _)];rfl) oG oG ?_ (fun q hq uP=>?_)
      .exact(ah _ _ _).trans (by simp;rfl)
      .exact ag oG (ag oG (ag oG rfl))
     .rw[wN];rfl
    .have e:¬ n=c:=fun e=>by subst e;simp at h
     rw[if_neg e] at wN;exact⟨j,m,nx,ρ,oG,by rw[wN];exact M,by rw[wN];exact au eH⟩
   .rintro s ⟨U,m',C,J,jY,X,dQ⟩;refine⟨_,dQ,fF ?_⟩;clear dQ;have ao:=X.row;have amx:=X.zl;have hLl:(al (L n)).length<=i:=by simpa using aiu
    generalize rv:jn ks (i+1)=c' at*
    obtain⟨cs,kd⟩:=Qt (ρ:=J) (L:=fun k=>(al (L k)).map I) jY;by_cases hz:L n=[]
    .have zn:jc (J n) ((al (L n)).map I)=.z:=by rw[hz];rfl
     rw[zn] at kd;refine bw ?_;refine aw (mu rfl rfl (ag oG (ag oG ao)) V.h V.h) ak ⟨V.h,oG⟩ ?_;refine bN (eK (d:=.rs _ _ _) (cs':=_) rfl rfl (ag oG (ag oG ao)) rfl rfl) ak (bX V.h V.h (by first|(simp;done)|exact⟨rfl,bF rfl⟩|(simp;omega)) rfl) ?_;refine aa ?_;refine ab ?_;refine aa (bi (i+1,U,up (up (up m' C (some (.cells [I i] 3))) (C+1) (some (.cells [I i] 3))) U (some (.cells ((nI J (fun k=>(al (L k)).map I) c').set n (.rs (C+1) 0 1)) 43)),C+2) (au ⟨?_,rfl,rfl,rfl,trivial⟩) ⟨oM,up J n (C+1),?_⟩ oM)
     .exact congrArg (fun n=>D.rs U 0 n) rv.symm
     dsimp only;rw[Vo,rv];refine X.HU jY oS oG oG ?_ ?_ (fun q hq uP _=>?_)
     .rw[hz];exact ah _ _ _
     .rw[hz];exact ag oG (ah _ _ _)
     .exact ag oG (ag oG (ag oG rfl))
    .have aE:(al (L n)).map I≠[]:=by simpa using hz
     have zn:jc (J n) ((al (L n)).map I)=.rs (J n) 0 (al (L n)).length:=by rw[Df aE,List.length_map]
     rw[zn] at kd;have gR:=X.A0 n jY aE;have hρn:=X.lt n jY aE;have hρ1:=X.ne n jY aE;refine bw ?_;refine aw (mu rfl rfl (ag oG (ag oG (ag oG ao))) V.h V.h) ak ⟨V.h,oG⟩ ?_;refine bN (eK (d:=.rs _ _ _) (cs':=_) rfl rfl (ag oG (ag oG (ag oG ao))) rfl rfl) ak (bX V.h V.h (by first|(simp;done)|exact⟨rfl,bF rfl⟩|(simp;omega)) rfl) ?_;refine aa ?_;refine ab ?_;refine aa (bi (i+1,U,up (up (up (up m' C (some (.cells [I i] 3))) (J n) none) (C+1) (some (.cells ((al (L n)).map I++[I i]) 3))) U (some (.cells ((nI J (fun k=>(al (L k)).map I) c').set n (.rs (C+1) 0 ((al (L n)).length+1))) 43)),C+2) (au ⟨?_,rfl,rfl,rfl,trivial⟩) ⟨oM,up J n (C+1),?_⟩ oM)
     .exact congrArg (fun n=>D.rs U 0 n) rv.symm
     dsimp only;rw[Vo,rv];refine X.HU jY oS oG oG ?_ ?_ (fun q hq uP y4=>?_)
     .have e:((al (L n)++[(i:Int)]).map I).length=(al (L n)).length+1:=by simp
      rw[e];exact ah _ _ _
     .rw[List.map_append];exact ag oG (ah _ _ _)
     .have:=y4 aE;exact ag oG (ag oG (ag oG (ag oG rfl)))
  .have bq:¬ i<ks.length:=by simpa using h
   have:i=ks.length:=by omega
   subst this;exact⟨j,m,nx,ρ,au eH,M⟩
 .rintro s ⟨j,m,nx,ρ,hg,M⟩;have uI:jn ks ks.length=(aV ks).length:=by unfold jn;rw[List.take_length]
  rw[uI] at hg M;have wO:¬ ∃ i,i<(aV ks).length/\(al (k8 (aT ks) ks.length i)).map I≠[]/\ρ i=j:=fun⟨i,h1,h2,h3⟩=>M.ne i h1 h2 h3;refine⟨_,hg.trans (Po (l:=[(3,.rs j 0 (aV ks).length)]) (ml:=[]) (fun r=>∃ i,i<(aV ks).length/\(al (k8 (aT ks) ks.length i)).map I≠[]/\ρ i=r) M (fun _=>.map) c3 (fun i h1 h2=>⟨i,h1,h2,rfl⟩) wO ⟨rfl,trivial⟩ (fun x hx=>?_) trivial (fun x hx=>by cases hx)),az ?_⟩
  .simp at hx;subst hx;exact .rs wO
  refine ab ?_;refine aa (bJ (dD [(j,_,43)] ⟨zY,trivial⟩ (l:=[(2,bM (eu (aT ks) (aV ks).length))]) ⟨?_,trivial⟩) (aI rfl rfl));show sub (cF j _ (prog.cellsOf 43)) (D.rs j 0 (aV ks).length)=_;rw[jM (by rw[sX];simp),Qu,adn,B9]
end Go.Proofs.Tryz.K
end
