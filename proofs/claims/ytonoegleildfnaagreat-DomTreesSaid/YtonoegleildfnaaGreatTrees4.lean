/- Part 4 of the proof; the last part says what is proved. -/
import Derived.Test.YtonoegleildfnaaGreatTrees3
section
open Go Go.Abs Go.Proofs Go.Argus
namespace Go.Argus
open Go.Proofs.Tryz.K (nextR)
structure CS where
 ws:List (List Int)
 re:List Bool
 ch:Bool
def bW(x:End)(w:List Int)(s:CS)(n:Int):CS:=
 if s.re.getD n.toNat false=false\/gz (s.ws.getD n.toNat []) (fQ x n w)≠s.ws.getD n.toNat [] then⟨s.ws.set n.toNat (gz (s.ws.getD n.toNat []) (fQ x n w)),s.re.set n.toNat true,true⟩ else s
def de(bs:List bw)(s:CS)(k:Nat):CS:=match bs[k]? with
 |none=>s
 |some x=>if s.re.getD k false=true then(nextR x.fin).foldl (bW x.fin (iz x (s.ws.getD k [])).1) s else s
def jn(bs:List bw)(s:CS):CS:=(List.range bs.length).foldl (de bs) ⟨s.ws,s.re,false⟩
def ly(bs:List bw):Nat->CS->CS
 |0,s=>s
 |k+1,s=>if(jn bs s).ch=true then ly bs k (jn bs s) else jn bs s
def jT:Int:=18446744073709551615
def gX:Nat->List Int
 |0=>List.replicate 20 0
 |k+1=>gy (gX k) k
@[simp] theorem ML : ∀ k, (gX k).length = 20
 |0=>rfl
 |k+1=>by simp[gX,ML k]
def jo(n args:Nat):CS:=⟨(List.replicate n (List.replicate 20 jT)).set 0 (gX args),(List.replicate n false).set 0 true,true⟩
def dy(u:Int):Prop:=0<=u/\u<18446744073709551616
structure fA(n:Nat)(s:CS):Prop where
 lw:s.ws.length=n
 lr:s.re.length=n
 jj:∀ w∈s.ws,w.length=20
 rg:∀ w∈s.ws,∀ u∈w,dy u
def lT(w:List Int):Nat:=(w.map Int.toNat).sum
def o6(s:CS):Nat:=(s.ws.map lT).sum+s.re.count false
def mY(s:CS):Nat:=o6 s+if s.ch=true then 1 else 0
theorem Of{l:List Nat}{k x y:Nat}(h:l[k]? =some x):(l.set k y).sum+x=l.sum+y:=by
 induction l generalizing k with
 |nil=>simp at h
 |cons a l ih=>cases k with
  |zero=>simp at h;subst h;simp;omega
  |succ k=>have:=ih (k:=k) (by simpa using h);simp;omega
theorem ZX{l:List Int}{k:Nat}{x y:Int}(h:l[k]? =some x):lT (l.set k y)+x.toNat=lT l+y.toNat:=by
 unfold lT
 rw[List.map_set]
 exact Of (by simp[h])
theorem MM{a b:Int}(h:dy a):dy (oF a b)/\oF a b<=a:=by
 have:=aa6 (b:=b) h
 exact⟨⟨this.1,by unfold dy at h;omega⟩,this.2⟩
theorem ZY{α:Type}{l:List α}{k:Nat}{x:α}(h:l[k]? =some x):l.set k x=l:=by
 apply List.ext_getElem?
 intro i
 rw[List.getElem?_set]
 split
 .rename_i e;subst e
  rw[if_pos (List.getElem?_eq_some_iff.1 h).1,h]
 .rfl
theorem NB{w v:List Int}(hw:∀ u∈w,dy u):∀ k,k<=w.length->(∀ u∈eS w v k,dy u)/\lT (eS w v k)<=lT w/\(eS w v k≠w->lT (eS w v k)<lT w)
 |0,_=>⟨hw,Nat.le_refl _,fun h=>absurd rfl h⟩
 |k+1,hk=>by
  obtain⟨h1,h2,h3⟩:=NB (v:=v) hw k oG
  have hl:k<(eS w v k).length:=by simp;omega
  have hx:(eS w v k)[k]? =some (eS w v k)[k]:=List.getElem?_eq_getElem hl
  have hg:(eS w v k).getD k 0=(eS w v k)[k]:=by simp[List.getD_eq_getElem?_getD,hx]
  have hm:=h1 _ (List.getElem_mem hl)
  simp only[eS,hg]
  generalize (eS w v k)[k]=a at hx hm
  obtain⟨r1,r2⟩:=MM (b:=v.getD k 0) hm
  generalize oF a (v.getD k 0)=y at r1 r2
  have hs:=ZX (y:=y) hx
  unfold dy at r1 hm
  refine⟨fun u hu=>?_,by omega,fun aA=>?_⟩
  .rcases List.mem_or_eq_of_mem_set hu with h|h
   .exact h1 u h
   .subst h;exact r1
  .by_cases e:y=a
   .subst e
    have:(eS w v k).set k y=eS w v k:=ZY hx
    rw[this] at aA ⊢
    exact h3 aA
   .omega
theorem ZZ{l:List (List Int)}{k:Nat}{w v:List Int}(h:l[k]? =some w):((l.set k v).map lT).sum+lT w=(l.map lT).sum+lT v:=by
 rw[List.map_set]
 exact Of (by simp[h])
theorem count_set{l:List Bool}{k:Nat}{b:Bool}(h:l[k]? =some b):(l.set k true).count false+(if b=true then 0 else 1)=l.count false:=by
 induction l generalizing k with
 |nil=>simp at h
 |cons a l ih=>cases k with
  |zero=>simp at h;subst h;cases a<;>simp
  |succ k=>have:=ih (k:=k) (by simpa using h);simp only[List.set_cons_succ,List.count_cons];omega
theorem Dz{x:End}{w:List Int}{s:CS}{n:Nat}{t:Int}(hs:fA n s)(ht:0<=t/\t<n):fA n (bW x w s t)/\mY (bW x w s t)<=mY s:=by
 obtain⟨lw,lr,jj,rg⟩:=hs
 obtain⟨k,rfl⟩:=Int.eq_ofNat_of_zero_le ht.1
 have hk:k<n:=by omega
 have hx:s.ws[k]? =some s.ws[k]:=List.getElem?_eq_getElem oG
 have hb:s.re[k]? =some s.re[k]:=List.getElem?_eq_getElem oG
 have gx:s.ws.getD k []=s.ws[k]:=by simp[List.getD_eq_getElem?_getD,hx]
 have gb:s.re.getD k false=s.re[k]:=by simp[List.getD_eq_getElem?_getD,hb]
 have hm:s.ws[k]∈s.ws:=List.getElem_mem _
 unfold bW
 simp only[Int.toNat_natCast,gx,gb]
 generalize s.ws[k]=v at hx hm
 generalize s.re[k]=b at hb
 have v20:=jj v hm
 obtain⟨m1,m2,m3⟩:=NB (v:=fQ x k w) (rg v hm) 20 oG
 have hl:=MN v (fQ x k w)
 change (∀ u∈gz v (fQ x k w),dy u) at m1
 change lT (gz v (fQ x k w))<=lT v at m2
 change gz v (fQ x k w)≠v->lT (gz v (fQ x k w))<lT v at m3
 generalize gz v (fQ x k w)=u at m1 m2 m3 hl
 split
 .rename_i hc
  refine⟨⟨by simp[lw],by simp[lr],HT jj oG,fun y hy=>?_⟩,?_⟩
  .rcases List.mem_or_eq_of_mem_set hy with h|h
   .exact rg y h
   .subst h;exact m1
  .have h1:=ZZ (v:=u) hx
   have h2:=count_set hb
   unfold mY o6
   simp only[if_true]
   rcases hc with hc|hc
   .subst hc
    simp only[Bool.false_eq_true,if_false] at h2
    omega
   .have:=m3 hc
    omega
 .exact⟨⟨lw,lr,jj,rg⟩,Nat.le_refl _⟩
theorem DL{α β:Type}{f:β->α->β}{J:β->Prop}{φ:β->Nat}{l:List α}(h:∀ x∈l,∀ s,J s->J (f s x)/\φ (f s x)<=φ s){s:β}(hs:J s):J (l.foldl f s)/\φ (l.foldl f s)<=φ s:=by
 induction l generalizing s with
 |nil=>exact⟨hs,Nat.le_refl _⟩
 |cons x l ih=>
  obtain⟨h1,h2⟩:=h x (by simp) s hs
  obtain⟨h3,h4⟩:=ih (fun y hy=>h y (by simp[hy])) h1
  exact⟨h3,Nat.le_trans h4 h2⟩
theorem wQ(x:End):(nextR x).length<=x.aD.length+3:=by
 have h1:=HR (d:=fx (cz x)) (fx (cz x)).length
 have h2:=HQ x
 rw[GZ] at h1
 exact Nat.le_trans (by simpa[nextR,yV,jG] using h1) h2
structure qN(n:Nat)(b:bw):Prop where
 len:b.ins.length<=100000
 ins:∀ x∈b.ins,om x
 fin:zk b.fin
 rl:∀ x∈b.ins,(bS x).length<=100000
 rf:(bR b.fin).length<=100000
 to:∀ t∈nextR b.fin,0<=t/\t<n
theorem Ho{bs:List bw}{s:CS}{n k:Nat}(hb:∀ b∈bs,qN n b)(hs:fA n s):fA n (de bs s k)/\mY (de bs s k)<=mY s:=by
 unfold de
 split
 .exact⟨hs,Nat.le_refl _⟩
 .rename_i x hx
  split
  .exact DL (J:=fA n) (φ:=mY) (fun t ht s hs=>Dz hs ((hb x (List.mem_of_getElem? hx)).to t ht)) hs
  .exact⟨hs,Nat.le_refl _⟩
theorem AK{bs:List bw}{s:CS}{n:Nat}(hb:∀ b∈bs,qN n b)(hs:fA n s):fA n (jn bs s)/\mY (jn bs s)<=o6 s:=by
 have:=DL (J:=fA n) (φ:=mY) (f:=de bs) (l:=List.range bs.length) (fun k _ s hs=>Ho hb hs) (s:=⟨s.ws,s.re,false⟩) ⟨hs.lw,hs.lr,hs.jj,hs.rg⟩
 exact this
def gJ(bs:List bw)(args:Nat):CS:=ly bs (o6 (jo bs.length args)+1) (jo bs.length args)
theorem getD_some{α:Type}{l:List α}{k:Nat}{x d:α}(h:l[k]? =some x):l.getD k d=x:=by simp[List.getD_eq_getElem?_getD,h]
theorem Ec{α:Type}{n k:Nat}{x y:α}(hk:k<n):(List.replicate k x++List.replicate (n - k) y).set k x=List.replicate (k+1) x++List.replicate (n - (k+1)) y:=by
 rw[show n - k=n - (k+1)+1 by omega,List.replicate_succ,List.replicate_succ',List.append_assoc,List.singleton_append]
 rw[List.set_append]
 simp
theorem Z0{α:Type}{a b:Nat}{x y z:α}(h:z∈List.replicate a x++List.replicate b y):z=x\/z=y:=by
 rcases List.mem_append.1 h with h|h
 .exact .inl (List.eq_of_mem_replicate h)
 .exact .inr (List.eq_of_mem_replicate h)
theorem XE{x:End}{w v:List Int}{s:CS}{k:Nat}{b:Bool}(hx:s.ws[k]? =some v)(hb:s.re[k]? =some b)(h:b=false\/gz v (fQ x k w)≠v):bW x w s k=⟨s.ws.set k (gz v (fQ x k w)),s.re.set k true,true⟩:=by
 unfold bW
 rw[Int.toNat_natCast,getD_some hx,getD_some hb,if_pos h]
theorem XX{x:End}{w v:List Int}{s:CS}{k:Nat}{b:Bool}(hx:s.ws[k]? =some v)(hb:s.re[k]? =some b)(h:¬ (b=false\/gz v (fQ x k w)≠v)):bW x w s k=s:=by
 unfold bW
 rw[Int.toNat_natCast,getD_some hx,getD_some hb,if_neg h]
theorem GD{n args:Nat}(ha:∀ u∈gX args,dy u):fA n (jo n args):=by
 refine⟨by simp[jo],by simp[jo],HT (fun w hw=>by rw[List.eq_of_mem_replicate hw];simp) (by simp),fun w hw u hu=>?_⟩
 rcases List.mem_or_eq_of_mem_set hw with h|h
 .rw[List.eq_of_mem_replicate h] at hu
  rw[List.eq_of_mem_replicate hu];simp[dy,jT]
 .rw[h] at hu;exact ha u hu
end Go.Argus
namespace Go.Proofs.Tryz.K
set_option maxRecDepth 10000
set_option maxHeartbeats 2000000 in
theorem zE{p q:D}{f:az}{n args:Nat}(hp:Tr p)(hq:Tr q)(eW:p.one=true)(fI:q.one=true)(hn:f.blocks.length=n)(lk:0<n)(lZ:n<=100000)(ha:f.args=args)(rv:args<=1000)(Ak:∀ u∈gX args,dy u)(hb:∀ b∈f.blocks,qN n b):
 PCall prog 197 [.agg (aW p q f)] (.tup [.sl (bY (gJ f.blocks args).ws) n,.sl ((gJ f.blocks args).re.map B) n]):=by
 have aP:∀ a∈[D.agg (aW p q f)],Tr a:=.cons (lE hp hq f) .nil
 refine aY mixed SL (by rw[aez];rfl) aP (.tup (.cons (.sl (ab3 _)) (.cons (.sl (.map fun _=>.s _)) .nil))) ?_
 rw[aeA,aeB]
 refine aq ?_
 refine o7 ?_;refine c7 ?_;refine c7 ?_
 refine ab (aJ (bg [(0,aW p q f,133)] eH (l:=[(1,.pt (aW p q f))]) eH) (qj YO ?_))
 refine J6 ?_;refine dG ?_
 refine gB (yO rfl rfl V.h V.h) ak ⟨by omega,rfl,by omega,by rw[Uy];omega,V.h⟩ ?_
 refine J6 ?_;refine dG ?_;refine uo ?_;refine bJ ?_;refine bJ ?_
 have cM:((f.blocks.length:Nat):Int).toNat=n:=hn
 refine bc (by simp[apartT]) (aJ (aE (l:=[(1,.pt (aW p q f)),(4,.rs 1 0 n),(5,.rs 2 0 n)]) (ml:=[(1,.cells (bY (List.replicate n (List.replicate 20 0))) 231),(2,.cells ((List.replicate n false).map B) 4)]) ⟨rfl,?_,?_,trivial⟩ ⟨?_,?_,trivial⟩) (aC (aq ?_)))
 .exact congrArg (fun k=>D.rs 1 0 k) cM
 .exact congrArg (fun k=>D.rs 2 0 k) cM
 .exact congrArg (fun c=>some (Row.cells c 231)) ((congrArg (fun k=>replD k ((List.replicate 20 (0:Int)).map bZ)) cM).trans (ZV n (List.replicate 20 0)))
 .exact congrArg (fun c=>some (Row.cells c 4)) ((congrArg (fun k=>replD k [B false]) cM).trans (tq n false))
 refine bT ?_;refine zF ?_;refine J0 ?_
 refine ab (bM (fun s=>Ghost prog s ⟨ax [(1,.pt (aW p q f)),(4,.rs 1 0 n),(5,.rs 2 0 n)],aX [(1,.cells (bY (List.replicate n (List.replicate 20 jT))) 231),(2,.cells ((List.replicate n false).map B) 4)],3⟩) (eX (α:=Nat)
  (fun k=>⟨ax [(1,.pt (aW p q f)),(4,.rs 1 0 n),(5,.rs 2 0 n),(27,I n),(28,I k)],aX [(1,.cells (bY (List.replicate k (List.replicate 20 jT)++List.replicate (n - k) (List.replicate 20 0))) 231),(2,.cells ((List.replicate n false).map B) 4)],3⟩)
  (fun k=>k<=n) (fun k=>n - k) 0 (aE eH eH) oG ?_) ?_)
 .intro k hk
  refine bB ?_
  refine ab ⟨_,rfl,fun h=>?_,fun h=>?_⟩
  .have aj:k<n:=by simpa using h
   have pS:=Ec (x:=List.replicate 20 jT) (y:=List.replicate 20 (0:Int)) aj
   have hi:(List.replicate k (List.replicate 20 jT)++List.replicate (n - k) (List.replicate 20 (0:Int)))[k]? =some (List.replicate 20 0):=by
    rw[List.getElem?_append_right (by simp),List.length_replicate,Nat.sub_self,show n - k=n - (k+1)+1 by omega,List.replicate_succ];rfl
   have Al:∀ w∈List.replicate k (List.replicate 20 jT)++List.replicate (n - k) (List.replicate 20 (0:Int)),w.length=20:=fun w hw=>by
    rcases Z0 hw with h|h<;>(rw[h];simp)
   have Jx:PCall prog 241 [] (gh (List.replicate 20 jT)):=Jx
   refine ws ?_;refine iF ?_
   refine ab (eO ?_)
   refine cL ?_;refine cl Jx ?_;refine o8 ?_;refine JN ?_
   refine ab ?_
   refine cr ?_
   refine ab (aK (k+1) (aE eH ⟨?_,rfl,trivial⟩) oG oG)
   rw[<- pS];rfl
  .have aZ:¬ k<n:=by simpa using h
   have:k=n:=by omega
   subst this
   refine aE eH ⟨?_,rfl,trivial⟩
   show some (Row.cells (bY (_++List.replicate (k - k) _)) _)=_
   rw[Nat.sub_self,List.replicate_zero,List.append_nil]
 rintro s hg
 refine⟨_,hg,aq ?_⟩
 have hi:(List.replicate n (List.replicate 20 jT))[0]? =some (List.replicate 20 jT):=by simp[lk]
 have Al:∀ w∈List.replicate n (List.replicate 20 jT),w.length=20:=fun w hw=>by rw[List.eq_of_mem_replicate hw];simp
 refine bT ?_;refine bT ?_
 refine aF (ZW akp rfl aew) ak ⟨V.h,V.h⟩ ?_
 refine o8 ?_;refine JN ?_;refine eI ?_;refine uq ?_
 refine ab (aJ (aE (l:=[(1,.pt (aW p q f)),(4,.rs 1 0 n),(5,.rs 2 0 n)]) (ml:=[(1,.cells (bY ((List.replicate n (List.replicate 20 jT)).set 0 (gX 0))) 231),(2,.cells (((List.replicate n false).set 0 true).map B) 4)]) eH ⟨rfl,?_,trivial⟩) (aC (aq ?_)))
 .rw[List.map_set];rfl
 clear hi
 refine J6 ?_;refine aG ?_;refine J0 ?_
 refine ab (bM (fun s=>Ghost prog s ⟨ax [(1,.pt (aW p q f)),(4,.rs 1 0 n),(5,.rs 2 0 n)],aX [(1,.cells (bY ((List.replicate n (List.replicate 20 jT)).set 0 (gX args))) 231),(2,.cells (((List.replicate n false).set 0 true).map B) 4)],3⟩) (eX (α:=Nat)
  (fun k=>⟨ax [(1,.pt (aW p q f)),(4,.rs 1 0 n),(5,.rs 2 0 n),(43,I args),(44,I k)],aX [(1,.cells (bY ((List.replicate n (List.replicate 20 jT)).set 0 (gX k))) 231),(2,.cells (((List.replicate n false).set 0 true).map B) 4)],3⟩)
  (fun k=>k<=args) (fun k=>args - k) 0 (aE ⟨rfl,rfl,rfl,congrArg I ha,rfl,trivial⟩ eH) oG ?_) ?_)
 .intro k hk
  refine bB ?_
  refine ab ⟨_,rfl,fun h=>?_,fun h=>?_⟩
  .have aj:k<args:=by simpa using h
   have hi:((List.replicate n (List.replicate 20 jT)).set 0 (gX k))[0]? =some (gX k):=by simp[lk]
   have Al:=HT (i:=0) Al (ML k)
   have pR:=pR (w:=gX k) (n:=(k:Int)) (by simp) oG
   refine ws ?_;refine iF ?_
   refine ab (eO ?_)
   refine bT ?_;refine bT ?_;refine o8 ?_
   refine aF (eL rfl rfl V.h V.h (EL (by assumption) (by assumption))) ak (eM V.h V.h (xE (by assumption) (by assumption))) ?_
   refine J0 ?_;refine cl pR ?_;refine o8 ?_;refine JN ?_
   refine ab ?_
   refine cr ?_
   refine ab (aK (k+1) (aE eH ⟨?_,rfl,trivial⟩) oG oG)
   show some (Row.cells (bY ((List.set _ 0 (gX k)).set 0 (gX (k+1)))) _)=_
   rw[List.set_set]
  .have aZ:¬ k<args:=by simpa using h
   have:k=args:=by omega
   subst this
   exact ao eH
 clear Al
 rintro s hg
 refine⟨_,hg,aC (aq ?_)⟩
 refine J1 ?_
 have F4:=GD (n:=n) Ak
 have hR:gJ f.blocks args=ly f.blocks (o6 (jo n args)+1) (jo n args):=by rw[gJ,hn]
 generalize gJ f.blocks args=R at hR ⊢
 refine ab (bM (fun s=>∃ n',Ghost prog s ⟨ax [(4,.rs 1 0 n),(5,.rs 2 0 n)],aX [(1,.cells (bY R.ws) 231),(2,.cells (R.re.map B) 4)],n'⟩/\fA n R) (w0 (α:=CS×Nat)
  (fun s=>⟨ax [(1,.pt (aW p q f)),(4,.rs 1 0 n),(5,.rs 2 0 n),(8,B s.1.ch)],aX [(1,.cells (bY s.1.ws) 231),(2,.cells (s.1.re.map B) 4)],s.2⟩)
  (fun s=>fA n s.1/\3<=s.2/\(s.1.ch=true->∃ k,o6 s.1<k/\ly f.blocks k s.1=R)/\(s.1.ch=false->s.1=R)) (fun s=>2*o6 s.1+if s.1.ch=true then 1 else 0) (jo n args,3)
  (aE eH eH) ⟨F4,Nat.le_refl _,fun _=>⟨_,Nat.lt_succ_self _,hR.symm⟩,fun h=>by cases h⟩ ?_) ?_)
 .rintro⟨s0,N0⟩ ⟨xM,l0,wB,vO⟩
  dsimp only at xM l0 wB vO ⊢
  refine J2 ?_
  refine ab ⟨_,rfl,fun h0=>?_,fun h=>?_⟩
  .obtain⟨iu,aeC,BP⟩:=wB h0
   obtain⟨iu,rfl⟩:∃ j,iu=j+1:=⟨iu - 1,by omega⟩
   have BQ:=AK hb xM
   refine ws ?_;refine J1 ?_
   refine ab (aq ?_)
   refine J6 ?_;refine dG ?_;refine J0 ?_
   refine ab (eX (α:=Nat×Nat)
    (fun k=>⟨ax [(1,.pt (aW p q f)),(4,.rs 1 0 n),(5,.rs 2 0 n),(8,B ((List.range k.1).foldl (de f.blocks) ⟨s0.ws,s0.re,false⟩).ch),(58,fu f.blocks),(59,I n),(60,I k.1)],aX [(1,.cells (bY ((List.range k.1).foldl (de f.blocks) ⟨s0.ws,s0.re,false⟩).ws) 231),(2,.cells (((List.range k.1).foldl (de f.blocks) ⟨s0.ws,s0.re,false⟩).re.map B) 4)],k.2⟩)
    (fun k=>k.1<=n/\3<=k.2) (fun k=>n - k.1) (0,N0) (aE ⟨rfl,rfl,rfl,rfl,rfl,congrArg (fun k:Nat=>I k) hn,rfl,trivial⟩ eH) ⟨Nat.zero_le _,l0⟩ ?_)
   rintro⟨k,N⟩ ⟨hk,hN⟩
   dsimp only at hk hN ⊢
   have bQ:=(DL (J:=fA n) (φ:=mY) (f:=de f.blocks) (l:=List.range k) (fun k _ s hs=>Ho hb hs) (s:=⟨s0.ws,s0.re,false⟩) ⟨xM.lw,xM.lr,xM.jj,xM.rg⟩).1
   have bH:(List.range (k+1)).foldl (de f.blocks) ⟨s0.ws,s0.re,false⟩=de f.blocks ((List.range k).foldl (de f.blocks) ⟨s0.ws,s0.re,false⟩) k:=by rw[List.range_succ,List.foldl_append];rfl
   have gf:k=n->(List.range k).foldl (de f.blocks) ⟨s0.ws,s0.re,false⟩=jn f.blocks s0:=fun e=>by rw[e,jn,hn]
   generalize (List.range k).foldl (de f.blocks) ⟨s0.ws,s0.re,false⟩=u at bQ bH gf
   refine bB ?_
   refine ab ⟨_,rfl,fun h=>?_,fun h=>?_⟩
   .have aj:k<n:=by simpa using h
    have hx:f.blocks[k]? =some f.blocks[k]:=List.getElem?_eq_getElem oG
    have b7:f.blocks[k]∈f.blocks:=List.getElem_mem _
    generalize f.blocks[k]=x at hx b7
    have iy:=hb x b7
    have eJ:de f.blocks u k=if u.re.getD k false=true then(nextR x.fin).foldl (bW x.fin (iz x (u.ws.getD k [])).1) u else u:=by rw[de,hx]
    have lw:=bQ.lw
    have lr:=bQ.lr
    have jj:=bQ.jj
    have hw:u.ws[k]? =some u.ws[k]:=List.getElem?_eq_getElem oG
    have jD:u.re[k]? =some u.re[k]:=List.getElem?_eq_getElem oG
    rw[getD_some hw,getD_some jD] at eJ
    have ll:=jj _ (List.getElem_mem (h:=by omega):u.ws[k]∈u.ws)
    generalize u.ws[k]=w at hw eJ ll
    generalize u.re[k]=b at jD eJ
    have kd:=gn (f:=B) jD
    refine ws ?_;refine J0 ?_;refine l5 ?_;refine ur ?_;refine cE ?_;refine J3 ?_;refine xN ?_
    refine ab (aC (ag ?_))
    refine cL ?_
    refine aF (nq rfl rfl (au oG (au oG rfl)) V.h V.h) ak ⟨V.h,by omega⟩ ?_
    refine aF (ic rfl (au oG (au oG rfl)) kd V.h) ak (ie V.h V.h kd) ?_
    refine cS ?_
    refine ab (bp rfl (fun h=>n5 (tw ?_)) fun h=>b8 (qj XY ?_))
    .have K3:b=false:=by simpa using h
     subst K3
     have eJ:de f.blocks u k=u:=eJ
     refine cr ?_
     refine ab (aK (k+1,N+1) (aE ⟨rfl,rfl,rfl,?_,rfl,rfl,rfl,trivial⟩ ⟨?_,?_,trivial⟩) ⟨by dsimp only;omega,by dsimp only;omega⟩ (by dsimp only;omega))
     .dsimp only;rw[bH,eJ];rfl
     .dsimp only;rw[bH,eJ];exact au oG (au oG rfl)
     .dsimp only;rw[bH,eJ];exact au oG (au oG rfl)
    have Am:b=true:=by simpa using h
    subst Am
    have eJ:de f.blocks u k=(nextR x.fin).foldl (bW x.fin (iz x w).1) u:=eJ
    have mK:=mK ll iy.len iy.ins iy.fin iy.rl iy.rf
    have tU:=Gz x w
    rw[ll] at tU
    generalize CL:iz x w=th at mK tU eJ
    obtain⟨w',K2⟩:=th
    dsimp only at tU mK eJ
    clear kd
    refine aF (eL (vs:=eN _) rfl (up_same _ _ _) V.h V.h rfl) ak (eM V.h V.h (by first|(simp;done)|omega|exact Nat.le_of_ble_eq_true rfl)) ?_
    refine cL ?_
    refine aF (A4 rfl rfl (au oG (au oG (up_same _ _ _))) V.h V.h) ak ⟨V.h,by omega⟩ ?_
    refine aF (eL rfl (au oG (au oG (up_same _ _ _))) V.h V.h (EL (by assumption) (by assumption))) ak (eM V.h V.h (xE (by assumption) (by assumption))) ?_
    refine cl mK ?_;refine j6 ?_;refine JO ?_;refine uu ?_;refine cE ?_;refine Ff ?_;refine J1 ?_
    refine bc (by simp[apartT]) (aJ (lx (l:=[(1,.pt (aW p q f)),(4,.rs 1 0 n),(5,.rs 2 0 n),(8,B u.ch),(10,.rp N 0),(11,.rp (N+1) 0),(58,fu f.blocks),(59,I n),(60,I k)]) (m':=up (up (aX [(1,.cells (bY u.ws) 231),(2,.cells (u.re.map B) 4)]) N (some (.cells (eN x) 72))) (N+1) (some (.cells (w'.map bZ) 231))) eH (by rw[nB,nB])) (aq ?_))
    have tR:=tR (x:=x.fin)
    have tT:=Qx (x:=x.fin) iy.fin.wh
    change PCall _ _ _ (aw (nextR x.fin)) at tT
    have c8:=iy.to
    have j7:=wQ x.fin
    have F5:=iy.fin.wh
    generalize nextR x.fin=l at tT eJ c8 j7
    refine aF (uT rfl (au oG (up_same _ _ _)) V.h) ak (sk V.h) ?_
    refine aF (eL (vs:=aT _) rfl (au oG (up_same _ _ _)) V.h V.h rfl) ak (eM V.h V.h (by first|(simp;done)|omega|exact Nat.le_of_ble_eq_true rfl)) ?_
    refine cl tR ?_;refine cl tT ?_;refine iL ?_;refine J0 ?_
    have sB:de f.blocks u k=l.foldl (bW x.fin w') u:=eJ
    refine ab (eX (α:=Nat×Nat)
     (fun j=>⟨ax [(1,.pt (aW p q f)),(4,.rs 1 0 n),(5,.rs 2 0 n),(8,B ((l.take j.1).foldl (bW x.fin w') u).ch),(10,.rp N 0),(11,.rp (N+1) 0),(58,fu f.blocks),(59,I n),(60,I k),(82,aw l),(83,I l.length),(84,I j.1)],up (up (aX [(1,.cells (bY ((l.take j.1).foldl (bW x.fin w') u).ws) 231),(2,.cells (((l.take j.1).foldl (bW x.fin w') u).re.map B) 4)]) N (some (.cells (eN x) 72))) (N+1) (some (.cells (w'.map bZ) 231)),j.2⟩)
     (fun j=>j.1<=l.length/\N+2<=j.2) (fun j=>l.length - j.1) (0,N+2) (lx eH rfl) ⟨Nat.zero_le _,Nat.le_refl _⟩ ?_)
    rintro⟨j,N'⟩ ⟨hj,F6⟩
    dsimp only at hj F6 ⊢
    have F7:=(DL (J:=fA n) (φ:=mY) (f:=bW x.fin w') (l:=l.take j) (fun t ht s hs=>Dz hs (c8 t (List.mem_of_mem_take ht))) bQ).1
    have dE:∀ t,l[j]? =some t->(l.take (j+1)).foldl (bW x.fin w') u=bW x.fin w' ((l.take j).foldl (bW x.fin w') u) t:=fun t ht=>mf ht
    have nC:j=l.length->(l.take j).foldl (bW x.fin w') u=de f.blocks u k:=fun e=>by rw[sB,List.take_of_length_le oG]
    generalize (l.take j).foldl (bW x.fin w') u=v at F7 dE nC
    clear lw lr jj hw jD
    have lw:=F7.lw
    have lr:=F7.lr
    have jj:=F7.jj
    refine bB ?_
    refine ab ⟨_,rfl,fun h=>?_,fun h=>?_⟩
    .have cD:j<l.length:=by simpa using h
     have ht:l[j]? =some l[j]:=List.getElem?_eq_getElem cD
     have mZ:=c8 _ (List.getElem_mem cD)
     generalize l[j]=t at ht mZ
     obtain⟨i,rfl⟩:=Int.eq_ofNat_of_zero_le mZ.1
     have bk:i<n:=by omega
     have hw:v.ws[i]? =some v.ws[i]:=List.getElem?_eq_getElem oG
     have jD:v.re[i]? =some v.re[i]:=List.getElem?_eq_getElem oG
     have K4:=jj _ (List.getElem_mem (h:=by omega):v.ws[i]∈v.ws)
     generalize v.ws[i]=y at hw K4
     generalize v.re[i]=b at jD
     have kd:=gn (f:=B) jD
     have vM:=vM (x:=x.fin) (b:=(i:Int)) (w:=w') tU (by have:=iy.fin.wh;omega) (by have:=iy.fin.wr;omega)
     have wC:=MJ x.fin i w'
     rw[tU] at wC
     have E4:=E4 K4 wC
     have tZ:=MN y (fQ x.fin i w')
     rw[K4] at tZ
     have yes:=XE (x:=x.fin) (w:=w') hw jD
     have no:=XX (x:=x.fin) (w:=w') hw jD
     generalize gz y (fQ x.fin i w')=z at E4 tZ yes no
     refine ws ?_;refine o4 ?_;refine J3 ?_
     refine ab (qj XZ ?_)
     refine cL ?_
     refine aF (A4 rfl rfl (au oG (au oG (up_same _ _ _))) V.h V.h) ak ⟨V.h,by omega⟩ ?_
     refine aF (eL rfl (au oG (au oG (up_same _ _ _))) V.h V.h (EL (by assumption) (by assumption))) ak (eM V.h V.h (xE (by assumption) (by assumption))) ?_
     refine aF (uT rfl (au oG (up_same _ _ _)) V.h) ak (sk V.h) ?_
     refine aF (eL (vs:=aT _) rfl (au oG (up_same _ _ _)) V.h V.h rfl) ak (eM V.h V.h (by first|(simp;done)|omega|exact Nat.le_of_ble_eq_true rfl)) ?_
     refine J0 ?_
     refine aF (eL rfl (up_same _ _ _) V.h V.h (lO (by first|rfl|exact Nat.le_of_ble_eq_true rfl|(simp;done)|(simp;omega)|omega))) ak (eM V.h V.h (by first|rfl|exact Nat.le_of_ble_eq_true rfl|(simp;done)|(simp;omega)|omega)) ?_
     refine cl vM ?_;refine cl E4 ?_;refine cE ?_;refine Ff ?_
     refine bc (by simp[apartT]) (aJ (lx (l:=[(1,.pt (aW p q f)),(4,.rs 1 0 n),(5,.rs 2 0 n),(8,B v.ch),(10,.rp N 0),(11,.rp (N+1) 0),(14,I i),(15,.rp N' 0),(58,fu f.blocks),(59,I n),(60,I k),(82,aw l),(83,I l.length),(84,I j)]) (m':=up (up (up (aX [(1,.cells (bY v.ws) 231),(2,.cells (v.re.map B) 4)]) N (some (.cells (eN x) 72))) (N+1) (some (.cells (w'.map bZ) 231))) N' (some (.cells (z.map bZ) 231))) eH (nB _ _ _ _)) (dP X0 ?_))
     refine cL ?_
     refine aF (nq rfl rfl (au oG (au oG (au oG rfl))) V.h V.h) ak ⟨V.h,by omega⟩ ?_
     refine aF (ic rfl (au oG (au oG (au oG rfl))) kd V.h) ak (ie V.h V.h kd) ?_
     refine cS ?_;refine J2 ?_
     refine bl rfl rfl (eL rfl (up_same _ _ _) V.h V.h (lO (by first|rfl|exact Nat.le_of_ble_eq_true rfl|(simp;done)|(simp;omega)|omega))) (fun hc=>⟨ak,(eM V.h V.h (by first|rfl|exact Nat.le_of_ble_eq_true rfl|(simp;done)|(simp;omega)|omega))⟩) ?_
     refine B2 ?_;refine br ?_
     refine bl rfl rfl (A4 rfl rfl (au oG (au oG (au oG (up_same _ _ _)))) V.h V.h) (fun hc=>⟨ak,⟨V.h,by omega⟩⟩) ?_
     refine bl rfl rfl (eL rfl (au oG (au oG (au oG (up_same _ _ _)))) V.h V.h (EL (by assumption) (by assumption))) (fun hc=>⟨ak,(eM V.h V.h (xE (by assumption) (by assumption)))⟩) ?_
     refine bl rfl rfl (aex rfl rfl (by first|assumption|(simp;omega)|omega)) (fun hc=>⟨ak,(aey (by first|assumption|(simp;omega)|omega))⟩) ?_
     refine J9 ?_
     refine bc (by simp[apartT]) (al rfl (fun h=>?_) fun h=>?_)
     .have yes:=yes (by
       cases b with
       |false=>exact .inl rfl
       |true=>exact .inr (by simpa using h))
      have dE:=(dE _ ht).trans yes
      clear yes no
      refine eO ?_
      refine cL ?_;refine cL ?_
      refine aF (eL rfl (up_same _ _ _) V.h V.h (lO (by first|rfl|exact Nat.le_of_ble_eq_true rfl|(simp;done)|(simp;omega)|omega))) ak (eM V.h V.h (by first|rfl|exact Nat.le_of_ble_eq_true rfl|(simp;done)|(simp;omega)|omega)) ?_
      refine aF (A4 rfl rfl (au oG (au oG (au oG (up_same _ _ _)))) V.h V.h) ak ⟨V.h,by omega⟩ ?_
      refine cK (gT rfl rfl (au oG (au oG (au oG (up_same _ _ _)))) (SK (by decide) (by assumption) (by assumption) (by first|assumption|(simp;omega)|(simp;done)))) ak (AU (by first|(simp;omega)|(simp;done)) (xE (by assumption) (by assumption)) (iG _)) ?_
      refine aF (nq rfl rfl (au oG (au oG (au oG (au oG rfl)))) V.h V.h) ak ⟨V.h,by omega⟩ ?_
      refine cK (iN (d:=.s (.bool _)) (cs':=_) rfl rfl (au oG (au oG (au oG (au oG rfl)))) rfl rfl) ak (dU V.h V.h (by first|(simp;done)|exact⟨rfl,Nat.le_of_ble_eq_true rfl⟩|(simp;omega)) rfl) ?_
      refine J1 ?_
      refine ab ?_
      refine cr ?_
      refine ab (aK (j+1,N'+1) (aE (ml:=[(N+1,.cells (w'.map bZ) 231),(N,.cells (eN x) 72),(1,.cells (bY ((l.take (j+1)).foldl (bW x.fin w') u).ws) 231),(2,.cells (((l.take (j+1)).foldl (bW x.fin w') u).re.map B) 4)]) ⟨rfl,rfl,rfl,?_,rfl,rfl,rfl,rfl,rfl,rfl,rfl,rfl,trivial⟩
       ⟨au oG (au oG (au oG (up_same _ _ _))),au oG (au oG (au oG (au oG (up_same _ _ _)))),au oG ?_,?_,trivial⟩) ⟨by dsimp only;omega,by dsimp only;omega⟩ (by dsimp only;omega))
      .dsimp only;rw[dE];rfl
      .rw[dE];exact up_same _ _ _
      .rw[dE];dsimp only;rw[List.map_set];exact up_same _ _ _
     .have no:=no (by
       cases b with
       |false=>simp at h
       |true=>simpa using h)
      have dE:=(dE _ ht).trans no
      refine cx ?_
      refine cr ?_
      refine ab (aK (j+1,N'+1) (aE (ml:=[(N+1,.cells (w'.map bZ) 231),(N,.cells (eN x) 72),(1,.cells (bY ((l.take (j+1)).foldl (bW x.fin w') u).ws) 231),(2,.cells (((l.take (j+1)).foldl (bW x.fin w') u).re.map B) 4)]) ⟨rfl,rfl,rfl,?_,rfl,rfl,rfl,rfl,rfl,rfl,rfl,rfl,trivial⟩
       ⟨au oG (up_same _ _ _),au oG (au oG (up_same _ _ _)),?_,?_,trivial⟩) ⟨by dsimp only;omega,by dsimp only;omega⟩ (by dsimp only;omega))
      .dsimp only;rw[dE];rfl
      .rw[dE];exact au oG (au oG (au oG rfl))
      .rw[dE];exact au oG (au oG (au oG rfl))
    .have aZ:¬ j<l.length:=by simpa using h
     have vl:=nC oG
     subst vl
     show AOps _ _ _ _ _ _ _ _ _
     refine cr ?_
     refine ab (aK (k+1,N') (aE ⟨rfl,rfl,rfl,?_,rfl,rfl,rfl,trivial⟩ ⟨?_,?_,trivial⟩) ⟨by dsimp only;omega,by dsimp only;omega⟩ (by dsimp only;omega))
     .dsimp only;rw[bH];rfl
     .dsimp only;rw[bH];exact au oG (au oG rfl)
     .dsimp only;rw[bH];exact au oG (au oG rfl)
   .have aZ:¬ k<n:=by simpa using h
    have hl:=gf oG
    subst hl
    refine aK (jn f.blocks s0,N) (aE eH eH) ⟨bQ,hN,fun hc=>?_,fun hc=>?_⟩ ?_
    .refine⟨iu,?_,?_⟩
     .have:=BQ.2
      unfold mY at this
      show o6 (jn f.blocks s0)<iu
      rw[if_pos hc] at this
      omega
     .dsimp only at hc ⊢
      rw[<- BP,ly,if_pos hc]
    .dsimp only at hc ⊢
     rw[<- BP,ly,if_neg (by simp[hc])]
    .have:=BQ.2
     unfold mY at this
     dsimp only
     rw[if_pos h0]
     split at this<;>rename_i hc
     .rw[if_pos hc];omega
     .rw[if_neg hc];omega
  .have K5:=vO h
   subst K5
   exact⟨N0,aE eH eH,xM⟩
 .rintro s ⟨n',hg,JP⟩
  refine⟨_,hg,aq ?_⟩
  refine bT ?_;refine bT ?_;refine bJ ?_;refine bJ ?_
  refine ab (aJ (bg [(1,bY R.ws,231),(2,R.re.map B,4)] ⟨rfl,HU oG rfl .map,trivial⟩ (l:=[(2,.sl (bY R.ws) n),(3,.sl (R.re.map B) n)]) ⟨?_,?_,trivial⟩) (kM rfl rfl rfl))
  .show sub (fz0 2 (R.re.map B) (prog.cellsOf 4)) (sub (fz0 1 (bY R.ws) (prog.cellsOf 231)) (D.rs 1 0 n))=_
   rw[mh (by rw[qV,G0 JP.jj,JP.lw]),ab4]
  .show sub (fz0 2 (R.re.map B) (prog.cellsOf 4)) (sub (fz0 1 (bY R.ws) (prog.cellsOf 231)) (D.rs 2 0 n))=_
   rw[DK oG,mh (by rw[c4,List.length_map,JP.lr,Nat.mul_one])]
end Go.Proofs.Tryz.K
namespace Go.Abs
def jc(r:Nat)(l:List D):D:=match l with
 |[]=>.z
 |_=>.rs r 0 l.length
theorem nD{r:Nat}{l:List D}(h:l≠[]):jc r l=.rs r 0 l.length:=by cases l with
 |nil=>exact absurd rfl h
 |cons=>rfl
def iw(ρ:Nat->Nat)(L:Nat->List D)(n:Nat):List D:=(List.range n).map fun i=>jc (ρ i) (L i)
@[simp] theorem aqx (ρ : Nat -> Nat) (L : Nat -> List D) (n : Nat) : (iw ρ L n).length = n := by simp [iw]
theorem DZ{ρ:Nat->Nat}{L:Nat->List D}{n i:Nat}(hi:i<n):∃ cs,(iw ρ L n).drop i=jc (ρ i) (L i)::cs:=
 ⟨_,gn (f:=fun i=>jc (ρ i) (L i)) (by simp[hi])⟩
theorem G1{α:Type}{F:Nat->α}{n i:Nat}{x:α}:((List.range n).map F).set i x=(List.range n).map (up F i x):=by
 apply List.ext_getElem?
 intro k
 rw[List.getElem?_set]
 simp only[List.length_map,List.length_range,List.getElem?_map]
 split
 .rename_i e;subst e
  split
  .rename_i h;simp[h,up_same]
  .rename_i h;simp[h]
 .rename_i e
  by_cases hk:k<n
  .simp[hk,up_ne F x (Ne.symm e)]
  .simp[hk]
theorem aa7{ρ:Nat->Nat}{L:Nat->List D}{n i r:Nat}{l:List D}(hl:l≠[]):(iw ρ L n).set i (.rs r 0 l.length)=iw (up ρ i r) (up L i l) n:=by
 unfold iw
 rw[G1]
 refine congrArg (fun F=>(List.range n).map F) (funext fun k=>?_)
 simp only[up]
 split
 .rw[nD hl]
 .rfl
structure dH(m:Mem)(nx j n:Nat)(e et:TypeId)(ρ:Nat->Nat)(L:Nat->List D):Prop where
 row:m j=some (.cells (iw ρ L n) e)
 nU:j<nx
 pT:∀ i,i<n->L i≠[]->m (ρ i)=some (.cells (L i) et)
 lt:∀ i,i<n->L i≠[]->ρ i<nx
 ne:∀ i,i<n->L i≠[]->ρ i≠j
 inj:∀ i k,i<n->k<n->L i≠[]->L k≠[]->ρ i=ρ k->i=k
theorem dH.ext{m m':Mem}{nx nx' j n:Nat}{e et:TypeId}{ρ:Nat->Nat}{L:Nat->List D}(h:dH m nx j n e et ρ L)(hm:∀ q,q<nx->m' q=m q)(hn:nx<=nx'):dH m' nx' j n e et ρ L:=
 ⟨(hm j h.nU).trans h.row,Nat.lt_of_lt_of_le h.nU hn,fun i hi hl=>(hm _ (h.lt i hi hl)).trans (h.pT i hi hl),fun i hi hl=>Nat.lt_of_lt_of_le (h.lt i hi hl) hn,h.ne,h.inj⟩
theorem dH.jk{m m':Mem}{nx nx' j n i r:Nat}{e et:TypeId}{ρ:Nat->Nat}{L:Nat->List D}{l:List D}(h:dH m nx j n e et ρ L)(hi:i<n)(hl:l≠[])(hr:nx<=r)(hD:r<nx')
 (hj:m' j=some (.cells ((iw ρ L n).set i (.rs r 0 l.length)) e)) (av:m' r=some (.cells l et)) (hk:∀ q,q<nx->q≠j->(L i≠[]->q≠ρ i)->m' q=m q):dH m' nx' j n e et (up ρ i r) (up L i l):=by
 have cD:=h.nU
 have m7:∀ k,k<n->k≠i->L k≠[]->m' (ρ k)=some (.cells (L k) et):=fun k hU qb aA=>
  (hk _ (h.lt k hU aA) (h.ne k hU aA) fun BV e=>qb (h.inj k i hU hi aA BV e)).trans (h.pT k hU aA)
 refine⟨by rw[hj,aa7 hl],by omega,fun k hU aA=>?_,fun k hU aA=>?_,fun k hU aA=>?_,fun a b ha hb nV o9 dD=>?_⟩
 .by_cases qb:k=i
  .subst qb;rw[up_same,up_same];exact av
  .rw[up_ne _ _ qb] at aA ⊢
   rw[up_ne _ _ qb];exact m7 k hU qb aA
 .by_cases qb:k=i
  .subst qb;rw[up_same];exact hD
  .rw[up_ne _ _ qb] at aA ⊢
   have:=h.lt k hU aA;omega
 .by_cases qb:k=i
  .subst qb;rw[up_same];omega
  .rw[up_ne _ _ qb] at aA ⊢
   exact h.ne k hU aA
 .by_cases wD:a=i
  .by_cases nW:b=i
   .omega
   .subst wD
    rw[up_same,up_ne _ _ nW] at dD
    rw[up_ne _ _ nW] at o9
    have:=h.lt b hb o9;omega
  .by_cases nW:b=i
   .subst nW
    rw[up_same,up_ne _ _ wD] at dD
    rw[up_ne _ _ wD] at nV
    have:=h.lt a ha nV;omega
   .rw[up_ne _ _ wD] at nV dD
    rw[up_ne _ _ nW] at o9 dD
    exact h.inj a b ha hb nV o9 dD
theorem Hp{m:Mem}{nx j n:Nat}{e et:TypeId}{ρ:Nat->Nat}(hj:j<nx)(hm:m j=some (.cells (List.replicate n .z) e)):dH m nx j n e et ρ (fun _=>[]):=by
 refine⟨?_,hj,fun _ _ h=>absurd rfl h,fun _ _ h=>absurd rfl h,fun _ _ h=>absurd rfl h,fun _ _ _ _ h=>absurd rfl h⟩
 rw[hm]
 congr 2
 unfold iw jc
 rw[List.map_const',List.length_range]
theorem Ed(n:Nat):replD n [.z]=List.replicate n D.z:=by
 unfold replD
 induction n with
 |zero=>rfl
 |succ n ih=>rw[List.replicate_succ,List.replicate_succ,List.flatten_cons,ih];rfl
def kP(X:Nat->Prop)(d:D):Prop:=∀ i cs sz,X i->sub (fz0 i cs sz) d=d
def lJ(X:Nat->Prop)(r:Row):Prop:=∀ i cs sz,X i->Row.sub (fz0 i cs sz) r=r
theorem kP.s{X:Nat->Prop}(v:Value):kP X (.s v):=fun _ _ _ _=>rfl
theorem kP.sl{X:Nat->Prop}(es:List D)(n:Nat):kP X (.sl es n):=fun _ _ _ _=>rfl
theorem kP.z{X:Nat->Prop}:kP X .z:=fun _ _ _ _=>rfl
theorem kP.u{X:Nat->Prop}:kP X .u:=fun _ _ _ _=>rfl
theorem kP.rs{X:Nat->Prop}{j off n:Nat}(h:¬ X j):kP X (.rs j off n):=fun i cs sz hi=>DK fun e=>h (e▸hi)
theorem kP.rp{X:Nat->Prop}{j off:Nat}(h:¬ X j):kP X (.rp j off):=fun i cs sz hi=>by
 show(if j=i then _ else D.rp j off)=_
 exact if_neg fun(e:j=i)=>h (e▸hi)
theorem lJ.cells{X:Nat->Prop}{cs:List D}{e:TypeId}(h:∀ d∈cs,kP X d):lJ X (.cells cs e):=fun i j5 sz hi=>by
 show Row.cells (cs.map _) e=_
 congr 1
 induction cs with
 |nil=>rfl
 |cons d cs ih=>rw[List.map_cons,h d (by simp) i j5 sz hi,ih fun d hd=>h d (by simp[hd])]
theorem lJ.Uz{X:Nat->Prop}{cs:List D}{e:TypeId}(h:vN cs):lJ X (.cells cs e):=lJ.cells fun d hd=>by obtain⟨v,rfl⟩:=h d hd;exact .s v
theorem HV(d:D):Wk d d:=fun _ _ _ _ h=>h
theorem akq:Wk .z (.sl [] 0):=fun F β w v hv=>by
 obtain⟨x,rfl⟩:=hv.z_inv
 exact .sln x 0
theorem X1{X:Nat->Prop}{l:List (Nat×D)}(h:∀ x∈l,kP X x.2)(t:Nat):kP X (ax l t):=by
 induction l with
 |nil=>exact .u
 |cons x l ih=>
  obtain⟨k,d⟩:=x
  simp only[ax]
  split
  .exact h (k,d) (by simp)
  .exact ih fun y hy=>h y (by simp[hy])
theorem X2{X:Nat->Prop}{l:List (Nat×Row)}(h:∀ x∈l,lJ X x.2){q:Nat}{r:Row}(hq:aX l q=some r):lJ X r:=by
 induction l with
 |nil=>simp[aX] at hq
 |cons x l ih=>
  obtain⟨k,d⟩:=x
  simp only[aX] at hq
  split at hq
  .cases hq;exact h (k,r) (by simp)
  .exact ih (fun y hy=>h y (by simp[hy])) hq
theorem YP{l:List (Nat×Row)}{q:Nat}(h:∀ x∈l,x.1≠q):aX l q=none:=by
 induction l with
 |nil=>rfl
 |cons x l ih=>
  obtain⟨k,d⟩:=x
  simp only[aX]
  rw[if_neg fun e=>h (k,d) (by simp) e.symm]
  exact ih fun y hy=>h y (by simp[hy])
section
variable{P:Program}
open Classical in
noncomputable def jw(ml:List (Nat×Row))(j n k:Nat)(e et:TypeId)(ρ:Nat->Nat)(L:Nat->List D):Mem:=fun q=>
 if q=j then some (.cells ((List.range n).map fun i=>if i<k then .sl (L i) (L i).length else jc (ρ i) (L i)) e)
 else if h:∃ i,k<=i/\i<n/\L i≠[]/\ρ i=q then some (.cells (L (Classical.choose h)) et)
 else aX ml q
theorem Z1{m:Mem}{nx j n k:Nat}{e et:TypeId}{ρ:Nat->Nat}{L:Nat->List D}{l:List (Nat×D)}{ml:List (Nat×Row)}{X:Nat->Prop}(h:dH m nx j n e et ρ L)(hs:∀ i,vN (L i))(het:P.cellsOf et=1)
 (hX:∀ i,i<n->L i≠[]->X (ρ i)) (nX:¬ X j) (hl:∀ x∈l,kP X x.2) (rz:∀ x∈ml,lJ X x.2/\¬ X x.1) (hk:k<n):
 Ghost P ⟨ax l,jw ml j n k e et ρ L,nx⟩ ⟨ax l,jw ml j n (k+1) e et ρ L,nx⟩:=by
 by_cases aA:L k=[]
 .refine .weak _ _ _ _ _ (fun t=>HV _) fun q=>?_
  by_cases hq:q=j
  .subst hq
   right
   refine⟨_,_,e,by simp only[jw,if_true];rfl,by simp only[jw,if_true];rfl,by simp,fun i d d' hd q9=>?_⟩
   simp only[List.getElem?_map,Option.map_eq_some_iff] at hd q9
   obtain⟨a,ha,rfl⟩:=hd
   obtain⟨b,hb,rfl⟩:=q9
   rw[ha] at hb;cases hb
   by_cases h1:a<k
   .rw[if_pos h1,if_pos oG];exact HV _
   .rw[if_neg h1]
    by_cases h2:a=k
    .subst h2
     rw[if_pos oG,aA];exact akq
    .rw[if_neg oG];exact HV _
  .left
   simp only[jw,if_neg hq]
   have:(∃ i,k+1<=i/\i<n/\L i≠[]/\ρ i=q)↔(∃ i,k<=i/\i<n/\L i≠[]/\ρ i=q):=by
    constructor
    .rintro⟨i,h1,h2⟩;exact⟨i,by omega,h2⟩
    .rintro⟨i,h1,h2,h3,h4⟩
     exact⟨i,by
      rcases Nat.lt_or_ge k i with g|g
      .exact g
      .have:i=k:=by omega
       subst this;exact absurd aA h3,h2,h3,h4⟩
   by_cases hc:∃ i,k<=i/\i<n/\L i≠[]/\ρ i=q
   .rw[dif_pos (this.2 hc),dif_pos hc]
    have e1:=Classical.choose_spec hc
    have e2:=Classical.choose_spec (this.2 hc)
    have:Classical.choose (this.2 hc)=Classical.choose hc:=h.inj _ _ e2.2.1 e1.2.1 e2.2.2.1 e1.2.2.1 (e2.2.2.2.trans e1.2.2.2.symm)
    rw[this]
   .rw[dif_neg (fun h=>hc (this.1 h)),dif_neg hc]
 .have V5:ρ k≠j:=h.ne k hk aA
  have av:jw ml j n k e et ρ L (ρ k)=some (.cells (L k) et):=by
   have hc:∃ i,k<=i/\i<n/\L i≠[]/\ρ i=ρ k:=⟨k,Nat.le_refl _,hk,aA,rfl⟩
   simp only[jw,if_neg V5,dif_pos hc]
   have e1:=Classical.choose_spec hc
   have:Classical.choose hc=k:=h.inj _ _ e1.2.1 hk e1.2.2.1 aA e1.2.2.2
   rw[this]
  have hg:=Ghost.freeze (P:=P) (ax l) (jw ml j n k e et ρ L) nx (ρ k) (L k) et av
  have e1:(fun t=>sub (fz0 (ρ k) (L k) (P.cellsOf et)) (ax l t))=ax l:=funext fun t=>X1 hl t _ _ _ (hX k hk aA)
  have e2:(fun q=>if q=ρ k then none else(jw ml j n k e et ρ L q).map (Row.sub (fz0 (ρ k) (L k) (P.cellsOf et))))=jw ml j n (k+1) e et ρ L:=by
   funext q
   by_cases yu:q=ρ k
   .subst yu
    rw[if_pos rfl]
    have hc:¬ ∃ i,k+1<=i/\i<n/\L i≠[]/\ρ i=ρ k:=by
     rintro⟨i,g1,g2,g3,g4⟩
     have:=h.inj _ _ g2 hk g3 aA g4
     omega
    simp only[jw,if_neg V5,dif_neg hc]
    exact(YP fun x hx e=>(rz x hx).2 (e▸hX k hk aA)).symm
   .rw[if_neg yu]
    by_cases qc:q=j
    .subst qc
     simp only[jw,if_true,Option.map_some]
     congr 1
     show Row.cells (List.map _ (List.map _ _)) e=_
     rw[List.map_map]
     congr 1
     refine List.map_congr_left fun i hi=>?_
     have bk:i<n:=by simpa using hi
     simp only[Function.comp_apply]
     by_cases h1:i<k
     .rw[if_pos h1,if_pos oG];rfl
     .rw[if_neg h1]
      by_cases h2:i=k
      .subst h2
       rw[if_pos oG,nD aA,het]
       exact mh oG
      .rw[if_neg oG]
       by_cases h3:L i=[]
       .rw[h3];rfl
       .rw[nD h3]
        exact DK fun e=>h2 (h.inj _ _ bk hk h3 aA e)
    .simp only[jw,if_neg qc]
     have this:(∃ i,k+1<=i/\i<n/\L i≠[]/\ρ i=q)↔(∃ i,k<=i/\i<n/\L i≠[]/\ρ i=q):=by
      constructor
      .rintro⟨i,h1,h2⟩;exact⟨i,by omega,h2⟩
      .rintro⟨i,h1,h2,h3,h4⟩
       exact⟨i,by
        rcases Nat.lt_or_ge k i with g|g
        .exact g
        .have:i=k:=by omega
         subst this;exact absurd h4.symm yu,h2,h3,h4⟩
     by_cases hc:∃ i,k<=i/\i<n/\L i≠[]/\ρ i=q
     .rw[dif_pos (this.2 hc),dif_pos hc]
      have e1:=Classical.choose_spec hc
      have e2:=Classical.choose_spec (this.2 hc)
      have:Classical.choose (this.2 hc)=Classical.choose hc:=h.inj _ _ e2.2.1 e1.2.1 e2.2.2.1 e1.2.2.1 (e2.2.2.2.trans e1.2.2.2.symm)
      rw[this]
      exact congrArg some (lJ.Uz (X:=X) (hs _) _ _ _ (hX k hk aA))
     .rw[dif_neg (fun h=>hc (this.1 h)),dif_neg hc]
      cases hm:aX ml q with
      |none=>rfl
      |some r=>exact congrArg some (X2 (fun x hx=>(rz x hx).1) hm _ _ _ (hX k hk aA))
  rw[e1,e2] at hg
  exact hg
theorem DM{env:Env}{m:Mem}{nx j n:Nat}{e et:TypeId}{ρ:Nat->Nat}{L:Nat->List D}{l:List (Nat×D)}{ml:List (Nat×Row)}(X:Nat->Prop)(h:dH m nx j n e et ρ L)(hs:∀ i,vN (L i))(het:P.cellsOf et=1)
 (hX:∀ i,i<n->L i≠[]->X (ρ i)) (nX:¬ X j) (he:mz l env) (hl:∀ x∈l,kP X x.2) (hm:BA ml m) (rz:∀ x∈ml,lJ X x.2/\¬ X x.1):
 Ghost P ⟨env,m,nx⟩ ⟨ax l,aX ((j,.cells ((List.range n).map fun i=>.sl (L i) (L i).length) e)::ml),nx⟩:=by
 have key:∀ k,k<=n->Ghost P ⟨ax l,jw ml j n 0 e et ρ L,nx⟩ ⟨ax l,jw ml j n k e et ρ L,nx⟩:=fun k=>by
  induction k with
  |zero=>exact fun _=>.refl _
  |succ k ih=>exact fun hk=>(ih oG).trans (Z1 h hs het hX nX hl rz oG)
 have h0:Ghost P ⟨env,m,nx⟩ ⟨ax l,jw ml j n 0 e et ρ L,nx⟩:=by
  refine(Ghost.forget env _ m nx (n7 he)).trans (.drop _ _ _ _ fun q=>?_)
  by_cases hq:q=j
  .subst hq
   left
   simp only[jw,if_true,Nat.not_lt_zero,if_false]
   exact h.row.symm
  .simp only[jw,if_neg hq]
   by_cases hc:∃ i,0<=i/\i<n/\L i≠[]/\ρ i=q
   .rw[dif_pos hc]
    have e1:=Classical.choose_spec hc
    left
    have:=h.pT _ e1.2.1 e1.2.2.1
    rw[e1.2.2.2] at this
    exact this.symm
   .rw[dif_neg hc]
    exact HP hm q
 refine h0.trans ((key n (Nat.le_refl _)).trans (.drop _ _ _ _ fun q=>.inl ?_))
 by_cases hq:q=j
 .subst hq
  simp only[aX,jw,if_true]
  congr 2
  exact List.map_congr_left fun i hi=>by rw[if_pos (by simpa using hi)]
 .simp only[aX,if_neg hq,jw]
  rw[dif_neg]
  rintro⟨i,g1,g2,_⟩
  omega
end
section
variable{P:Program}{env:Env}{m:Mem}{nx:Nat}{x y:Operand}{t e:TypeId}{k:IntKind}
theorem Z2{w:List Int}{rest:List D}{sz:Nat}(h:w.length=sz):(w.map bZ++rest).take sz=w.map bZ:=by
 rw[List.take_append_of_le_length (by simp[h]),List.take_of_length_le (by simp[h])]
theorem ab5{sz n i:Nat}{l:List (List Int)}{w:List Int}(hx:(opd env x).core=.sl (bY l) n)(hy:(opd env y).core=.s (.int k i))(he:elemP P t=e)(hs:P.cellsOf e=sz)(hl:∀ w∈l,w.length=sz)(hz:l[i]? =some w):
 Ef P (.indexAddr t x y) env m nx ⟨slT P t=true/\0<=(i:Int)/\(i:Int)<n/\((i:Int).toNat+1)*sz<=(bY l).length,.pt (w.map bZ++bY (l.drop (i+1))),[],[],0⟩:=
 IG hx hy he hs (by rw[Int.toNat_natCast];exact HS hl hz)
theorem ab6{sz n i:Nat}{l:List (List Int)}{w:List Int}(ht:slT P t=true)(hl:∀ w∈l,w.length=sz)(hz:l[i]? =some w)(hn:i<n):slT P t=true/\0<=(i:Int)/\(i:Int)<n/\((i:Int).toNat+1)*sz<=(bY l).length:=by
 have:=xE hl hz
 refine⟨ht,by omega,by omega,?_⟩
 rw[Int.toNat_natCast,Nat.add_mul,Nat.one_mul];exact this
theorem rV{i:Nat}{cs:List D}{l:List (Nat×D)}(hm:m i=some (.cells cs e))(hl:mz l fun t=>sub (fz0 i cs (P.cellsOf e)) (env t)):Ghost P ⟨env,m,nx⟩ ⟨ax l,fun _=>none,nx⟩:=
 bg [(i,cs,e)] ⟨hm,trivial⟩ hl
theorem fN{l:List (Nat×D)}(hl:mz l env):Ghost P ⟨env,m,nx⟩ ⟨ax l,fun _=>none,nx⟩:=NC hl fun _=>.inr rfl
end
section
variable{P:Program}{env:Env}{m:Mem}{nx:Nat}{x y:Operand}{t e:TypeId}{k:IntKind}
theorem Z4{α:Type}{f:α->D}{l:List α}{b:Int}(hx:(opd env x).core=.sl (l.map f) l.length)(he:elemP P t=e)(hs:P.cellsOf e=1)(hb:(opd env y).core=.s (.int .i64 b))(hc:slT P t=true)(lX:0<=b/\b<=l.length):
 Ef P (.slice t x none (some y) none) env m nx ⟨True,.sl ((l.take b.toNat).map f) (l.take b.toNat).length,[],[],0⟩:=by
 have h:=wZ (P:=P) (env:=env) (m:=m) (nx:=nx) (t:=t) (lo:=none) (hi:=some y) (a:=0) (b:=b) (es':=(l.take b.toNat).map f) hx he hs (by simp[bndD]) (by simp[bndD,hb,D.int?]) (by simp[List.map_take])
 have h2:(slT P t=true/\(0:Int)<=0/\(0:Int)<=b/\b<=(l.length:Int))=True:=by
  apply propext;constructor
  .exact fun _=>trivial
  .exact fun _=>⟨hc,by omega,lX.1,lX.2⟩
 have h3:(b - 0).toNat=(l.take b.toNat).length:=by rw[List.length_take];omega
 rw[h2,h3] at h
 exact h
theorem wV{i j sz:Nat}{j5:List D}{r:Row}(cB:j≠i)(hm:m j=some r)(h:Row.sub (fz0 i j5 sz) r=r):(if j=i then none else(m j).map (Row.sub (fz0 i j5 sz)))=some r:=by
 rw[if_neg cB,hm];exact congrArg some h
theorem nh{i:Nat}{cs:List D}{l:List (Nat×D)}{ml:List (Nat×Row)}(hm:m i=some (.cells cs e))(hl:mz l fun t=>sub (fz0 i cs (P.cellsOf e)) (env t))(rz:BA ml fun j=>if j=i then none else(m j).map (Row.sub (fz0 i cs (P.cellsOf e)))):Ghost P ⟨env,m,nx⟩ ⟨ax l,aX ml,nx⟩:=
 (Ghost.freeze env m nx i cs e hm).trans (aE hl rz)
end
end Go.Abs
namespace Go.Argus
open Go.Proofs.Tryz.K (nextR)
def cU(b:Nat)(L:Nat->List Int)(t:Int):Nat->List Int:=up L t.toNat (L t.toNat++[(b:Int)])
def og(bs:List bw)(L:Nat->List Int)(b:Nat):Nat->List Int:=match bs[b]? with
 |none=>L
 |some x=>(nextR x.fin).foldl (cU b) L
def bf(bs:List bw)(k:Nat):Nat->List Int:=(List.range k).foldl (og bs) fun _=>[]
def dJ(bs:List bw):List (List Int):=(List.range bs.length).map (bf bs bs.length)
def bC(L:List (List Int)):D:=.sl (L.map aw) L.length
theorem yQ(L:List (List Int)):Tr (bC L):=.sl (.map fun _=>cN _)
theorem Hq{F:Nat->List Int}{n:Nat}:(D.sl ((List.range n).map fun i=>.sl ((F i).map I) ((F i).map I).length) n)=bC ((List.range n).map F):=by
 unfold bC
 rw[List.map_map,List.length_map,List.length_range]
 congr 1
 exact List.map_congr_left fun i _=>by simp[aw]
theorem DA{b:Nat}{L:Nat->List Int}{t:Int}{c:Nat}(h:∀ i,(L i).length<=c):∀ i,(cU b L t i).length<=c+1:=fun i=>by
 unfold cU
 simp only[up]
 split
 .have:=h t.toNat;simp;omega
 .have:=h i;omega
theorem Ig{L:Nat->List Int}{k:Nat}{l:List Int}:(fun i=>(up L k l i).map I)=up (fun i=>(L i).map I) k (l.map I):=by
 funext i;simp only[up];split<;>rfl
theorem ng{P:Nat->Bool}{n k:Nat}(hk:k<n)(h:P k=false):(List.range n).all P=false:=by
 refine Bool.eq_false_iff.2 fun ht=>?_
 have:=List.all_eq_true.1 ht k (by simpa using hk)
 rw[h] at this;cases this
theorem j9{P:Nat->Bool}{k:Nat}(h:(List.range k).all P=true)(hk:P k=true):(List.range (k+1)).all P=true:=by
 rw[List.range_succ,List.all_append,h];simp[hk]
abbrev cA(l:List Bool):D:=.sl (l.map B) l.length
def iV:bw:=⟨[],⟨0,0,0,0,0,.empty,dx,[],[],0⟩⟩
def rX(bs:List bw)(s:CS)(b:Nat)(y:a8)(i:Nat):Bool:=
 let p:=((bf bs bs.length b).getD i 0).toNat
 !(s.re.getD p false)||la (fQ (bs.getD p iV).fin b (iz (bs.getD p iV) (s.ws.getD p [])).1) (y.args.getD i 0).toNat
def tD(bs:List bw)(s:CS)(b:Nat)(y:a8):Bool:=(List.range (bf bs bs.length b).length).all (rX bs s b y)
def bE(y:a8):Bool:=y.op==19
def qn(bs:List bw)(s:CS)(b:Nat):Bool:=
 !(s.re.getD b false)||((iz (bs.getD b iV) (s.ws.getD b [])).2&&((bs.getD b iV).ins.takeWhile bE).all (tD bs s b))
def uV(bs:List bw)(args:Nat):Bool:=(List.range bs.length).all (qn bs (gJ bs args))
theorem takeWhile_eq{α:Type}{p:α->Bool}{l:List α}{j:Nat}(h:∀ y∈l.take j,p y=true)(h':∀ y,l[j]? =some y->p y=false):l.takeWhile p=l.take j:=by
 induction l generalizing j with
 |nil=>simp
 |cons a l ih=>cases j with
  |zero=>have:=h' a rfl;simp[this]
  |succ j=>
   have ha:=h a (by simp)
   rw[List.takeWhile_cons,if_pos ha,List.take_succ_cons,ih (j:=j) (fun y hy=>h y (by simp[hy])) (fun y hy=>h' y (by simpa using hy))]
theorem Mr{b:Nat}{p:Int}:∀ {l:List Int} {L:Nat->List Int} {i:Nat},p∈(l.foldl (cU b) L) i↔p∈L i\/(p=b/\∃ t∈l,t.toNat=i)
 |[],L,i=>by simp
 |t::l,L,i=>by
  rw[List.foldl_cons,Mr (l:=l)]
  unfold cU
  simp only[up]
  by_cases h:i=t.toNat
  .subst h
   simp only[if_true,List.mem_append,List.mem_singleton]
   constructor
   .rintro((h|h)|⟨h,u,h1,h2⟩)
    .exact .inl h
    .exact .inr ⟨h,t,by simp,rfl⟩
    .exact .inr ⟨h,u,by simp[h1],h2⟩
   .rintro(h|⟨h,u,h1,h2⟩)
    .exact .inl (.inl h)
    .exact .inl (.inr h)
  .rw[if_neg h]
   constructor
   .rintro(h'|⟨h',u,h1,h2⟩)
    .exact .inl h'
    .exact .inr ⟨h',u,by simp[h1],h2⟩
   .rintro(h'|⟨h',u,h1,h2⟩)
    .exact .inl h'
    .rcases List.mem_cons.1 h1 with e|e
     .subst e;exact absurd h2.symm h
     .exact .inr ⟨h',u,e,h2⟩
theorem DB{bs:List bw}{p:Int}{i:Nat}:∀ {k:Nat},p∈bf bs k i↔∃ b:Nat,p=b/\b<k/\∃ x,bs[b]? =some x/\∃ t∈nextR x.fin,t.toNat=i
 |0=>by simp[bf]
 |k+1=>by
  have ih:=DB (bs:=bs) (p:=p) (i:=i) (k:=k)
  have e:bf bs (k+1)=og bs (bf bs k) k:=by rw[bf,List.range_succ,List.foldl_append];rfl
  rw[e,og]
  cases hx:bs[k]? with
  |none=>
   simp only
   rw[ih]
   constructor
   .rintro⟨b,h1,h2,h3⟩;exact⟨b,h1,by omega,h3⟩
   .rintro⟨b,h1,h2,x,h3,h4⟩
    refine⟨b,h1,?_,x,h3,h4⟩
    rcases Nat.lt_or_ge b k with g|g
    .exact g
    .have:b=k:=by omega
     subst this;rw[hx] at h3;cases h3
  |some x=>
   simp only
   rw[Mr,ih]
   constructor
   .rintro(⟨b,h1,h2,h3⟩|⟨h1,h2⟩)
    .exact⟨b,h1,by omega,h3⟩
    .exact⟨k,h1,by omega,x,hx,h2⟩
   .rintro⟨b,h1,h2,x',h3,h4⟩
    rcases Nat.lt_or_ge b k with g|g
    .exact .inl ⟨b,h1,g,x',h3,h4⟩
    .have:b=k:=by omega
     subst this;rw[hx] at h3;cases h3;exact .inr ⟨h1,h4⟩
theorem Mc{bs:List bw}{n:Nat}(hb:∀ b∈bs,qN n b):∀ (k:Nat) {s:CS},fA n s->fA n (ly bs k s)
 |0,_,h=>h
 |k+1,s,h=>by
  rw[ly]
  split
  .exact Mc hb k (AK hb h).1
  .exact(AK hb h).1
theorem Z3{bs:List bw}{args:Nat}(hb:∀ b∈bs,qN bs.length b)(Ak:∀ u∈gX args,dy u):fA bs.length (gJ bs args):=Mc hb _ (GD Ak)
theorem MO{b:Nat}:∀ {l:List Int} {L:Nat->List Int} {c:Nat},(∀ i,(L i).length<=c)->∀ i,((l.foldl (cU b) L) i).length<=c+l.length
 |[],_,_,h,i=>h i
 |t::l,L,c,h,i=>by
  have:=MO (b:=b) (l:=l) (DA (t:=t) (b:=b) h) i
  rw[List.foldl_cons,List.length_cons];omega
theorem DC{bs:List bw}(hw:∀ b∈bs,b.fin.aD.length<=9):∀ (k i:Nat),(bf bs k i).length<=12*k
 |0,_=>by simp[bf]
 |k+1,i=>by
  have ih:=DC hw k
  have e:bf bs (k+1)=og bs (bf bs k) k:=by rw[bf,List.range_succ,List.foldl_append];rfl
  rw[e,og]
  cases hx:bs[k]? with
  |none=>have:=ih i;simp only;omega
  |some x=>
   have h1:=MO (l:=nextR x.fin) (b:=k) ih i
   have h2:=wQ x.fin
   have h3:=hw x (List.mem_of_getElem? hx)
   simp only;omega
theorem GQ{bs:List bw}{n k:Nat}(hn:bs.length=n)(hk:k<n):(dJ bs)[k]? =some (bf bs n k):=by
 subst hn;simp[dJ,hk]
def pB(f:az):Bool:=decide (f.result=1)||(decide (f.result=2)||(decide (f.result=0)&& !f.iter))
def mn(f:az):Bool:=
 kq f.name&&(cu f.args 0 (if(f.af.length:Int)<6 then(f.af.length:Int) else 6)&&(pB f&&(!decide ((1200:Int)<f.af.length)&&(!decide ((60:Int)<f.aL.length)&&cu f.blocks.length 1 1200))))
def pF(f:az):Bool:=
 ez f.af 3&&(ez (f.af.take f.args.toNat) 2&&(ez f.aL 2&&(!decide ((6:Int)<f.signals.length)&& !f.signals.any fun s=> !isName s)))
def rY(l:List ByteArray)(i:Nat):Bool:=Op.bytesLess (l.getD i .empty).toList (l.getD (i+1) .empty).toList
def mo(f:az):Bool:=(List.range (f.signals.length - 1)).all (rY f.signals)
def kn(bs:List bw)(k:Nat):List Int:=((bs.take k).filter fun x=>x.fin.kind==7).map fun x=>x.fin.a
def iP(f:az)(k:Nat):Bool:=
 let x:=f.blocks.getD k iV
 iR f x.fin&&(!decide ((200:Int)<x.ins.length)&& !(x.fin.kind==7&&(kn f.blocks k).any (·==x.fin.a)))
def tl(f:az)(b:Nat)(l:List a8)(j:Nat):Bool:=iB f b (l.getD j dx) ((l.take (j+1)).all bE) (bf f.blocks f.blocks.length b).length
def qo(f:az)(b:Nat):Bool:=(List.range (f.blocks.getD b iV).ins.length).all (tl f b (f.blocks.getD b iV).ins)
def jI(f:az):Bool:=
 mn f&&(pF f&&(mo f&&((List.range f.blocks.length).all (iP f)&&(List.range f.blocks.length).all (qo f))))
def eh(f:az):Int:=if jI f=true then(if uV f.blocks f.args.toNat=true then 0 else 81) else 80
def iq(l:List Int)(r:Int):Prop:=0<=r/\r<l.length
theorem jJ{l:List Int}{r:Int}(h:bO l r≠0):iq l r:=Classical.byContradiction fun hn=>h (G2 hn)
theorem ni{l:List Int}{r:Int}(h:dW l r=true):iq l r:=by
 refine jJ fun e=>?_
 simp[dW,e] at h
theorem wR{l rs:List Int}(h:fO l rs=true):∀ r∈rs,iq l r:=fun r hr=>ni (List.all_eq_true.1 h r hr)
theorem Hr{l:List Int}{r want of:Int}(h:kN l r want of=true)(hw:want≠0):iq l r:=by
 unfold kN at h
 rw[if_neg hw] at h
 split at h
 .refine jJ fun e=>?_
  simp[e] at h
 .split at h
  .refine jJ fun e=>?_
   simp[e] at h
  .split at h
   .exact ni h
   .refine jJ fun e=>?_
    simp[e] at h
structure UF(l:List Int)(x:a8)(s:Shape):Prop where
 to:s.to≠0->iq l x.to
 a:s.a≠0->iq l x.a
 b:s.b≠0->iq l x.b
 args:s.args=5\/s.args=6->x.args.length<=6/\∀ r∈x.args,iq l r
theorem G3{l:List Int}{x:a8}{s:Shape}(h:n8 l x s=true):UF l x s:=by
 unfold n8 at h
 simp only[Bool.and_eq_true] at h
 obtain⟨h1,h2,h3,h4,_⟩:=h
 refine⟨Hr h1,Hr h2,Hr h3,fun hs=>?_⟩
 unfold py at h4
 rcases hs with hs|hs
 .rw[if_pos hs,Bool.and_eq_true] at h4
  have:=jH.1 h4.1
  exact⟨by omega,wR h4.2⟩
 .rw[if_neg oG,if_pos hs,Bool.and_eq_true] at h4
  have:(x.args.length:Int)=1:=by simpa using h4.1
  exact⟨by omega,wR h4.2⟩
theorem GF{l:List (Int×Shape)}{op:Int}{s:Shape}(h:fw l op=some s):(op,s)∈l:=by
 unfold fw at h
 rw[Option.map_eq_some_iff] at h
 obtain⟨⟨o,s'⟩,h1,rfl⟩:=h
 have h2:=List.find?_some h1
 have h3:=List.mem_of_find?_eq_some h1
 have:o=op:=by simpa using h2
 subst this;exact h3
theorem GG{l:List Int}{x:a8}{s:Shape}(hl:l.length<=1200)(hm:(x.op,s)∈nu\/(x.op,s)∈iS)(h:UF l x s):om x:=by
 obtain⟨h1,h2,h3,h4⟩:=h
 unfold iq at h1 h2 h3 h4
 have hr:∀ {r:Int},0<=r/\r<l.length->0<=r/\r<1200:=fun h=>by omega
 have hw:∀ {r:Int},0<=r/\r<l.length-> -1000000<=r/\r<1200:=fun h=>by omega
 obtain⟨op,to,a,b,n,args⟩:=x
 dsimp only at h1 h2 h3 h4 hm
 simp only[nu,iS,List.mem_cons,Prod.mk.injEq,List.not_mem_nil,or_false] at hm
 rcases hm with hm|hm
 .rcases hm with hm|hm|hm|hm|hm|hm|hm|hm|hm|hm|hm|hm|hm|hm|hm<;>obtain⟨rfl,rfl⟩:=hm<;>refine⟨fun r hD=>?_,fun h=>?_,?_,fun h=>?_⟩<;>
   simp_all[bS,cO,aH,nr,qq,lA,nj]<;>first|omega|(rcases hD with rfl|rfl<;>omega)|(have:=h4.2 r hD;omega)
 .rcases hm with hm|hm|hm|hm|hm|hm|hm|hm|hm<;>obtain⟨rfl,rfl⟩:=hm<;>refine⟨fun r hD=>?_,fun h=>?_,?_,fun h=>?_⟩<;>
   simp_all[bS,cO,aH,nr,qq,lA,nj]<;>first|omega|(rcases hD with rfl|rfl<;>omega)|(rcases hD with rfl|rfl|hD<;>first|omega|(have:=h4.2 r hD;omega))
theorem mj{a b:Int}:aI a b=true↔a=b:=by simp[aI]
theorem HW{l aL:List Int}{r n:Int}(hs:∀ k∈aL,k≠0)(h:kQ l aL r n=true):iq l r/\0<=n/\n<aL.length:=by
 unfold kQ at h
 rw[Bool.and_eq_true,jH] at h
 obtain⟨⟨h1,h2⟩,h3⟩:=h
 have h4:bO aL n≠0:=by
  obtain⟨k,rfl⟩:=Int.eq_ofNat_of_zero_le h1
  have hk:k<aL.length:=by omega
  rw[rW (List.getElem?_eq_getElem hk)]
  exact hs _ (List.getElem_mem hk)
 refine⟨jJ ?_,h1,by omega⟩
 rw[show bO l r=bO aL n by simpa using h3];exact h4
theorem GH{f:az}{b ahead:Int}{x:a8}{phis:Bool}(hl:f.af.length<=1200)(hs:∀ k∈f.aL,k≠0)(gm:f.aL.length<=60)(h:iB f b x phis ahead=true):
 om x/\(x.op=19->(x.args.length:Int)=ahead/\phis=true/\0<b/\iq f.af x.to/\∀ r∈x.args,bO f.af r=bO f.af x.to/\iq f.af r):=by
 unfold iB at h
 split at h
 .rename_i pf
  simp only[Bool.and_eq_true,mj] at h
  have hr:=jJ (l:=f.af) (r:=x.a) oG
  unfold iq at hr
  refine⟨⟨fun r h'=>?_,fun h'=>by omega,?_,fun h'=>by omega⟩,fun h'=>by omega⟩
  .simp[bS,aH,nr,pf] at h';omega
  .simp[cO,aH,lA,nj,pf]
 .rename_i pf
  split at h
  .rename_i gG
   simp only[Bool.and_eq_true,mj] at h
   obtain⟨h1,h2,h3⟩:=HW hs h.2.2.2
   unfold iq at h1
   refine⟨⟨fun r h'=>?_,fun h'=>by omega,?_,fun h'=>by omega⟩,fun h'=>by omega⟩
   .simp[bS,aH,nr,qq,gG] at h'
   .simp[cO,aH,lA,gG];omega
  .rename_i gG
   split at h
   .rename_i dO
    simp only[Bool.and_eq_true,mj] at h
    obtain⟨h1,h2,h3⟩:=HW hs h.2.2.2
    unfold iq at h1
    refine⟨⟨fun r h'=>?_,fun h'=>by omega,?_,fun h'=>by omega⟩,fun h'=>by omega⟩
    .simp[bS,aH,nr,dO] at h';omega
    .simp[cO,aH,lA,nj,dO]
   .rename_i dO
    split at h
    .rename_i eK
     simp only[Bool.and_eq_true,mj,decide_eq_true_eq] at h
     obtain⟨g1,g2,g3,g4,g5,g6,g7,g8⟩:=h
     have hr:=ni g3
     have hk:bO f.af x.to≠0:=fun e=>by simp[dW,e] at g3
     refine⟨⟨fun r h'=>?_,fun h'=>by omega,?_,fun h'=>by omega⟩,fun _=>⟨g7,g1,g2,hr,fun r hD=>?_⟩⟩
     .simp[bS,aH,nr,qq,eK] at h'
     .unfold iq at hr;simp[cO,aH,lA,eK];omega
     .have:aI (bO f.af r) (bO f.af x.to)=true:=by
       simp only[Bool.not_eq_true',List.any_eq_false] at g8
       simpa using g8 r hD
      rw[mj] at this
      exact⟨this,jJ (by rw[this];exact hk)⟩
    .rename_i eK
     rw[Bool.and_eq_true] at h
     cases hs:fw nu x.op with
     |none=>rw[hs] at h;simp at h
     |some s=>
      rw[hs] at h
      exact⟨GG hl (.inl (GF hs)) (G3 h.2),fun h'=>absurd h' eK⟩
structure EM(f:az)(x:End):Prop where
 fin:zk x
 wh:x.aD.length<=7
 to:∀ t∈cz x,0<=t/\t<f.blocks.length
theorem GR{f:az}{x:End}(h:lB f x=true):x.aD.length<=7/\(∀ w∈x.aD,0<=w.to/\w.to<f.blocks.length)/\(0<=x.bX->x.bX<f.blocks.length):=by
 unfold lB at h
 rw[Bool.and_eq_true,Bool.and_eq_true] at h
 obtain⟨h1,h2,h3⟩:=h
 have h2:(x.aD.length:Int)<=7:=by simpa using h2
 refine⟨by omega,fun w hw=>?_,fun h0=>?_⟩
 .obtain⟨i,hi⟩:=List.getElem?_of_mem hw
  have hm:(w,i)∈x.aD.zipIdx:=List.mem_zipIdx_iff_getElem?.2 hi
  have:=List.all_eq_true.1 h1 _ hm
  simp only[nE,Bool.and_eq_true,bF,jH] at this
  omega
 .rw[Bool.or_eq_true] at h3
  rcases h3 with h3|h3
  .have:x.bX= -1:=by simpa using h3
   omega
  .rw[bF,jH] at h3;omega
theorem Og{x:End}(h:xF x=true):x.kind=0/\x.a=0/\x.b=0/\x.to=0/\x.fC=0/\x.bX= -1/\x.args.length=0/\x.aD.length=0:=by
 simp only[xF,Bool.and_eq_true,decide_eq_true_eq] at h
 omega
theorem Hs{f:az}{x:End}(hl:f.af.length<=1200)(hr:pB f=true)(h:iR f x=true):EM f x:=by
 have jV:∀ {r:Int},iq f.af r->0<=r/\r<1200:=fun h=>by unfold iq at h;omega
 unfold iR at h
 rw[Bool.and_eq_true] at h
 obtain⟨h,hb⟩:=h
 have hb:=Og hb
 have cR:∀ {t:Int},bF f t=true->0<=t/\t<f.blocks.length:=fun h=>by rw[bF,jH] at h;omega
 obtain⟨kind,a,b,to,fC,name,ins,args,aD,bX⟩:=x
 simp only[fG] at h hb
 by_cases h1:kind=1
 .subst h1
  simp only[if_true] at h hb
  have c8:=cR h
  have hw:aD=[]:=List.length_eq_zero_iff.1 hb.2.2.2.2.2.2.2
  subst hw
  refine⟨⟨fun r h'=>?_,?_,by simp,by simp,by simp⟩,by simp,fun t ht=>?_⟩
  .simp[bR,aH] at h'
  .simp[dQ,aH]
  .simp[cz,gF,aH] at ht;subst ht;exact c8
 by_cases h2:kind=2
 .subst h2
  simp only[Int.reduceEq,if_false,if_true,Bool.and_eq_true,mj] at h hb
  have hw:aD=[]:=List.length_eq_zero_iff.1 hb.2.2.2.2.2.2.2
  subst hw
  have Ap:=jV (jJ (l:=f.af) (r:=a) oG)
  have c8:=cR h.2.1
  have CQ:=cR h.2.2
  refine⟨⟨fun r h'=>?_,?_,by simp,by simp,by simp⟩,by simp,fun t ht=>?_⟩
  .simp[bR,aH] at h';subst h';exact Ap
  .simp[dQ,aH]
  .simp[cz,gF,aH] at ht
   rcases ht with rfl|rfl
   .exact c8
   .exact CQ
 by_cases h3:kind=3
 .subst h3
  simp only[Int.reduceEq,if_false,if_true] at h hb
  have hw:aD=[]:=List.length_eq_zero_iff.1 hb.2.2.2.2.2.2.2
  subst hw
  refine⟨⟨fun r h'=>?_,?_,by simp,by simp,by simp⟩,by simp,fun t ht=>?_⟩
  .simp[bR,aH] at h'
   obtain⟨h1,rfl⟩:=h'
   split at h
   .rename_i hc
    rw[mj] at h
    exact jV (jJ (by rw[h];exact hc.1))
   .rw[mj] at h
    exact absurd h h1
  .simp[dQ,aH]
  .simp[cz,aH] at ht
 by_cases h4:kind=4
 .subst h4
  simp only[Int.reduceEq,if_false,if_true] at h hb
  have hw:aD=[]:=List.length_eq_zero_iff.1 hb.2.2.2.2.2.2.2
  subst hw
  refine⟨⟨fun r h'=>?_,?_,by simp,by simp,by simp⟩,by simp,fun t ht=>?_⟩
  .simp[bR,aH] at h'
  .simp[dQ,aH]
  .simp[cz,aH] at ht
 by_cases h5:kind=5
 .subst h5
  simp only[Int.reduceEq,if_false,if_true,Bool.and_eq_true] at h hb
  obtain⟨g1,g2,g3,g4⟩:=h
  obtain⟨sU,CR,CT⟩:=GR g4
  have c8:=cR g3
  have hi:om ins:=by
   cases hs:fw iS ins.op with
   |none=>rw[hs] at g1;simp at g1
   |some s=>rw[hs] at g2;exact GG hl (.inr (GF hs)) (G3 g2)
  refine⟨⟨fun r h'=>?_,?_,?_,fun _=>hi.ar,by simp⟩,sU,fun t ht=>?_⟩
  .simp[bR,aH] at h';exact hi.rd r h'
  .simp only[dQ,if_true];exact hi.wr
  .dsimp only at sU ⊢;omega
  .simp[cz,gF,aH] at ht
   rcases ht with rfl|⟨w,hw,rfl⟩|⟨h0,rfl⟩
   .exact c8
   .exact CR w hw
   .exact⟨h0,CT h0⟩
 by_cases h6:kind=6
 .subst h6
  simp only[Int.reduceEq,if_false,if_true,Bool.and_eq_true,Bool.or_eq_true,mj,decide_eq_true_eq] at h hb
  obtain⟨g1,g2,g3,g4,g5,g6⟩:=h
  obtain⟨sU,CR,CT⟩:=GR g6
  have c8:=cR g5
  have hv:=wR g3
  refine⟨⟨fun r h'=>?_,?_,?_,by simp,fun _=>?_⟩,sU,fun t ht=>?_⟩
  .simp[bR,aH] at h';exact jV (hv r h')
  .simp only[dQ,aH]
   rcases g4 with g4|g4
   .simp[g4]
   .have:=jV (ni g4);simp;omega
  .dsimp only at sU ⊢;omega
  .dsimp only;omega
  .simp[cz,gF,aH] at ht
   rcases ht with rfl|⟨w,hw,rfl⟩|⟨h0,rfl⟩
   .exact c8
   .exact CR w hw
   .exact⟨h0,CT h0⟩
 by_cases h7:kind=7
 .subst h7
  simp only[Int.reduceEq,if_false,if_true,Bool.and_eq_true,mj,decide_eq_true_eq] at h hb
  obtain⟨g1,g2,g3,g4,g5⟩:=h
  have hw:aD=[]:=List.length_eq_zero_iff.1 hb.2.2.2.2.2.2.2
  subst hw
  have c8:=cR g5
  have hv:=wR g3
  have Ap:=jV (jJ (l:=f.af) (r:=a) oG)
  refine⟨⟨fun r h'=>?_,?_,by simp,by simp,fun _=>?_⟩,by simp,fun t ht=>?_⟩
  .simp[bR,aH] at h';exact jV (hv r h')
  .simp only[dQ,aH];simp;omega
  .dsimp only;omega
  .simp[cz,gF,aH] at ht;subst ht;exact c8
 by_cases h8:kind=8
 .subst h8
  simp only[Int.reduceEq,if_false,if_true,Bool.and_eq_true,mj] at h hb
  obtain⟨g1,g2,g3,g4,g5⟩:=h
  obtain⟨sU,CR,CT⟩:=GR g5
  have c8:=cR g3
  have CQ:=cR g4
  have Ap:=jV (jJ (l:=f.af) (r:=a) oG)
  have hrb:=jV (ni g2)
  refine⟨⟨fun r h'=>?_,?_,?_,by simp,by simp⟩,sU,fun t ht=>?_⟩
  .simp[bR,aH] at h';subst h';exact Ap
  .simp[dQ,aH];omega
  .dsimp only at sU ⊢;omega
  .simp[cz,gF,aH] at ht
   rcases ht with rfl|rfl|⟨w,hw,rfl⟩|⟨h0,rfl⟩
   .exact c8
   .exact CQ
   .exact CR w hw
   .exact⟨h0,CT h0⟩
 by_cases h9:kind=9
 .subst h9
  simp only[Int.reduceEq,if_false,if_true,Bool.and_eq_true,mj] at h hb
  obtain⟨g1,g2,g3⟩:=h
  have hw:aD=[]:=List.length_eq_zero_iff.1 hb.2.2.2.2.2.2.2
  subst hw
  have c8:=cR g3
  have Ap:=jV (jJ (l:=f.af) (r:=a) (by
   rw[g2]
   intro e
   simp[pB,e,g1] at hr))
  refine⟨⟨fun r h'=>?_,?_,by simp,by simp,by simp⟩,by simp,fun t ht=>?_⟩
  .simp[bR,aH] at h';subst h';exact Ap
  .simp[dQ,aH]
  .simp[cz,gF,aH] at ht;subst ht;exact c8
 .simp[h1,h2,h3,h4,h5,h6,h7,h8,h9] at h
theorem Z5(a b:Int):dy (yw a b):=by
 unfold yw intBitsV dy
 simp only
 rw[wrap_u64 (n:=(BitVec.ofInt IntKind.u64.bits a||| BitVec.ofInt IntKind.u64.bits b).toNat) (BitVec.isLt (w:=64) _)]
 have h:(BitVec.ofInt IntKind.u64.bits a||| BitVec.ofInt IntKind.u64.bits b).toNat<18446744073709551616:=BitVec.isLt (w:=64) _
 exact⟨Int.natCast_nonneg _,Int.ofNat_lt.2 h⟩
theorem Ms{w:List Int}{n:Int}(h:∀ u∈w,dy u):∀ u∈gy w n,dy u:=fun u hu=>by
 unfold gy at hu
 split at hu
 .unfold tA at hu
  rcases List.mem_or_eq_of_mem_set hu with h1|h1
  .exact h u h1
  .rw[h1];exact Z5 _ _
 .exact h u hu
theorem DD:∀ k,∀ u∈gX k,dy u
 |0,u,hu=>by
  rw[List.eq_of_mem_replicate hu];simp[dy]
 |k+1,u,hu=>Ms (DD k) u hu
theorem om.rl{x:a8}(h:om x):(bS x).length<=100000:=by
 unfold bS
 split
 .simp
 .split
  .simp
  .split
   .rename_i l8;have:=h.ar (.inl l8);omega
   .split
    .rename_i h38;have:=h.ar (.inr h38);simp;omega
    .simp
theorem zk.rf{x:End}(h:zk x)(hi:x.kind=5->om x.ins):(bR x).length<=100000:=by
 unfold bR
 split
 .simp
 .split
  .split<;>simp
  .split
   .rename_i h5;exact(hi h5).rl
   .split
    .rename_i h67
     have:=h.a2 (by simpa[aH] using h67)
     omega
    .simp
structure oh(f:az):Prop where
 pos:0<f.blocks.length
 nS:f.blocks.length<=1200
 af:f.af.length<=1200
 args:0<=f.args/\f.args<=6
 blk:∀ b∈f.blocks,qN f.blocks.length b
 ends:∀ b∈f.blocks,EM f b.fin
 right:∀ (b:Nat) x,f.blocks[b]? =some x->∀ (j:Nat) y,x.ins[j]? =some y->iB f b y ((x.ins.take (j+1)).all bE) (bf f.blocks f.blocks.length b).length=true
 aL:(∀ k∈f.aL,k≠0)/\f.aL.length<=60
 akD:∀ b∈f.blocks,b.fin.kind=5->om b.fin.ins
theorem ND{l:List Int}{m:Int}(h:ez l m=true):∀ k∈l,k≠0:=fun k hk e=>by
 subst e
 simp only[ez,Bool.not_eq_true',List.any_eq_false] at h
 have:=h 0 hk
 simp[lz] at this
theorem aa9{f:az}{x:End}(hl:f.af.length<=1200)(h:iR f x=true)(h5:x.kind=5):om x.ins:=by
 unfold iR at h
 rw[Bool.and_eq_true] at h
 have h:=h.1
 unfold fG at h
 simp only[h5,Int.reduceEq,if_false,if_true,Bool.and_eq_true] at h
 obtain⟨g1,g2,_⟩:=h
 cases hs:fw iS x.ins.op with
 |none=>rw[hs] at g1;simp at g1
 |some s=>rw[hs] at g2;exact GG hl (.inr (GF hs)) (G3 g2)
theorem xq{f:az}(h:jI f=true):oh f:=by
 unfold jI at h
 simp only[Bool.and_eq_true] at h
 obtain⟨hH,hK,_,hE,hR⟩:=h
 unfold mn at hH
 simp only[Bool.and_eq_true,jH,Bool.not_eq_true',decide_eq_false_iff_not] at hH
 obtain⟨_,ha,hr,ji,gm,cR⟩:=hH
 unfold pF at hK
 simp only[Bool.and_eq_true,Bool.not_eq_true',decide_eq_false_iff_not] at hK
 obtain⟨_,_,wl,_,_⟩:=hK
 have Fk:f.af.length<=1200:=by omega
 have La:∀ x∈f.blocks,iR f x.fin=true/\x.ins.length<=200:=fun x hx=>by
  obtain⟨k,hk⟩:=List.getElem?_of_mem hx
  have aj:k<f.blocks.length:=(List.getElem?_eq_some_iff.1 hk).1
  have:=List.all_eq_true.1 hE k (by simpa using aj)
  rw[iP,getD_some hk] at this
  simp only[Bool.and_eq_true,Bool.not_eq_true',decide_eq_false_iff_not] at this
  exact⟨this.1,by omega⟩
 have Ga:∀ x∈f.blocks,EM f x.fin:=fun x hx=>Hs Fk hr (La x hx).1
 have Wc:∀ (b:Nat) x,f.blocks[b]? =some x->∀ (j:Nat) y,x.ins[j]? =some y->iB f b y ((x.ins.take (j+1)).all bE) (bf f.blocks f.blocks.length b).length=true:=fun b x hx j y hy=>by
  have aj:b<f.blocks.length:=(List.getElem?_eq_some_iff.1 hx).1
  have:=List.all_eq_true.1 hR b (by simpa using aj)
  rw[qo,getD_some hx] at this
  have:=List.all_eq_true.1 this j (by simpa using(List.getElem?_eq_some_iff.1 hy).1)
  rw[tl,getD_some hy] at this
  exact this
 have h5:∀ b∈f.blocks,b.fin.kind=5->om b.fin.ins:=fun b hb h5=>aa9 Fk (La b hb).1 h5
 have vQ:∀ b∈f.blocks,∀ x∈b.ins,om x:=fun b hb x hx=>by
  obtain⟨k,hk⟩:=List.getElem?_of_mem hb
  obtain⟨j,hj⟩:=List.getElem?_of_mem hx
  exact(GH Fk (ND wl) oG (Wc k b hk j x hj)).1
 refine⟨by omega,by omega,Fk,⟨ha.1,by have:=ha.2;split at this<;>omega⟩,fun b hb=>⟨by have:=(La b hb).2;omega,vQ b hb,(Ga b hb).fin,fun x hx=>(vQ b hb x hx).rl,(Ga b hb).fin.rf (h5 b hb),fun t ht=>(Ga b hb).to t (Dx.1 ht)⟩,Ga,Wc,⟨ND wl,by omega⟩,h5⟩
theorem oh.Gb{f:az}(h:oh f){b:Nat}{x:bw}(hx:f.blocks[b]? =some x){y:a8}(hy:y∈x.ins)(eK:y.op=19):y.args.length=(bf f.blocks f.blocks.length b).length/\∀ r∈y.args,0<=r/\r<1280:=by
 obtain⟨j,hj⟩:=List.getElem?_of_mem hy
 obtain⟨h1,_,_,_,h2⟩:=(GH h.af h.aL.1 h.aL.2 (h.right b x hx j y hj)).2 eK
 refine⟨by omega,fun r hr=>?_⟩
 have:=(h2 r hr).2
 unfold iq at this
 have:=h.af
 omega
end Go.Argus
namespace Go.Proofs.Tryz.K
set_option maxRecDepth 10000
set_option maxHeartbeats 1000000 in
theorem An{p q:D}{f:az}{n:Nat}(hp:Tr p)(hq:Tr q)(eW:p.one=true)(fI:q.one=true)(hn:f.blocks.length=n)(lZ:n<=100000)(hw:∀ b∈f.blocks,b.fin.aD.length<=9)(ht:∀ b∈f.blocks,∀ t∈nextR b.fin,0<=t/\t<n):
 PCall prog 97 [.agg (aW p q f)] (bC (dJ f.blocks)):=by
 have aP:∀ a∈[D.agg (aW p q f)],Tr a:=.cons (lE hp hq f) .nil
 refine aY mixed UA (by rw[akr];rfl) aP (yQ _) ?_
 rw[aks,akt]
 refine aq ?_
 refine o7 ?_;refine c7 ?_
 refine ab (aJ (bg [(0,aW p q f,133)] eH (l:=[(1,.pt (aW p q f))]) eH) (aq ?_))
 refine J6 ?_;refine dG ?_;refine Fg ?_;refine bJ ?_
 have cM:((f.blocks.length:Nat):Int).toNat=n:=hn
 refine ab (aJ (aE (l:=[(1,.pt (aW p q f)),(3,.rs 1 0 n)]) (ml:=[(1,.cells (List.replicate n .z) 27)]) ⟨rfl,congrArg (fun k=>D.rs 1 0 k) cM,trivial⟩ ⟨?_,trivial⟩) (aC (aq ?_)))
 .exact congrArg (fun c=>some (Row.cells c 27)) ((congrArg (fun k=>replD k [D.z]) cM).trans (Ed n))
 refine J6 ?_;refine dG ?_;refine J0 ?_
 refine ab (bM (fun s=>∃ m nx ρ,Ghost prog s ⟨ax [(3,.rs 1 0 n)],m,nx⟩/\dH m nx 1 n 27 3 ρ (fun i=>(bf f.blocks n i).map I)) (eX (α:=Nat×Mem×Nat)
  (fun k=>⟨ax [(1,.pt (aW p q f)),(3,.rs 1 0 n),(15,fu f.blocks),(16,I n),(17,I k.1)],k.2.1,k.2.2⟩)
  (fun k=>k.1<=n/\(∃ ρ,dH k.2.1 k.2.2 1 n 27 3 ρ (fun i=>(bf f.blocks k.1 i).map I))/\∀ i,(bf f.blocks k.1 i).length<=12*k.1) (fun k=>n - k.1) (0,aX [(1,.cells (List.replicate n .z) 27)],2)
  (ao ⟨rfl,rfl,rfl,congrArg (fun k:Nat=>I k) hn,rfl,trivial⟩) ⟨Nat.zero_le _,⟨fun _=>0,Hp (show 1<2 by decide) rfl⟩,fun _=>Nat.le_refl _⟩ ?_) ?_)
 .rintro⟨k,m,nx⟩ ⟨hk,⟨ρ,hJ⟩,hlen⟩
  dsimp only at hk hJ hlen ⊢
  have av:=hJ.row
  have cD:=hJ.nU
  refine bB ?_
  refine ab ⟨_,rfl,fun h=>?_,fun h=>?_⟩
  .have aj:k<n:=by simpa using h
   have hx:f.blocks[k]? =some f.blocks[k]:=List.getElem?_eq_getElem oG
   have b7:f.blocks[k]∈f.blocks:=List.getElem_mem _
   generalize f.blocks[k]=x at hx b7
   have bH:bf f.blocks (k+1)=(nextR x.fin).foldl (cU k) (bf f.blocks k):=by
    rw[bf,List.range_succ,List.foldl_append]
    show og f.blocks _ k=_
    rw[og,hx];rfl
   generalize bf f.blocks k=L0 at hJ hlen av bH
   refine ws ?_;refine J0 ?_;refine l5 ?_;refine ur ?_;refine cE ?_;refine J3 ?_;refine xN ?_
   have tR:=tR (x:=x.fin)
   have tT:=Qx (x:=x.fin) (hw x b7)
   change PCall _ _ _ (aw (nextR x.fin)) at tT
   have c8:=ht x b7
   have j7:=wQ x.fin
   have F5:=hw x b7
   generalize nextR x.fin=l at tT c8 j7 bH
   refine ab (aq ?_)
   refine E7 ?_
   refine aF (eL (vs:=aT _) rfl (up_same _ _ _) V.h V.h rfl) ak (eM V.h V.h (by first|(simp;done)|omega|exact Nat.le_of_ble_eq_true rfl)) ?_
   refine cl tR ?_;refine cl tT ?_;refine iL ?_;refine J0 ?_
   refine ab (eX (α:=Nat×Mem×Nat)
    (fun j=>⟨ax [(1,.pt (aW p q f)),(3,.rs 1 0 n),(4,I k),(15,fu f.blocks),(16,I n),(17,I k),(25,aw l),(26,I l.length),(27,I j.1)],j.2.1,j.2.2⟩)
    (fun j=>j.1<=l.length/\(∃ ρ,dH j.2.1 j.2.2 1 n 27 3 ρ (fun i=>((l.take j.1).foldl (cU k) L0 i).map I))/\∀ i,((l.take j.1).foldl (cU k) L0 i).length<=12*k+j.1) (fun j=>l.length - j.1) (0,up m nx (some (.cells (eN x) 72)),nx+1)
    (lx eH (nB _ _ _ _)) ⟨Nat.zero_le _,⟨ρ,hJ.ext (fun q hq=>au oG rfl) (by dsimp only;omega)⟩,hlen⟩ ?_)
   clear hJ av hlen
   rintro⟨j,m,nx⟩ ⟨hj,⟨ρ,hJ⟩,hlen⟩
   dsimp only at hj hJ hlen ⊢
   have av:=hJ.row
   have cD:=hJ.nU
   have dE:∀ t,l[j]? =some t->(l.take (j+1)).foldl (cU k) L0=cU k ((l.take j).foldl (cU k) L0) t:=fun t ht=>mf ht
   have nC:j=l.length->(l.take j).foldl (cU k) L0=bf f.blocks (k+1):=fun e=>by rw[bH,List.take_of_length_le oG]
   generalize (l.take j).foldl (cU k) L0=L at hJ hlen av dE nC
   refine bB ?_
   refine ab ⟨_,rfl,fun h=>?_,fun h=>?_⟩
   .have vP:j<l.length:=by simpa using h
    have uv:l[j]? =some l[j]:=List.getElem?_eq_getElem vP
    have mZ:=c8 _ (List.getElem_mem vP)
    generalize l[j]=t at uv mZ
    obtain⟨i,rfl⟩:=Int.eq_ofNat_of_zero_le mZ.1
    have bk:i<n:=by omega
    have hL:=hlen i
    have dE:(l.take (j+1)).foldl (cU k) L0=up L i (L i++[(k:Int)]):=dE _ uv
    have qM:∀ i,((l.take (j+1)).foldl (cU k) L0 i).length<=12*k+(j+1):=fun a=>by
     rw[dE];exact DA (t:=(i:Int)) hlen a
    have wE:(fun a=>((l.take (j+1)).foldl (cU k) L0 a).map I)=up (fun a=>(L a).map I) i ((L i++[(k:Int)]).map I):=by rw[dE];exact Ig
    obtain⟨cs,kd⟩:=DZ (ρ:=ρ) (L:=fun i=>(L i).map I) bk
    refine ws ?_;refine o4 ?_;refine J3 ?_
    refine ab (eO ?_)
    by_cases hz:L i=[]
    .have rE:jc (ρ i) ((L i).map I)=.z:=by rw[hz];rfl
     rw[rE] at kd
     refine cL ?_;refine cL ?_;refine nT ?_;refine rD ?_;refine J0 ?_;refine fY ?_;refine B1 ?_;refine JQ ?_;refine JR ?_
     refine ab ?_
     refine cr ?_
     refine ab (aK (j+1,up (up (up m nx (some (.cells [I k] 3))) (nx+1) (some (.cells [I k] 3))) 1 (some (.cells ((iw ρ (fun i=>(L i).map I) n).set i (.rs (nx+1) 0 1)) 27)),nx+2) (ao eH) ⟨by dsimp only;omega,⟨up ρ i (nx+1),?_⟩,qM⟩ (by dsimp only;omega))
     dsimp only
     rw[wE]
     refine hJ.jk bk (by simp) oG oG ?_ ?_ (fun q hq qc _=>?_)
     .rw[hz];exact up_same _ _ _
     .rw[hz];exact au oG (up_same _ _ _)
     .exact au oG (au oG (au oG rfl))
    .have aA:(L i).map I≠[]:=by simpa using hz
     have rE:jc (ρ i) ((L i).map I)=.rs (ρ i) 0 (L i).length:=by rw[nD aA,List.length_map]
     rw[rE] at kd
     have fF:=hJ.pT i bk aA
     have yv:=hJ.lt i bk aA
     have K6:=hJ.ne i bk aA
     refine cL ?_;refine cL ?_;refine nT ?_;refine rD ?_;refine J0 ?_;refine fY ?_;refine E8 ?_;refine JS ?_;refine JT ?_
     refine ab ?_
     refine cr ?_
     refine ab (aK (j+1,up (up (up (up m nx (some (.cells [I k] 3))) (ρ i) none) (nx+1) (some (.cells ((L i).map I++[I k]) 3))) 1 (some (.cells ((iw ρ (fun i=>(L i).map I) n).set i (.rs (nx+1) 0 ((L i).length+1))) 27)),nx+2) (ao eH) ⟨by dsimp only;omega,⟨up ρ i (nx+1),?_⟩,qM⟩ (by dsimp only;omega))
     dsimp only
     rw[wE]
     refine hJ.jk bk (by simp) oG oG ?_ ?_ (fun q hq qc mV=>?_)
     .rw[List.length_map,List.length_append];exact up_same _ _ _
     .rw[List.map_append];exact au oG (up_same _ _ _)
     .have:=mV aA
      exact au oG (au oG (au oG (au oG rfl)))
   .have aZ:¬ j<l.length:=by simpa using h
    have vl:=nC oG
    subst vl
    show AOps _ _ _ _ _ _ _ _ _
    refine cr ?_
    refine ab (aK (k+1,m,nx) (ao eH) ⟨by dsimp only;omega,⟨ρ,hJ⟩,fun i=>by have:=hlen i;dsimp only at this ⊢;omega⟩ (by dsimp only;omega))
  .have aZ:¬ k<n:=by simpa using h
   have:k=n:=by omega
   subst this
   exact⟨m,nx,ρ,ao eH,hJ⟩
 .rintro s ⟨m,nx,ρ,hg,hJ⟩
  have nX:¬ ∃ i,i<n/\(bf f.blocks n i).map I≠[]/\ρ i=1:=fun⟨i,h1,h2,h3⟩=>hJ.ne i h1 h2 h3
  refine⟨_,hg.trans (DM (l:=[(3,.rs 1 0 n)]) (ml:=[]) (fun r=>∃ i,i<n/\(bf f.blocks n i).map I≠[]/\ρ i=r) hJ (fun _=>.map) c3 (fun i h1 h2=>⟨i,h1,h2,rfl⟩) nX ⟨rfl,trivial⟩ (fun x hx=>?_) trivial (fun x hx=>by cases hx)),aq ?_⟩
  .simp at hx;subst hx;exact .rs nX
  refine bT ?_;refine bJ ?_
  refine ab (aJ (bg [(1,_,27)] eH (l:=[(2,bC (dJ f.blocks))]) ⟨?_,trivial⟩) (ap rfl rfl))
  show sub (fz0 1 _ (prog.cellsOf 27)) (D.rs 1 0 n)=_
  rw[mh (by rw[Ao];simp),Hq,dJ,hn]
set_option maxHeartbeats 1000000 in
theorem Fh{p q:D}{f:az}{n args:Nat}(hp:Tr p)(hq:Tr q)(eW:p.one=true)(fI:q.one=true)(hn:f.blocks.length=n)(lk:0<n)(lZ:n<=100000)(ha:f.args=args)(rv:args<=1000)(Ak:∀ u∈gX args,dy u)(hb:∀ b∈f.blocks,qN n b)
 (xO:∀ b x,f.blocks[b]? =some x->∀ y∈x.ins,y.op=19->y.args.length=(bf f.blocks n b).length/\∀ r∈y.args,0<=r/\r<1280):
 PCall prog 154 [.agg (aW p q f)] (B (uV f.blocks args)):=by
 have aP:∀ a∈[D.agg (aW p q f)],Tr a:=.cons (lE hp hq f) .nil
 have zE:=zE hp hq eW fI hn lk lZ ha rv Ak hb
 have An:=An hp hq eW fI hn lZ (fun b h=>(hb b h).fin.wh) (fun b h=>(hb b h).to)
 have UC:fA n (gJ f.blocks args):=by subst hn;exact Z3 hb Ak
 refine aY mixed SV (by rw[aeY];rfl) aP (.s _) ?_
 rw[aeZ,ae0]
 refine aq ?_
 refine o7 ?_;refine J1 ?_
 refine ab (aJ (bg [(0,aW p q f,133)] eH (l:=[(1,.pt (aW p q f))]) eH) ?_)
 have fR:uV f.blocks args=(List.range n).all (qn f.blocks (gJ f.blocks args)):=by rw[uV,hn]
 rw[fR]
 clear fR
 generalize gJ f.blocks args=R at zE UC ⊢
 obtain⟨lw,lr,jj,rg⟩:=UC
 have zE:PCall prog 197 [.agg (aW p q f)] (.tup [.sl (bY R.ws) n,cA R.re]):=by unfold cA;rw[lr];exact zE
 show AW _ _ _ _ (scopeQ _) _
 refine ws ?_;refine l6 ?_;refine cl zE ?_;refine j6 ?_;refine F8 ?_;refine F8 ?_;refine fJ ?_;refine fJ ?_
 refine ab (aq ?_)
 refine l6 ?_;refine cl An ?_;refine fJ ?_
 refine ab (aJ (fN (l:=[(1,.pt (aW p q f)),(3,.sl (bY R.ws) n),(4,cA R.re),(5,bC (dJ f.blocks))]) eH) (XC (aC (aq ?_))))
 refine J6 ?_;refine dG ?_;refine J0 ?_
 refine ab (bM (fun s=>(List.range n).all (qn f.blocks R)=true) (eX (α:=Nat×Nat)
  (fun k=>⟨ax [(1,.pt (aW p q f)),(3,.sl (bY R.ws) n),(4,cA R.re),(5,bC (dJ f.blocks)),(25,fu f.blocks),(26,I n),(27,I k.1)],fun _=>none,k.2⟩)
  (fun k=>k.1<=n/\(List.range k.1).all (qn f.blocks R)=true) (fun k=>n - k.1) (0,1) (fN ⟨rfl,rfl,rfl,rfl,rfl,congrArg (fun k:Nat=>I k) hn,rfl,trivial⟩) ⟨Nat.zero_le _,rfl⟩ ?_) ?_)
 .rintro⟨k,N⟩ ⟨hk,bj⟩
  dsimp only at hk bj ⊢
  refine bB ?_
  refine ab ⟨_,rfl,fun h=>?_,fun h=>?_⟩
  .have aj:k<n:=by simpa using h
   have hx:f.blocks[k]? =some f.blocks[k]:=List.getElem?_eq_getElem oG
   have b7:f.blocks[k]∈f.blocks:=List.getElem_mem _
   generalize f.blocks[k]=x at hx b7
   have iy:=hb x b7
   have rF:=xO k x hx
   have hw:R.ws[k]? =some R.ws[k]:=List.getElem?_eq_getElem oG
   have jD:R.re[k]? =some R.re[k]:=List.getElem?_eq_getElem oG
   have ll:=jj _ (List.getElem_mem (h:=by omega):R.ws[k]∈R.ws)
   have nY:qn f.blocks R k=(!R.re[k]||((iz x R.ws[k]).2&&(x.ins.takeWhile bE).all (tD f.blocks R k))):=by
    rw[qn,getD_some hw,getD_some jD,getD_some hx]
   generalize R.ws[k]=w at hw ll nY
   generalize R.re[k]=b at jD nY
   refine aq ?_
   refine J0 ?_;refine l5 ?_;refine ur ?_;refine cE ?_;refine J3 ?_;refine xN ?_
   refine ab (aJ (rV (i:=N) (l:=[(1,.pt (aW p q f)),(3,.sl (bY R.ws) n),(4,cA R.re),(5,bC (dJ f.blocks)),(6,I k),(7,.pt (eN x)),(25,fu f.blocks),(26,I n),(27,I k)]) (up_same _ _ _) ⟨rfl,rfl,rfl,rfl,rfl,mG,rfl,rfl,rfl,trivial⟩) (aC (ag ?_)))
   refine fc ?_;refine cS ?_
   refine ab (bp rfl (fun h=>n5 (tw ?_)) fun h=>b8 (aC (qj YQ ?_)))
   .have K3:b=false:=by simpa using h
    subst K3
    refine cr ?_
    refine ab (aK (k+1,N+1) (fN eH) ⟨by dsimp only;omega,j9 bj (by rw[nY];rfl)⟩ (by dsimp only;omega))
   have Am:b=true:=by simpa using h
   subst Am
   have mK:=mK ll iy.len iy.ins iy.fin iy.rl iy.rf
   have tU:=Gz x w
   rw[ll] at tU
   generalize iz x w=th at mK nY tU
   obtain⟨w1,ok⟩:=th
   dsimp only at mK nY tU
   refine ur ?_;refine iX ?_;refine UD ?_;refine UE ?_;refine cl mK ?_;refine j6 ?_;refine JO ?_;refine uu ?_;refine cE ?_;refine Ff ?_;refine J1 ?_
   refine bc (by simp[apartT]) (aJ (fN (l:=[(1,.pt (aW p q f)),(3,.sl (bY R.ws) n),(4,cA R.re),(5,bC (dJ f.blocks)),(6,I k),(7,.pt (eN x)),(9,B ok),(25,fu f.blocks),(26,I n),(27,I k)]) eH) (aC (ag ?_)))
   refine J2 ?_;refine cS ?_
   refine ab (bp rfl (fun h=>?_) fun h=>b8 (aq ?_))
   .have bQ:ok=false:=by simpa using h
    subst bQ
    refine aC (ag ?_)
    refine J1 ?_
    refine ab (dn (cm (aM (HO (ap (d:=B false) rfl ?_)))))
    rw[ng aj (by rw[nY];rfl)]
   have bQ:ok=true:=by simpa using h
   subst bQ
   have nY:qn f.blocks R k=(x.ins.takeWhile bE).all (tD f.blocks R k):=nY
   refine dG ?_;refine J0 ?_
   have j7:=iy.len
   refine ab (eX (α:=Nat×Nat)
    (fun j=>⟨ax [(1,.pt (aW p q f)),(3,.sl (bY R.ws) n),(4,cA R.re),(5,bC (dJ f.blocks)),(6,I k),(25,fu f.blocks),(26,I n),(27,I k),(49,gq x.ins),(50,I x.ins.length),(51,I j.1)],fun _=>none,j.2⟩)
    (fun j=>j.1<=x.ins.length/\(∀ y∈x.ins.take j.1,bE y=true)/\(x.ins.take j.1).all (tD f.blocks R k)=true) (fun j=>x.ins.length - j.1) (0,_) (fN eH) ⟨Nat.zero_le _,by simp,by simp⟩ ?_)
   rintro⟨j,N⟩ ⟨hj,zH,B6⟩
   dsimp only at hj zH B6 ⊢
   refine bB ?_
   refine ab ⟨_,rfl,fun h=>?_,fun h=>?_⟩
   .have cD:j<x.ins.length:=by simpa using h
    have hy:x.ins[j]? =some x.ins[j]:=List.getElem?_eq_getElem cD
    have ux:x.ins[j]∈x.ins:=List.getElem_mem cD
    generalize x.ins[j]=y at hy ux
    refine aq ?_
    refine oZ ?_;refine eF ?_;refine cE ?_;refine Fa ?_
    refine ab (aJ (rV (i:=N) (l:=[(1,.pt (aW p q f)),(3,.sl (bY R.ws) n),(4,cA R.re),(5,bC (dJ f.blocks)),(6,I k),(11,.pt (a7 y)),(25,fu f.blocks),(26,I n),(27,I k),(49,gq x.ins),(50,I x.ins.length),(51,I j)]) (up_same _ _ _) ⟨rfl,rfl,rfl,rfl,rfl,mG,rfl,rfl,rfl,rfl,rfl,rfl,trivial⟩) (aC (ag ?_)))
    refine aG ?_;refine jC ?_
    refine ab (bp rfl (fun h=>n5 (ac6 (by decide) (by decide) (tw ?_))) fun h=>b8 (aq ?_))
    .have aA:y.op≠19:=by simpa using h
     refine cr ?_
     refine ab (aK (k+1,_) (fN eH) ⟨by dsimp only;omega,j9 bj ?_⟩ (by dsimp only;omega))
     rw[nY,takeWhile_eq zH (fun y' h'=>by rw[hy] at h';cases h';simpa[bE] using aA)]
     exact B6
    have eK:y.op=19:=by simpa using h
    obtain⟨rG,uy⟩:=rF y ux eK
    have hA:=GQ hn aj
    have CM:∀ p∈bf f.blocks n k,∃ pn:Nat,p=pn/\pn<n:=fun p hp=>by
     obtain⟨b,h1,h2,_⟩:=DB.1 hp
     exact⟨b,h1,h2⟩
    have K7:tD f.blocks R k y=(List.range (bf f.blocks n k).length).all (rX f.blocks R k y):=by rw[tD,hn]
    have fm:∀ i,rX f.blocks R k y i=(!(R.re.getD ((bf f.blocks n k).getD i 0).toNat false)||la (fQ (f.blocks.getD ((bf f.blocks n k).getD i 0).toNat iV).fin k (iz (f.blocks.getD ((bf f.blocks n k).getD i 0).toNat iV) (R.ws.getD ((bf f.blocks n k).getD i 0).toNat [])).1) (y.args.getD i 0).toNat):=fun i=>by rw[rX,hn]
    have K8:=DC (fun b h=>(hb b h).fin.wh) n k
    generalize bf f.blocks n k=A at rG hA CM K7 fm K8
    have ab7:∀ i,i<A.length->rX f.blocks R k y i=false->(List.range n).all (qn f.blocks R)=false:=fun i hi he=>by
     refine ng aj ?_
     rw[nY]
     refine Bool.eq_false_iff.2 fun ht=>?_
     have akB:y∈x.ins.takeWhile bE:=by
      have:x.ins.take (j+1)=x.ins.take j++[y]:=by rw[List.take_add_one,hy];rfl
      have h2:x.ins=x.ins.take (j+1)++x.ins.drop (j+1):=(List.take_append_drop _ _).symm
      rw[h2,this,List.takeWhile_append_of_pos]
      .simp
      .intro z hz
       rcases List.mem_append.1 hz with h|h
       .exact zH z h
       .rw[List.mem_singleton.1 h];simp[bE,eK]
     have:=List.all_eq_true.1 ht y akB
     rw[K7,ng hi he] at this
     cases this
    refine fc ?_;refine iL ?_;refine J0 ?_
    refine ab (eX (α:=Nat×Nat)
     (fun i=>⟨ax [(1,.pt (aW p q f)),(3,.sl (bY R.ws) n),(4,cA R.re),(5,bC (dJ f.blocks)),(6,I k),(11,.pt (a7 y)),(25,fu f.blocks),(26,I n),(27,I k),(49,gq x.ins),(50,I x.ins.length),(51,I j),(61,aw A),(62,I A.length),(63,I i.1)],fun _=>none,i.2⟩)
     (fun i=>i.1<=A.length/\(List.range i.1).all (rX f.blocks R k y)=true) (fun i=>A.length - i.1) (0,_) (fN eH) ⟨Nat.zero_le _,rfl⟩ ?_)
    rintro⟨i,N⟩ ⟨hi,IW⟩
    dsimp only at hi IW ⊢
    refine bB ?_
    refine ab ⟨_,rfl,fun h=>?_,fun h=>?_⟩
    .have jZ:i<A.length:=by simpa using h
     have V6:A[i]? =some A[i]:=List.getElem?_eq_getElem jZ
     obtain⟨pn,CO,lY⟩:=CM _ (List.getElem_mem jZ)
     rw[CO] at V6
     clear CO
     have sT:f.blocks[pn]? =some f.blocks[pn]:=List.getElem?_eq_getElem oG
     have oH:f.blocks[pn]∈f.blocks:=List.getElem_mem _
     have V7:R.ws[pn]? =some R.ws[pn]:=List.getElem?_eq_getElem oG
     have V8:R.re[pn]? =some R.re[pn]:=List.getElem?_eq_getElem oG
     have JV:=jj _ (List.getElem_mem (h:=by omega):R.ws[pn]∈R.ws)
     have K9:y.args[i]? =some y.args[i]:=List.getElem?_eq_getElem oG
     have wz:=uy _ (List.getElem_mem (h:=by omega):y.args[i]∈y.args)
     have fm:=fm i
     rw[getD_some V6,Int.toNat_natCast,getD_some sT,getD_some V7,getD_some V8,getD_some K9] at fm
     generalize f.blocks[pn]=xp at sT oH fm
     generalize R.ws[pn]=wp at V7 JV fm
     generalize R.re[pn]=rb at V8 fm
     generalize y.args[i]=r at K9 wz fm
     obtain⟨rn,rfl⟩:=Int.eq_ofNat_of_zero_le wz.1
     rw[Int.toNat_natCast] at fm
     have xP:=hb xp oH
     have mK:=Go.Proofs.Tryz.K.mK JV xP.len xP.ins xP.fin xP.rl xP.rf
     have B7:=Gz xp wp
     rw[JV] at B7
     generalize iz xp wp=tp at mK fm B7
     obtain⟨w2,ok2⟩:=tp
     dsimp only at mK fm B7
     have vM:=vM (x:=xp.fin) (b:=(k:Int)) (w:=w2) B7 (by have:=xP.fin.wh;omega) (by have:=xP.fin.wr;omega)
     have nO:=MJ xp.fin k w2
     rw[B7] at nO
     generalize fQ xp.fin k w2=w3 at vM nO fm
     have kA:=kA (w:=w3) (m:=rn) nO oG
     refine ws ?_;refine gM ?_;refine J3 ?_;refine J3 ?_
     refine ab (qj X3 ?_)
     refine J6 ?_;refine aG ?_;refine J0 ?_;refine l5 ?_;refine ur ?_;refine iX ?_;refine UD ?_;refine UE ?_;refine cl mK ?_;refine j6 ?_;refine JO ?_;refine uu ?_;refine cE ?_;refine Ff ?_;refine J1 ?_
     refine bc (by simp[apartT]) (aJ (rV (i:=N) (l:=[(1,.pt (aW p q f)),(3,.sl (bY R.ws) n),(4,cA R.re),(5,bC (dJ f.blocks)),(6,I k),(11,.pt (a7 y)),(12,I i),(13,I pn),(14,.pt (w2.map bZ)),(25,fu f.blocks),(26,I n),(27,I k),(49,gq x.ins),(50,I x.ins.length),(51,I j),(61,aw A),(62,I A.length),(63,I i)]) (up_same _ _ _) ⟨rfl,rfl,rfl,rfl,rfl,rfl,rfl,rfl,mG,rfl,rfl,rfl,rfl,rfl,rfl,rfl,rfl,rfl,trivial⟩) (dP X4 ?_))
     have lN:∀ v:Bool,v=rX f.blocks R k y i->(v=false->(List.range n).all (qn f.blocks R)=false)/\(v=true->(List.range (i+1)).all (rX f.blocks R k y)=true):=fun v hv=>by
      subst hv
      exact⟨ab7 i jZ,fun h=>j9 IW h⟩
     cases rb with
     |false=>
      obtain⟨_,nN⟩:=lN true fm.symm
      have nN:=nN rfl
      refine fc ?_;refine J2 ?_;refine J7 ?_;refine bt ?_;refine br ?_
      refine bl rfl rfl (u7 rfl rfl V.h V.h (yM) (by assumption)) (fun hc=>⟨ak,(u9 V.h (yM) (by assumption))⟩) ?_
      refine J7 ?_;refine pd ?_;refine br ?_
      refine bl rfl rfl (lC rfl V.h V.h (Qy (by first|rfl|exact Nat.le_of_ble_eq_true rfl|(simp;done)|(simp;omega)|omega))) (fun hc=>⟨ak,(lD V.h V.h (by first|rfl|exact Nat.le_of_ble_eq_true rfl|(simp;done)|(simp;omega)|omega))⟩) ?_
      refine gc vM ?_;refine bt ?_;refine fB ?_;refine gc kA ?_;refine ej ?_;refine gl ?_
      refine bc (by simp[apartT]) (al rfl (fun h=>(by cases h)) fun h=>cx ?_)
      refine cr ?_
      refine ab (aK (i+1,_) (fN eH) ⟨by dsimp only;omega,nN⟩ (by dsimp only;omega))
     |true=>
      obtain⟨gk,nN⟩:=lN (la w3 rn) fm.symm
      generalize la w3 rn=hv at kA gk nN
      refine fc ?_;refine J2 ?_;refine J7 ?_;refine bt ?_;refine br ?_
      refine bl rfl rfl (u7 rfl rfl V.h V.h (yM) (by assumption)) (fun hc=>⟨ak,(u9 V.h (yM) (by assumption))⟩) ?_
      refine J7 ?_;refine pd ?_;refine br ?_
      refine bl rfl rfl (lC rfl V.h V.h (Qy (by first|rfl|exact Nat.le_of_ble_eq_true rfl|(simp;done)|(simp;omega)|omega))) (fun hc=>⟨ak,(lD V.h V.h (by first|rfl|exact Nat.le_of_ble_eq_true rfl|(simp;done)|(simp;omega)|omega))⟩) ?_
      refine gc vM ?_;refine bt ?_;refine fB ?_;refine gc kA ?_;refine ej ?_;refine cI ?_
      refine bc (by simp[apartT]) (al rfl (fun h=>?_) fun h=>cx ?_)
      .have hf:hv=false:=by simpa using h
       refine ws ?_;refine J1 ?_
       refine ab (aO (cm (cm (cm (aM (HO (ap (d:=B false) rfl ?_)))))))
       rw[gk hf]
      .have ht:hv=true:=by simpa using h
       have nN:=nN ht
       refine cr ?_
       refine ab (aK (i+1,_) (fN eH) ⟨by dsimp only;omega,nN⟩ (by dsimp only;omega))
    .have aZ:¬ i<A.length:=by simpa using h
     have hiA:i=A.length:=by omega
     subst hiA
     show AOps _ _ _ _ _ _ _ _ _
     refine cr ?_
     refine ab (aK (j+1,_) (fN eH) ⟨by dsimp only;omega,fun z hz=>?_,?_⟩ (by dsimp only;omega))
     .dsimp only at hz
      rw[List.take_add_one,hy] at hz
      rcases List.mem_append.1 hz with h|h
      .exact zH z h
      .rw[List.mem_singleton.1 h];simp[bE,eK]
     .dsimp only
      rw[List.take_add_one,hy,List.all_append,B6]
      simpa[K7] using IW
   .have aZ:¬ j<x.ins.length:=by simpa using h
    have CE:j=x.ins.length:=by omega
    subst CE
    show AOps _ _ _ _ _ _ _ _ _
    refine cr ?_
    refine ab (aK (k+1,_) (fN eH) ⟨by dsimp only;omega,j9 bj ?_⟩ (by dsimp only;omega))
    rw[List.take_length] at zH B6
    rw[nY,takeWhile_eq (j:=x.ins.length) (by rw[List.take_length];exact zH) (fun y h=>by simp at h),List.take_length]
    exact B6
  .have aZ:¬ k<n:=by simpa using h
   have:k=n:=by omega
   subst this
   exact bj
 .rintro⟨env,m,nx⟩ bj
  refine⟨_,.refl _,ag ?_⟩
  refine J1 ?_
  refine ab (HO (ap (d:=B true) rfl ?_))
  rw[bj]
end Go.Proofs.Tryz.K
namespace Go.Argus
theorem V9:∀ b1 b2 b3 b4 b5 b6:Bool,(if(if(if(if(if(!b1)=true then true else !b2)=true then true else !b3)=true then true else b4)=true then true else b5)=true then true else !b6)= !(b1&&(b2&&(b3&&(!b4&&(!b5&&b6))))):=by decide
theorem V':∀ b1 b2 b3 b4 b5:Bool,(if(if(if(if(!b1)=true then true else !b2)=true then true else !b3)=true then true else b4)=true then true else b5)= !(b1&&(b2&&(b3&&(!b4&& !b5)))):=by decide
theorem hd3:∀ b1 b2 b3 b4:Bool,(if(if b1=true then true else b2)=true then true else if b3=true then !b4 else false)=(b1||(b2||(b3&& !b4))):=by decide
def l7(l:List Int):List (Value×D):=l.map fun a=>(.int .i64 a,B true)
theorem HX(a:Int):∀ l:List Int,(lookD (.int .i64 a) (l7 l)).map (·.2)=if(l.any (·==a))=true then some (B true) else none
 |[]=>rfl
 |b::l=>by
  have ih:=HX a l
  unfold l7 at ih ⊢
  simp only[List.map_cons,lookD,veq,veq1,List.any_cons,beq_self_eq_true,Bool.true_and] at ih ⊢
  by_cases h:b=a
  .subst h;simp
  .have hb:(b==a)=false:=by simpa using h
   simp only[hb,Bool.false_eq_true,if_false,Option.map_map,Bool.false_or]
   exact ih
theorem ab8{P:Program}{t:TypeId}(hz:zeroD P (melP P t)=B false)(a:Int)(l:List Int):gotD P t false (lookD (.int .i64 a) (l7 l))=B (l.any (·==a)):=by
 have h:=HX a l
 cases h1:lookD (.int .i64 a) (l7 l) with
 |none=>
  rw[h1] at h
  cases h2:l.any (·==a) with
  |true=>rw[h2] at h;simp at h
  |false=>simp[gotD,hz]
 |some x=>
  rw[h1] at h
  cases h2:l.any (·==a) with
  |false=>rw[h2] at h;simp at h
  |true=>rw[h2] at h;simp at h;simp[gotD,h]
theorem ab9{a:Int}{l:List Int}(h:l.any (·==a)=false):putD (.int .i64 a) (B true) (l7 l)=l7 (l++[a]):=by
 have h1:=HX a l
 rw[h] at h1
 unfold putD
 cases h2:lookD (.int .i64 a) (l7 l) with
 |none=>simp[l7]
 |some x=>rw[h2] at h1;simp at h1
theorem Oh{P:Program}{kt:TypeId}(hk:P.underlying kt=some (.int .i64))(l:List Int):(l7 l).all (fun e=>keyP P kt e.1)=true:=by
 refine List.all_eq_true.2 fun x hx=>?_
 obtain⟨y,_,rfl⟩:=List.mem_map.1 hx
 simp[keyP,hk]
theorem Qz{P:Program}{kt:TypeId}(hk:P.underlying kt=some (.int .i64))(a:Int):keyP P kt (.int .i64 a)=true:=by simp[keyP,hk]
theorem aa8{i sz:Nat}{j5:List D}(l:List Int):Row.sub (fz0 i j5 sz) (.map (l7 l))=.map (l7 l):=by
 show Row.map ((l7 l).map _)=_
 unfold l7
 rw[List.map_map];rfl
theorem Xp{bs:List bw}{k:Nat}{x:bw}(hx:bs[k]? =some x):kn bs (k+1)=if(x.fin.kind==7)=true then kn bs k++[x.fin.a] else kn bs k:=by
 unfold kn
 rw[List.take_add_one,hx]
 by_cases h:(x.fin.kind==7)=true
 .simp[h]
 .simp[h]
end Go.Argus
namespace Go.Proofs.Tryz.K
set_option maxRecDepth 10000
theorem F9:prog.underlying 3=some (.int .i64):=kr
theorem ae1:zeroD prog (melP prog 127)=B false:=kr
set_option maxHeartbeats 1000000 in
theorem JW{f:az}:PCall prog 153 [.agg (aB f)] (B (jI f)):=by
 have aP:∀ a∈[D.agg (aB f)],Tr a:=.cons (.agg (gp f)) .nil
 refine aY mixed SW (by rw[ae2];rfl) aP (.s _) ?_
 rw[ae3,ae4]
 refine aq ?_
 refine ia ?_;refine J1 ?_
 refine ab (aJ (rV (i:=0) (l:=[(1,.pt (aB f))]) rfl eH) (aq ?_))
 have JX:=JX (f:=f)
 refine dh ?_;refine cl JX ?_;refine cE ?_
 refine cK (gT (cs':=aW _ _ _) rfl rfl rfl rfl) ak (dU V.h V.h (by first|(simp;done)|exact⟨rfl,Nat.le_of_ble_eq_true rfl⟩|(simp;omega)) (by rfl)) ?_
 refine ab (aJ (rV (i:=1) (l:=[(1,.pt (aB f)),(3,.pt (aW P0 Q0 f))]) rfl eH) (aq ?_))
 refine aG ?_;refine J8 ?_;refine ct ?_;refine jx ?_;refine bt ?_;refine dN ?_;refine dg ?_;refine bt ?_;refine ej ?_;refine nR ?_;refine bD ?_
 refine ab (aJ (fN (l:=[(1,.pt (aB f)),(3,.pt (aW P0 Q0 f)),(4,B (pB f))]) ⟨rfl,rfl,congrArg B (hd3 (f.result==1) (f.result==2) (f.result==0) f.iter),trivial⟩) (aC (ag ?_)))
 have akC:jI f=(mn f&&(pF f&&(mo f&&((List.range f.blocks.length).all (iP f)&&(List.range f.blocks.length).all (qo f))))):=rfl
 rw[akC]
 have hH:mn f=(kq f.name&&(cu f.args 0 (if(f.af.length:Int)<6 then(f.af.length:Int) else 6)&&(pB f&&(!decide ((1200:Int)<f.af.length)&&(!decide ((60:Int)<f.aL.length)&&cu f.blocks.length 1 1200))))):=rfl
 generalize fR:pB f=Wa at hH ⊢
 refine aG ?_;refine cl qW ?_;refine cS ?_;refine ct ?_;refine fe ?_
 refine bl rfl rfl (Sb rfl rfl) (fun hc=>⟨ak,rfl⟩) ?_
 refine gc lm ?_;refine ej ?_;refine di ?_;refine dg ?_;refine ej ?_;refine di ?_;refine fe ?_;refine lb ?_;refine fe ?_;refine lb ?_;refine fe ?_;refine gc lm ?_;refine ej ?_;refine J9 ?_
 refine ab (bp rfl (fun h=>?_) fun h=>b8 (aC (ag ?_)))
 .have h:=(V9 _ _ _ _ _ _).symm.trans h
  rw[<- hH] at h
  have h:mn f=false:=by simpa using h
  refine aC (ag ?_)
  refine J1 ?_
  refine ab (dn (ap (d:=B false) rfl ?_))
  rw[h];rfl
 have h:=(V9 _ _ _ _ _ _).symm.trans h
 rw[<- hH] at h
 have hh:mn f=true:=by simpa using h
 rw[hh,Bool.true_and]
 rw[hH] at hh
 simp only[Bool.and_eq_true,jH,Bool.not_eq_true',decide_eq_false_iff_not] at hh
 obtain⟨_,ha,hr,ji,gm,cR⟩:=hh
 subst hr
 clear h hH
 have rv:0<=f.args/\f.args<=f.af.length/\f.args<=6:=by
  split at ha<;>omega
 have hK:pF f=(ez f.af 3&&(ez (f.af.take f.args.toNat) 2&&(ez f.aL 2&&(!decide ((6:Int)<f.signals.length)&& !f.signals.any fun s=> !isName s)))):=rfl
 have E2:=E2 (l:=f.signals) (g:=193) (fs:=[]) (cs:=[]) (p:=fun s=> !isName s) (.fn (by simp) (by simp)) (fun x _=>akz)
 have ha2:0<=f.args/\f.args<=f.af.length:=⟨rv.1,rv.2.1⟩
 refine aG ?_;refine cl JU ?_;refine cS ?_;refine ct ?_;refine bt ?_
 refine bl rfl rfl (Z4 rfl Wb c5 rfl UG ha2) (fun hc=>⟨(by repeat' (first|exact trivial|exact hc|exact rfl|refine And.intro ?_ ?_)),trivial⟩) ?_
 refine gc JU ?_;refine ej ?_;refine di ?_;refine bt ?_;refine gc JU ?_;refine ej ?_;refine di ?_;refine fe ?_;refine lb ?_;refine bt ?_;refine gc E2 ?_;refine J9 ?_
 refine ab (bp rfl (fun h=>?_) fun h=>b8 (aC (aq ?_)))
 .have h:=(V' _ _ _ _ _).symm.trans h
  rw[<- hK] at h
  have h:pF f=false:=by simpa using h
  refine aC (ag ?_)
  refine J1 ?_
  refine ab (dn (ap (d:=B false) rfl ?_))
  rw[h];rfl
 have h:=(V' _ _ _ _ _).symm.trans h
 rw[<- hK] at h
 have hh:pF f=true:=by simpa using h
 rw[hh,Bool.true_and]
 rw[hK] at hh
 simp only[Bool.and_eq_true,Bool.not_eq_true',decide_eq_false_iff_not] at hh
 obtain⟨_,_,wl,hsg,_⟩:=hh
 clear h hK E2
 have hS:mo f=(List.range (f.signals.length - 1)).all (rY f.signals):=rfl
 rw[hS]
 have mO:f.signals.length<=6:=by omega
 refine J3 ?_
 refine ab (bM (fun s=>Ghost prog s ⟨ax [(1,.pt (aB f)),(3,.pt (aW P0 Q0 f))],fun _=>none,2⟩/\(List.range (f.signals.length - 1)).all (rY f.signals)=true) (cH (α:=Nat) (fun k=>⟨ax [(1,.pt (aB f)),(3,.pt (aW P0 Q0 f)),(5,I (k+1:Nat))],fun _=>none,2⟩) (fun k=>k<=f.signals.length - 1/\(List.range k).all (rY f.signals)=true) (fun k=>f.signals.length - k) 0 (fN eH) ⟨Nat.zero_le _,rfl⟩ ?_) ?_)
 .rintro k ⟨hk,bj⟩
  refine jy ?_
  refine ab ⟨_,rfl,fun h=>?_,fun h=>?_⟩
  .have aj:k+1<f.signals.length:=by have:((k+1:Nat):Int)<f.signals.length:=by simpa using h
                                    omega
   have h1:f.signals[k]? =some f.signals[k]:=List.getElem?_eq_getElem oG
   have h2:f.signals[k+1]? =some f.signals[k+1]:=List.getElem?_eq_getElem oG
   have gm:rY f.signals k=Op.bytesLess f.signals[k].toList f.signals[k+1].toList:=by rw[rY,getD_some h1,getD_some h2]
   generalize f.signals[k]=s1 at h1 gm
   generalize f.signals[k+1]=s2 at h2 gm
   have vL:((k+1:Nat):Int) - 1=(k:Int)/\ -9223372036854775808<=(k:Int)/\(k:Int)<=9223372036854775807:=by omega
   refine dP X5 ?_
   refine aG ?_;refine J0 ?_;refine zy ?_;refine o4 ?_;refine aG ?_;refine gM ?_
   refine aF (Qe rfl rfl) ak trivial ?_
   refine bc (by simp[apartT]) (al rfl (fun h=>?_) fun h=>cx ?_)
   .have hf:rY f.signals k=false:=by rw[gm];simpa using h
    refine ws ?_;refine J1 ?_
    refine ab (aO (cm (aM (ap (d:=B false) rfl ?_))))
    rw[ng oG hf];rfl
   .have ht:rY f.signals k=true:=by rw[gm];simpa using h
    refine bd ?_
    exact ab (aK (k+1) (fN eH) ⟨by omega,j9 bj ht⟩ oG)
  .have aZ:¬ k+1<f.signals.length:=by intro hh;simp at h;omega
   have:k=f.signals.length - 1:=by omega
   subst this
   exact⟨fN eH,bj⟩
 rintro s ⟨hg,bj⟩
 rw[bj,Bool.true_and]
 clear bj hS
 refine⟨_,hg,aq ?_⟩
 refine JY ?_;refine B8 ?_
 refine ab (aJ (aE (l:=[(1,.pt (aB f)),(3,.pt (aW P0 Q0 f)),(6,.mp 2)]) (ml:=[(2,.map (l7 []))]) eH eH) (aC (aq ?_)))
 refine dG ?_;refine J0 ?_
 generalize hn:f.blocks.length=n at cR ⊢
 refine ab (bM (fun s=>∃ N,Ghost prog s ⟨ax [(1,.pt (aB f)),(3,.pt (aW P0 Q0 f))],fun _=>none,N⟩/\(List.range n).all (iP f)=true) (eX (α:=Nat×Nat) (fun k=>⟨ax [(1,.pt (aB f)),(3,.pt (aW P0 Q0 f)),(6,.mp 2),(123,fu f.blocks),(124,I n),(125,I k.1)],aX [(2,.map (l7 (kn f.blocks k.1)))],k.2⟩) (fun k=>k.1<=n/\(List.range k.1).all (iP f)=true/\3<=k.2) (fun k=>n - k.1) (0,3) (aE eH eH) ⟨Nat.zero_le _,rfl,Nat.le_refl _⟩ ?_) ?_)
 .rintro⟨k,N⟩ ⟨hk,bj,hN⟩
  dsimp only at hk bj hN ⊢
  refine bB ?_
  refine ab ⟨_,rfl,fun h=>?_,fun h=>?_⟩
  .have aj:k<n:=by simpa using h
   have hx:f.blocks[k]? =some f.blocks[k]:=List.getElem?_eq_getElem oG
   generalize f.blocks[k]=x at hx
   have mQ:iP f k=(iR f x.fin&&(!decide ((200:Int)<x.ins.length)&& !(x.fin.kind==7&&(kn f.blocks k).any (·==x.fin.a)))):=by rw[iP,getD_some hx]
   have nZ:=Xp hx
   have Fi:=Fi (f:=f) (x:=x.fin)
   generalize kn f.blocks k=l at mQ nZ
   refine aq ?_
   refine l5 ?_;refine ur ?_;refine cE ?_;refine xN ?_
   refine ab (aJ (nh (i:=N) (l:=[(1,.pt (aB f)),(3,.pt (aW P0 Q0 f)),(6,.mp 2),(8,.pt (eN x)),(123,fu f.blocks),(124,I n),(125,I k)]) (ml:=[(2,.map (l7 l))]) (up_same _ _ _) ⟨rfl,rfl,rfl,mG,rfl,rfl,rfl,trivial⟩ ⟨wV oG (au oG (au oG rfl)) (aa8 l),trivial⟩) (aC (ag ?_)))
   generalize iR f x.fin=e at Fi mQ
   refine l6 ?_;refine J6 ?_;refine gS ?_;refine cl Fi ?_;refine cS ?_;refine ct ?_;refine j8 ?_;refine m8 ?_;refine J9 ?_
   refine ab (bp rfl (fun h=>?_) fun h=>b8 (ag ?_))
   .have hf:iP f k=false:=by
     rw[mQ]
     cases e with
     |false=>rfl
     |true=>have:decide ((200:Int)<x.ins.length)=true:=by simpa using h
            rw[this];rfl
    refine aC (ag ?_)
    refine J1 ?_
    refine ab (dn (cm (aM (ap (d:=B false) rfl ?_))))
    rw[ng aj hf];rfl
   have mQ:iP f k= !(x.fin.kind==7&&l.any (·==x.fin.a)):=by
    rw[mQ]
    cases e with
    |false=>simp at h
    |true=>have:decide ((200:Int)<x.ins.length)=false:=by simpa using h
           rw[this];rfl
   refine J6 ?_;refine aG ?_;refine J8 ?_
   refine ab (al rfl (fun h7=>?_) fun h7=>cx ?_)
   .rw[h7] at mQ nZ
    refine aC (ag ?_)
    refine Aq ?_;refine J6 ?_;refine aG ?_
    refine aF (ZC rfl rfl rfl IX (ab8 ae1 _ _)) (by repeat' (first|exact trivial|exact rfl|refine And.intro ?_ ?_)) ⟨IY,Qz F9 _,Oh F9 _⟩ ?_
    refine ab (bp rfl (fun h=>?_) fun h=>b8 (eO ?_))
    .have hf:iP f k=false:=by rw[mQ,h];rfl
     refine aC (ag ?_)
     refine J1 ?_
     refine ab (dn (cm (aM (ap (d:=B false) rfl ?_))))
     rw[ng aj hf];rfl
    .have ht:iP f k=true:=by rw[mQ,h];rfl
     refine Aq ?_;refine J6 ?_;refine aG ?_
     refine cK (abU rfl rfl rfl rfl IX) (by repeat' (first|exact trivial|exact rfl|refine And.intro ?_ ?_)) ⟨IY,Qz F9 _,Oh F9 _⟩ ?_
     refine ab ?_
     refine cr ?_
     refine ab (aK (k+1,_) (aE eH ⟨?_,trivial⟩) ⟨by dsimp only;omega,j9 bj ht,by dsimp only;omega⟩ (by dsimp only;omega))
     dsimp only
     rw[nZ,if_pos rfl, <- ab9 h]
     exact up_same _ _ _
   .rw[h7] at mQ nZ
    refine cr ?_
    refine ab (aK (k+1,_) (aE eH ⟨?_,trivial⟩) ⟨by dsimp only;omega,j9 bj mQ,by dsimp only;omega⟩ (by dsimp only;omega))
    dsimp only
    rw[nZ,if_neg (by simp)]
    rfl
  .have aZ:¬ k<n:=by simpa using h
   have:k=n:=by omega
   subst this
   exact⟨N,fN eH,bj⟩
 rintro s ⟨N,hg,bj⟩
 rw[bj,Bool.true_and]
 have hE:∀ x∈f.blocks,EM f x.fin:=fun x hx=>by
  obtain⟨k,hk⟩:=List.getElem?_of_mem hx
  have aj:k<n:=by rw[<- hn];exact(List.getElem?_eq_some_iff.1 hk).1
  have:=List.all_eq_true.1 bj k (by simpa using aj)
  rw[iP,getD_some hk] at this
  simp only[Bool.and_eq_true] at this
  exact Hs oG fR this.1
 have An:=An (f:=f) kR kS rfl rfl hn oG (fun b h=>by have:=(hE b h).wh;omega) (fun b h t ht=>hn▸(hE b h).to t (Dx.1 ht))
 refine⟨_,hg,ag ?_⟩
 refine l6 ?_;refine cl An ?_;refine fJ ?_
 refine ab (aC (aq ?_))
 refine dG ?_;refine J0 ?_
 refine ab (bM (fun s=>(List.range n).all (qo f)=true) (eX (α:=Nat×Nat) (fun k=>⟨ax [(1,.pt (aB f)),(3,.pt (aW P0 Q0 f)),(9,bC (dJ f.blocks)),(157,fu f.blocks),(158,I n),(159,I k.1)],fun _=>none,k.2⟩) (fun k=>k.1<=n/\(List.range k.1).all (qo f)=true) (fun k=>n - k.1) (0,N) (fN ⟨rfl,rfl,rfl,rfl,congrArg (fun k:Nat=>I k) hn,rfl,trivial⟩) ⟨Nat.zero_le _,rfl⟩ ?_) ?_)
 .rintro⟨k,N⟩ ⟨hk,bj⟩
  dsimp only at hk bj ⊢
  refine bB ?_
  refine ab ⟨_,rfl,fun h=>?_,fun h=>?_⟩
  .have aj:k<n:=by simpa using h
   have hx:f.blocks[k]? =some f.blocks[k]:=List.getElem?_eq_getElem oG
   have b7:f.blocks[k]∈f.blocks:=List.getElem_mem _
   generalize f.blocks[k]=x at hx b7
   have hA:=GQ hn aj
   have nY:qo f k=(List.range x.ins.length).all (tl f k x.ins):=by rw[qo,getD_some hx]
   have nP:∀ j,tl f k x.ins j=iB f k (x.ins.getD j dx) ((x.ins.take (j+1)).all bE) (bf f.blocks n k).length:=fun j=>by rw[tl,hn]
   generalize bf f.blocks n k=A at hA nP
   refine aq ?_
   refine J0 ?_;refine l5 ?_;refine ur ?_;refine cE ?_;refine J3 ?_;refine xN ?_
   refine ab (aJ (rV (i:=N) (l:=[(1,.pt (aB f)),(3,.pt (aW P0 Q0 f)),(9,bC (dJ f.blocks)),(10,I k),(11,.pt (eN x)),(157,fu f.blocks),(158,I n),(159,I k)]) (up_same _ _ _) ⟨rfl,rfl,rfl,rfl,mG,rfl,rfl,rfl,trivial⟩) (ag ?_))
   refine J1 ?_
   refine ab (aq ?_)
   refine dG ?_;refine J0 ?_
   have gW:x.ins.length<=200:=by
    have:=List.all_eq_true.1 ‹(List.range n).all (iP f)=true› k (by simpa using aj)
    rw[iP,getD_some hx] at this
    simp only[Bool.and_eq_true,Bool.not_eq_true',decide_eq_false_iff_not] at this
    omega
   refine ab (eX (α:=Nat×Nat) (fun j=>⟨ax [(1,.pt (aB f)),(3,.pt (aW P0 Q0 f)),(9,bC (dJ f.blocks)),(10,I k),(12,B ((x.ins.take j.1).all bE)),(157,fu f.blocks),(158,I n),(159,I k),(165,gq x.ins),(166,I x.ins.length),(167,I j.1)],fun _=>none,j.2⟩) (fun j=>j.1<=x.ins.length/\(List.range j.1).all (tl f k x.ins)=true) (fun j=>x.ins.length - j.1) (0,N+1) (fN eH) ⟨Nat.zero_le _,rfl⟩ ?_)
   rintro⟨j,N⟩ ⟨hj,IZ⟩
   dsimp only at hj IZ ⊢
   refine bB ?_
   refine ab ⟨_,rfl,fun h=>?_,fun h=>?_⟩
   .have cD:j<x.ins.length:=by simpa using h
    have hy:x.ins[j]? =some x.ins[j]:=List.getElem?_eq_getElem cD
    generalize x.ins[j]=y at hy
    have uk:(x.ins.take (j+1)).all bE=((x.ins.take j).all bE&&bE y):=by rw[List.take_add_one,hy,List.all_append];simp
    have nP:=nP j
    rw[getD_some hy] at nP
    generalize (x.ins.take j).all bE=ph at uk
    refine aq ?_
    refine oZ ?_;refine eF ?_;refine cE ?_;refine Fa ?_
    refine ab (aJ (rV (i:=N) (l:=[(1,.pt (aB f)),(3,.pt (aW P0 Q0 f)),(9,bC (dJ f.blocks)),(10,I k),(12,B ph),(14,.pt (a7 y)),(157,fu f.blocks),(158,I n),(159,I k),(165,gq x.ins),(166,I x.ins.length),(167,I j)]) (up_same _ _ _) ⟨rfl,rfl,rfl,rfl,rfl,mG,rfl,rfl,rfl,rfl,rfl,rfl,trivial⟩) (aq ?_))
    refine J2 ?_;refine ct ?_;refine dN ?_;refine bD ?_
    refine ab (aJ (fN (l:=[(1,.pt (aB f)),(3,.pt (aW P0 Q0 f)),(9,bC (dJ f.blocks)),(10,I k),(12,B ((x.ins.take (j+1)).all bE)),(14,.pt (a7 y)),(157,fu f.blocks),(158,I n),(159,I k),(165,gq x.ins),(166,I x.ins.length),(167,I j)]) ⟨rfl,rfl,rfl,rfl,?_,rfl,rfl,rfl,rfl,rfl,rfl,rfl,trivial⟩) (dP X6 ?_))
    .rw[uk];cases ph<;>rfl
    have Fj:=Fj (f:=f) (b:=(k:Int)) (ahead:=(A.length:Int)) (x:=y) (phis:=(x.ins.take (j+1)).all bE)
    rw[<- nP] at Fj
    refine l6 ?_;refine J0 ?_;refine eF ?_;refine J2 ?_;refine fc ?_;refine iL ?_;refine cl Fj ?_;refine cS ?_
    refine bc (by simp[apartT]) (al rfl (fun h=>?_) fun h=>cx ?_)
    .have hf:tl f k x.ins j=false:=by simpa using h
     refine ws ?_;refine J1 ?_
     refine ab (aO (cm (cm (aM (ap (d:=B false) rfl ?_)))))
     rw[ng aj (by rw[nY];exact ng cD hf)]
    .have ht:tl f k x.ins j=true:=by simpa using h
     refine cr ?_
     exact ab (aK (j+1,_) (fN eH) ⟨by dsimp only;omega,j9 IZ ht⟩ (by dsimp only;omega))
   .have aZ:¬ j<x.ins.length:=by simpa using h
    have CE:j=x.ins.length:=by omega
    subst CE
    show AOps _ _ _ _ _ _ _ _ _
    refine cr ?_
    exact ab (aK (k+1,_) (fN eH) ⟨by dsimp only;omega,j9 (by assumption) (nY.trans IZ)⟩ (by dsimp only;omega))
  .have aZ:¬ k<n:=by simpa using h
   have:k=n:=by omega
   subst this
   show(List.range k).all (qo f)=true
   assumption
 .rintro⟨env,m,nx⟩ bj
  refine⟨_,.refl _,ag ?_⟩
  refine J1 ?_
  refine ab (ap (d:=B true) rfl ?_)
  rw[bj]
theorem wG{f:az}:PCall prog 95 [.agg (aB f)] (I (eh f)):=by
 have aP:∀ a∈[D.agg (aB f)],Tr a:=.cons (.agg (gp f)) .nil
 refine aY mixed UH (by rw[akE];rfl) aP (.s _) ?_
 rw[akF,akG]
 have JW:=JW (f:=f)
 refine aq ?_
 refine ia ?_;refine J3 ?_
 refine ab (aJ (rV (i:=0) (l:=[(1,.pt (aB f))]) rfl eH) (mg (ag ?_)))
 refine dh ?_;refine cl JW ?_;refine cS ?_;refine J1 ?_
 refine ab (al rfl (fun h=>ag ?_) fun h=>ag ?_)
 .have hf:jI f=false:=by simpa using h
  refine J3 ?_
  refine ab (aO (bh (aM (ap (d:=I 80) rfl ?_))))
  rw[eh,if_neg (by simp[hf])]
 .have hf:jI f=true:=by simpa using h
  have bQ:=xq hf
  obtain⟨args,ha⟩:=Int.eq_ofNat_of_zero_le bQ.args.1
  have rv:=bQ.args.2
  have Fh:=Fh (p:=.s (.map none)) (q:=.s (.map none)) (f:=f) (.s _) (.s _) rfl rfl rfl bQ.pos (by have:=bQ.nS;omega) ha oG (DD args) bQ.blk (fun b x hx y hy eK=>bQ.Gb hx hy eK)
  have cT:eh f=if uV f.blocks args=true then 0 else 81:=by rw[eh,if_pos hf,ha,Int.toNat_natCast]
  generalize uV f.blocks args=r at Fh cT
  refine dh ?_;refine UI ?_;refine cl Fh ?_;refine cS ?_;refine J1 ?_
  refine ab (al rfl (fun h=>ag ?_) fun h=>lH (ag ?_))
  .have hr:r=false:=by simpa using h
   refine J3 ?_
   refine ab (aO (bh (aM (ap (d:=I 81) rfl ?_))))
   rw[cT,hr];rfl
  .have hr:r=true:=by simpa using h
   refine J3 ?_
   refine ab (aO (ap (d:=I 0) rfl ?_))
   rw[cT,hr];rfl
end Go.Proofs.Tryz.K
namespace Go.Argus
def SX(a b:Int):Int:=intBitsV .andNot .u64 a b
def EN(w:List Int)(m:Nat):List Int:=w.set (m / 64) (SX (w.getD (m / 64) 0) (IntKind.u64.wrap (1*2 ^ (min (m % 64) 64))))
def vt(w:List Int)(n:Int):List Int:=if 0<=n then EN w n.toNat else w
def vu(w v:List Int):Nat->List Int
 |0=>w
 |k+1=>(vu w v k).set k (yw ((vu w v k).getD k 0) (v.getD k 0))
def ae5(w v:List Int):List Int:=vu w v 19
@[simp] theorem aqr (w : List Int) (m : Nat) : (EN w m).length = w.length := by simp [EN]
@[simp] theorem aqs (w : List Int) (n : Int) : (vt w n).length = w.length := by unfold vt; split <;> simp
@[simp] theorem MP (w v : List Int) : ∀ k, (vu w v k).length = w.length
 |0=>rfl
 |k+1=>by simp[vu,MP w v k]
@[simp] theorem aqt (w v : List Int) : (ae5 w v).length = w.length := MP w v 19
def fp(x:End):List Int:=if x.kind≠3/\x.kind≠4 then [x.to] else []
def l9(x:End):List Int:=if x.kind=2\/x.kind=8 then fp x++[x.fC] else fp x
def cJ(x:End)(k:Nat):List Int:=l9 x++(x.aD.take k).map (·.to)
def dc(x:End):List Int:=if 0<=x.bX then cJ x x.aD.length++[x.bX] else cJ x x.aD.length
theorem NE{x:End}{k:Nat}{w:jv}(h:x.aD[k]? =some w):cJ x (k+1)=cJ x k++[w.to]:=by
 unfold cJ
 rw[List.take_add_one,h,List.map_append,List.append_assoc]
 rfl
theorem A5(x:End):(l9 x).length<=2:=by unfold l9 fp;repeat' split<;>simp
theorem AN(x:End):(dc x).length<=x.aD.length+3:=by
 have:=A5 x
 unfold dc cJ
 split<;>simp<;>omega
end Go.Argus
end
namespace Go.Argus
open Go Go.Abs
theorem W8(v:BitVec 64)(i:Nat):(IntKind.u64.wrap (v.toNat:Int)).toNat.testBit i=v.getLsbD i:=by
 rw[wrap_u64 v.isLt,Int.toNat_natCast,BitVec.testBit_toNat]
theorem Gw{a:Int}(ha:dy a)(i:Nat):(BitVec.ofInt 64 a).getLsbD i=a.toNat.testBit i:=by
 obtain⟨n,rfl⟩:=Int.eq_ofNat_of_zero_le ha.1
 have h:=ha.2
 rw[<- BitVec.testBit_toNat,BitVec.toNat_ofInt]
 congr 1
 omega
theorem ajN{a b:Int}(ha:dy a)(hb:dy b)(i:Nat):(yw a b).toNat.testBit i=(a.toNat.testBit i||b.toNat.testBit i):=by
 have:yw a b=IntKind.u64.wrap (((BitVec.ofInt 64 a||| BitVec.ofInt 64 b).toNat:Nat):Int):=rfl
 rw[this,W8,BitVec.getLsbD_or,Gw ha,Gw hb]
theorem RZ{a b:Int}(ha:dy a)(hb:dy b)(i:Nat):(oF a b).toNat.testBit i=(a.toNat.testBit i&&b.toNat.testBit i):=by
 have:oF a b=IntKind.u64.wrap (((BitVec.ofInt 64 a&&& BitVec.ofInt 64 b).toNat:Nat):Int):=rfl
 rw[this,W8,BitVec.getLsbD_and,Gw ha,Gw hb]
theorem Hb(v:BitVec 64):dy (IntKind.u64.wrap (v.toNat:Int)):=by
 rw[wrap_u64 v.isLt]
 have:=v.isLt
 unfold dy
 omega
theorem Yt(a b:Int):dy (SX a b):=Hb (BitVec.ofInt 64 a&&& ~~~ BitVec.ofInt 64 b)
theorem Ng(a b:Int):dy (yw a b):=Hb (BitVec.ofInt 64 a||| BitVec.ofInt 64 b)
theorem abH{k:Nat}(hk:k<64):IntKind.u64.wrap (1*2 ^ (min k 64))=((2 ^ k:Nat):Int):=by
 have h1:min k 64=k:=by omega
 have h2:(2:Nat) ^ k<2 ^ 64:=Nat.pow_lt_pow_right oG hk
 rw[h1,Int.one_mul, <- wrap_u64 h2]
 norm_cast
def dM(w:List Int)(r:Nat):Bool:=(w.getD (r / 64) 0).toNat.testBit (r % 64)
def eT(w:List Int):Prop:=∀ u∈w,dy u
theorem eT.get{w:List Int}(h:eT w)(i:Nat):dy (w.getD i 0):=by
 rw[List.getD_eq_getElem?_getD]
 cases hx:w[i]? with
 |none=>exact⟨by simp,by simp⟩
 |some u=>exact h u (List.mem_of_getElem? hx)
theorem aaK{k:Nat}(hk:k<64):dy ((2 ^ k:Nat):Int):=by
 have h2:(2:Nat) ^ k<2 ^ 64:=Nat.pow_lt_pow_right oG hk
 generalize (2:Nat) ^ k=z at h2
 unfold dy;omega
theorem HF{w:List Int}(h:eT w)(m:Nat):la w m=dM w m:=by
 have hu:=h.get (m / 64)
 unfold la dM
 generalize w.getD (m / 64) 0=u at hu
 have hk:min (m % 64) 64=m % 64:=by omega
 rw[hk]
 obtain⟨n,rfl⟩:=Int.eq_ofNat_of_zero_le hu.1
 have e:((n:Int).fdiv (2 ^ (m % 64)))=((n / 2 ^ (m % 64):Nat):Int):=by
  rw[Int.fdiv_eq_ediv_of_nonneg _ (Int.le_of_lt (Int.pow_pos oG)),Int.natCast_ediv,Int.natCast_pow]
  rfl
 rw[e]
 have hd:n / 2 ^ (m % 64)<=n:=Nat.div_le_self _ _
 have hq:dy ((n / 2 ^ (m % 64):Nat):Int):=by
  have:=hu.2
  revert hd
  generalize n / 2 ^ (m % 64)=z
  intro hd
  unfold dy;omega
 have h1:dy 1:=by unfold dy;omega
 have hb:∀ i,(oF ((n / 2 ^ (m % 64):Nat):Int) 1).toNat.testBit i=(n.testBit (m % 64)&&decide (i=0)):=fun i=>by
  rw[RZ hq h1,Int.toNat_natCast]
  by_cases hi:i=0
  .subst hi
   simp[Nat.testBit_eq_decide_div_mod_eq]
  .have:(1:Int).toNat.testBit i=false:=by
    show Nat.testBit 1 i=false
    cases i with
    |zero=>omega
    |succ j=>simp[Nat.testBit_succ]
   rw[this];simp[hi]
 have hp:dy (oF ((n / 2 ^ (m % 64):Nat):Int) 1):=Hb (BitVec.ofInt 64 _&&& BitVec.ofInt 64 1)
 generalize oF ((n / 2 ^ (m % 64):Nat):Int) 1=z at hb hp
 obtain⟨q,rfl⟩:=Int.eq_ofNat_of_zero_le hp.1
 simp only[Int.toNat_natCast] at hb ⊢
 cases hn:n.testBit (m % 64) with
 |false=>
  have:q=0:=Nat.eq_of_testBit_eq fun i=>by rw[hb i,hn];simp
  subst this;rfl
 |true=>
  have:q=1:=Nat.eq_of_testBit_eq fun i=>by
   rw[hb i,hn]
   cases i with
   |zero=>simp
   |succ j=>simp[Nat.testBit_succ]
  subst this;rfl
theorem PT{w:List Int}{i:Nat}{u:Int}(hi:i<w.length)(r:Nat):dM (w.set i u) r=if r / 64=i then u.toNat.testBit (r % 64) else dM w r:=by
 unfold dM
 simp only[List.getD_eq_getElem?_getD,List.getElem?_set]
 split
 .rename_i h;subst h;simp[hi]
 .rename_i h;rw[if_neg fun e=>h e.symm]
theorem aaC{w:List Int}(h:eT w){m:Nat}(hm:m / 64<w.length)(r:Nat):dM (tA w m) r=(dM w r||decide (r=m)):=by
 have hk:m % 64<64:=by omega
 unfold tA
 rw[abH hk,PT hm]
 split
 .rename_i e
  rw[ajN (h.get _) (aaK hk),Int.toNat_natCast,Nat.testBit_two_pow,dM,e]
  congr 1
  apply decide_eq_decide.2
  omega
 .rename_i e
  have:¬ r=m:=fun h=>e (by rw[h])
  simp[this]
theorem eT.set{w:List Int}(h:eT w){i:Nat}{u:Int}(hu:dy u):eT (w.set i u):=fun x hx=>by
 rcases List.mem_or_eq_of_mem_set hx with h1|h1
 .exact h x h1
 .subst h1;exact hu
theorem eT.with{w:List Int}(h:eT w)(m:Nat):eT (tA w m):=h.set (Ng _ _)
theorem eT.less{w:List Int}(h:eT w)(m:Nat):eT (EN w m):=h.set (Yt _ _)
theorem eT.vt{w:List Int}(h:eT w)(n:Int):eT (vt w n):=by
 unfold Argus.vt;split
 .exact h.less _
 .exact h
theorem eT.vu{w v:List Int}(h:eT w):∀ k,eT (vu w v k)
 |0=>h
 |k+1=>(eT.vu h k).set (Ng _ _)
theorem Nd{w v:List Int}(h:eT w)(hv:eT v)(hl:w.length=v.length)(he:∀ r,dM w r=dM v r):w=v:=by
 apply List.ext_getElem hl
 intro i h1 h2
 have e1:w.getD i 0=w[i]:=by simp[List.getD_eq_getElem?_getD,List.getElem?_eq_getElem h1]
 have e2:v.getD i 0=v[i]:=by simp[List.getD_eq_getElem?_getD,List.getElem?_eq_getElem h2]
 have a:=h w[i] (by simp)
 have b:=hv v[i] (by simp)
 have:w[i].toNat=v[i].toNat:=Nat.eq_of_testBit_eq fun k=>by
  by_cases hk:k<64
  .have:=he (i*64+k)
   unfold dM at this
   rw[show(i*64+k) / 64=i by omega,show(i*64+k) % 64=k by omega,e1,e2] at this
   exact this
  .have h2:2 ^ 64<=2 ^ k:=Nat.pow_le_pow_right oG oG
   unfold dy at a b
   rw[Nat.testBit_lt_two_pow oG,Nat.testBit_lt_two_pow oG]
 unfold dy at a b
 omega
theorem aaF(n r:Nat):dM (List.replicate n 0) r=false:=by
 unfold dM
 rw[List.getD_eq_getElem?_getD,List.getElem?_replicate]
 split<;>simp
theorem Zv(n:Nat):eT (List.replicate n 0):=fun u hu=>by
 rw[List.eq_of_mem_replicate hu];simp[dy]
section
variable(beh:Nat->List Int)(oM:Nat->Bool->Int)(qi:Nat->Nat->Int)
inductive Lv:Nat->Prop
 |here {b:Nat}:oM b true=1->Lv b
 |read {b:Nat} {c:Int}:oM b true=0->c∈beh b->qi b c.toNat=1->Lv b
 |on {b:Nat} {c:Int}:oM b true=0->c∈beh b->qi b c.toNat=0->Lv c.toNat->Lv b
variable{beh oM qi}{UJ:Nat->Bool}{wIn:Nat->Bool->Bool}
inductive GP(beh:Nat->List Int)(oM:Nat->Bool->Int)(qi:Nat->Nat->Int)(b0:Int):List Int->Int->Prop
 |one:GP beh oM qi b0 [b0] b0
 |snoc {p:List Int} {a c:Int}:GP beh oM qi b0 p a->oM a.toNat true=0->c∈beh a.toNat->qi a.toNat c.toNat=0->GP beh oM qi b0 (p++[c]) c
theorem GP.head{b0:Int}{p:List Int}{b:Int}(h:GP beh oM qi b0 p b):∃ t,p=b0::t:=by
 induction h with
 |one=>exact⟨[],rfl⟩
 |snoc _ _ _ _ ih=>
  obtain⟨t,rfl⟩:=ih
  exact⟨t++_,rfl⟩
theorem Xm{V:Nat->Prop}(hV:∀ b,V b->oM b true≠1/\(oM b true=0->∀ c∈beh b,qi b c.toNat≠1/\(qi b c.toNat=0->V c.toNat))){b:Nat}(hb:V b):¬ Lv beh oM qi b:=by
 intro h
 induction h with
 |here h=>exact(hV _ hb).1 h
 |read h1 h2 h3=>exact((hV _ hb).2 h1 _ h2).1 h3
 |on h1 h2 h3 _ ih=>exact ih (((hV _ hb).2 h1 _ h2).2 h3)
end
def vA(s:List Bool)(c:Int):Bool:=s.getD c.toNat false
def dF(beh:Nat->List Int)(w:Int):Nat->List Bool×List Int->Nat->List Bool×List Int
 |0,s,_=>s
 |k+1,s,b=>
  let r:=(beh b).foldl (fun s c=>if vA s.1 c=false/\c≠w then dF beh w k s c.toNat else s) (s.1.set b true,s.2)
  (r.1,r.2++[(b:Int)])
def df(beh:Nat->List Int)(w:Int)(k:Nat)(s:List Bool×List Int)(l:List Int):List Bool×List Int:=
 l.foldl (fun s c=>if vA s.1 c=false/\c≠w then dF beh w k s c.toNat else s) s
theorem td(beh:Nat->List Int)(w:Int)(k:Nat)(s:List Bool×List Int)(b:Nat):
 dF beh w (k+1) s b=((df beh w k (s.1.set b true,s.2) (beh b)).1,(df beh w k (s.1.set b true,s.2) (beh b)).2++[(b:Int)]):=rfl
theorem DO(beh:Nat->List Int)(w:Int)(k:Nat)(s:List Bool×List Int)(l:List Int)(c:Int):
 df beh w k s (l++[c])=(if vA (df beh w k s l).1 c=false/\c≠w then dF beh w k (df beh w k s l) c.toNat else df beh w k s l):=by
 rw[df,List.foldl_append]
 rfl
theorem H3{α:Type}{p:List α->Prop}(h0:p [])(h1:∀ l a,p l->p (l++[a]))(l:List α):p l:=by
 have h:∀ l:List α,p l.reverse:=fun l=>by
  induction l with
  |nil=>exact h0
  |cons a l ih=>rw[List.reverse_cons];exact h1 _ _ ih
 have:=h l.reverse
 rwa[List.reverse_reverse] at this
theorem GA{l:List Bool}{b:Nat}:(l.set b true).count false<=l.count false:=by
 induction l generalizing b with
 |nil=>simp
 |cons x l ih=>
  cases b with
  |zero=>cases x<;>simp
  |succ b=>simp only[List.set_cons_succ,List.count_cons];have:=ih (b:=b);omega
theorem uQ{l:List Bool}{b:Nat}(h:l[b]? =some false):(l.set b true).count false+1=l.count false:=by
 induction l generalizing b with
 |nil=>simp at h
 |cons x l ih=>
  cases b with
  |zero=>simp at h;subst h;simp
  |succ b=>simp only[List.set_cons_succ,List.count_cons];have:=ih (b:=b) (by simpa using h);omega
structure sL(beh:Nat->List Int)(w:Int)(s s':List Bool×List Int):Prop where
 len:s'.1.length=s.1.length
 cnt:s'.1.count false<=s.1.count false
 mono:∀ i,s.1.getD i false=true->s'.1.getD i false=true
 out:∃ l:List Int,s'.2=s.2++l/\l.Nodup/\∀ x,x∈l↔0<=x/\s'.1.getD x.toNat false=true/\s.1.getD x.toNat false=false
theorem sL.refl{beh:Nat->List Int}{w:Int}(s:List Bool×List Int):sL beh w s s:=⟨rfl,Nat.le_refl _,fun _ h=>h,[],by simp,List.nodup_nil,fun x=>by
 constructor
 .intro h;simp at h
 .rintro⟨_,h1,h2⟩;rw[h1] at h2;cases h2⟩
theorem sL.trans{beh:Nat->List Int}{w:Int}{s t u:List Bool×List Int}(h1:sL beh w s t)(h2:sL beh w t u):sL beh w s u:=by
 refine⟨h2.len.trans h1.len,Nat.le_trans h2.cnt h1.cnt,fun i h=>h2.mono i (h1.mono i h),?_⟩
 obtain⟨l1,a1,b1,c1⟩:=h1.out
 obtain⟨l2,a2,b2,c2⟩:=h2.out
 refine⟨l1++l2,by rw[a2,a1,List.append_assoc],?_,fun x=>?_⟩
 .rw[List.nodup_append]
  refine⟨b1,b2,fun a ha b hb e=>?_⟩
  subst e
  have:=((c1 a).1 ha).2.1
  rw[((c2 a).1 hb).2.2] at this
  cases this
 .rw[List.mem_append,c1,c2]
  constructor
  .rintro(⟨h0,h,h'⟩|⟨h0,h,h'⟩)
   .exact⟨h0,h2.mono _ h,h'⟩
   .refine⟨h0,h,?_⟩
    cases hs:s.1.getD x.toNat false with
    |false=>rfl
    |true=>rw[h1.mono _ hs] at h';cases h'
  .rintro⟨h0,h,h'⟩
   cases ht:t.1.getD x.toNat false with
   |true=>exact .inl ⟨h0,rfl,h'⟩
   |false=>exact .inr ⟨h0,h,rfl⟩
theorem getD_set_true{l:List Bool}{b i:Nat}(hb:b<l.length):(l.set b true).getD i false=(decide (i=b)||l.getD i false):=by
 simp only[List.getD_eq_getElem?_getD,List.getElem?_set]
 split
 .rename_i h;subst h;simp[hb]
 .rename_i h
  have:¬ i=b:=fun e=>h e.symm
  simp[this]
section
variable{beh:Nat->List Int}{w:Int}{n:Nat}(hb:∀ b,∀ c∈beh b,0<=c/\c.toNat<n)
theorem uR{l:List Bool}{c:Nat}(h:l.getD c false=false)(hc:c<l.length):l[c]? =some false:=by
 rw[List.getD_eq_getElem?_getD,List.getElem?_eq_getElem hc] at h
 rw[List.getElem?_eq_getElem hc]
 simpa using h
include hb in
theorem NZ:∀ (k:Nat) (s:List Bool×List Int) (b:Nat),s.1.length=n->b<n->s.1.count false<=k->s.1.getD b false=false->
 sL beh w s (dF beh w k s b)/\(dF beh w k s b).1.getD b false=true/\
 (∀ x,(dF beh w k s b).1.getD x false=true->s.1.getD x false=false->∀ c∈beh x,c≠w->(dF beh w k s b).1.getD c.toNat false=true)
 |0,s,b,hn,At,hk,hs=>by
  have:=uQ (uR hs oG)
  omega
 |k+1,s,b,hn,At,hk,hs=>by
  have h0:sL beh w s (s.1.set b true,s.2++[(b:Int)]):=by
   refine⟨by simp,GA,fun i h=>?_,[(b:Int)],rfl,by simp,fun x=>?_⟩
   .simp only;rw[getD_set_true oG,h,Bool.or_true]
   .simp only[getD_set_true (show b<s.1.length by omega),List.mem_singleton]
    constructor
    .rintro rfl;simp[<- List.getD_eq_getElem?_getD,hs]
    .rintro⟨h1,h2,h3⟩
     rw[h3,Bool.or_false,decide_eq_true_eq] at h2
     omega
  have hF:∀ l:List Int,(∀ c∈l,0<=c/\c.toNat<n)->∀ o,let r:=df beh w k (s.1.set b true,o) l
   sL beh w (s.1.set b true,o) r/\(∀ c∈l,c≠w->r.1.getD c.toNat false=true)/\
   (∀ x,r.1.getD x false=true->(s.1.set b true).getD x false=false->∀ c∈beh x,c≠w->r.1.getD c.toNat false=true):=by
   intro l
   induction l using H3 with
   |h0=>intro _ o;exact⟨.refl _,fun c h=>by simp at h,fun x h h'=>by rw[show(df beh w k (s.1.set b true,o) []).1=s.1.set b true from rfl,h'] at h;cases h⟩
   |h1 l c ih=>
    intro hl o
    obtain⟨g1,g2,g3⟩:=ih (fun c h=>hl c (by simp[h])) o
    simp only
    rw[DO]
    generalize df beh w k (s.1.set b true,o) l=t at g1 g2 g3
    have hc:=hl c (by simp)
    have cW:t.1.length=n:=by rw[g1.len];simp[hn]
    split
    .rename_i p8
     have p6:t.1.getD c.toNat false=false:=p8.1
     have B':t.1.count false<=k:=by
      have a1:=g1.cnt
      have a2:=uQ (uR hs oG)
      simp only at a1
      omega
     obtain⟨q1,q2,q3⟩:=NZ k t c.toNat cW hc.2 B' p6
     refine⟨g1.trans q1,fun c' h' hw=>?_,fun x h1 h2 c' Ac hw=>?_⟩
     .rw[List.mem_append] at h'
      rcases h' with h'|h'
      .exact q1.mono _ (g2 c' h' hw)
      .simp at h';subst h';exact q2
     .cases ht:t.1.getD x false with
      |true=>exact q1.mono _ (g3 x ht h2 c' Ac hw)
      |false=>exact q3 x h1 ht c' Ac hw
    .rename_i p8
     refine⟨g1,fun c' h' hw=>?_,g3⟩
     rw[List.mem_append] at h'
     rcases h' with h'|h'
     .exact g2 c' h' hw
     .simp at h';subst h'
      cases ht:t.1.getD c'.toNat false with
      |true=>rfl
      |false=>exact absurd ⟨ht,hw⟩ p8
  rw[td]
  obtain⟨g1,g2,g3⟩:=hF (beh b) (hb b) s.2
  generalize df beh w k (s.1.set b true,s.2) (beh b)=t at g1 g2 g3
  have Am:t.1.getD b false=true:=g1.mono b (by simp only;rw[getD_set_true oG];simp)
  refine⟨⟨by have:=g1.len;simp at this;exact this,Nat.le_trans g1.cnt GA,fun i h=>g1.mono i (by simp only;rw[getD_set_true oG,h,Bool.or_true]),?_⟩,Am,fun x h1 h2 c hc hw=>?_⟩
  .obtain⟨l,e,nd,hm⟩:=g1.out
   simp only at e hm
   refine⟨l++[(b:Int)],by simp only;rw[e,List.append_assoc],?_,fun x=>?_⟩
   .rw[List.nodup_append]
    refine⟨nd,by simp,fun a ha b' lX e=>?_⟩
    simp at lX
    subst lX e
    have:=((hm _).1 ha).2.2
    rw[getD_set_true oG] at this
    simp at this
   .rw[List.mem_append,hm,getD_set_true oG,List.mem_singleton]
    simp only
    constructor
    .rintro(⟨h0,h1,h2⟩|rfl)
     .simp only[Bool.or_eq_false_iff] at h2
      exact⟨h0,h1,h2.2⟩
     .exact⟨by omega,by simpa using Am,by simpa using hs⟩
    .rintro⟨h0,h1,h2⟩
     by_cases hx:x=(b:Int)
     .exact .inr hx
     .refine .inl ⟨h0,h1,?_⟩
      rw[h2]
      have:¬ x.toNat=b:=by omega
      simp[this]
  .simp only at h1 ⊢
   by_cases hx:x=b
   .subst hx;exact g2 c hc hw
   .exact g3 x h1 (by rw[getD_set_true oG,h2];simp[hx]) c hc hw
end
def bu(beh:Nat->List Int)(n:Nat)(w:Int):List Bool:=if w=0 then List.replicate n false else(dF beh w n (List.replicate n false,[]) 0).1
def bU(beh:Nat->List Int)(n:Nat):List Int:=(dF beh (-1) n (List.replicate n false,[]) 0).2.reverse
section
variable{beh:Nat->List Int}{n:Nat}(hb:∀ b,∀ c∈beh b,0<=c/\c.toNat<n)(hn:0<n)
include hb hn
theorem Ct(w:Int):sL beh w (List.replicate n false,[]) (dF beh w n (List.replicate n false,[]) 0)/\(dF beh w n (List.replicate n false,[]) 0).1.getD 0 false=true/\
 (∀ x,(dF beh w n (List.replicate n false,[]) 0).1.getD x false=true->∀ c∈beh x,c≠w->(dF beh w n (List.replicate n false,[]) 0).1.getD c.toNat false=true):=by
 have hz:∀ i,(List.replicate n false).getD i false=false:=fun i=>by
  rw[List.getD_eq_getElem?_getD,List.getElem?_replicate];split<;>rfl
 obtain⟨h1,h2,h3⟩:=NZ (w:=w) hb n (List.replicate n false,[]) 0 (by simp) hn (by simp) (hz 0)
 exact⟨h1,h2,fun x hx=>h3 x hx (hz x)⟩
theorem te(w:Int):(bu beh n w).length=n:=by
 unfold bu
 split
 .simp
 .rw[(Ct hb hn w).1.len];simp
theorem G7{x:Int}:x∈bU beh n↔0<=x/\(bu beh n (-1)).getD x.toNat false=true:=by
 obtain⟨h1,_,_⟩:=Ct hb hn (-1)
 obtain⟨l,e,_,hm⟩:=h1.out
 unfold bU bu
 rw[if_neg oG,List.mem_reverse,e]
 simp only[List.nil_append]
 rw[hm]
 have hz:(List.replicate n false).getD x.toNat false=false:=by
  rw[List.getD_eq_getElem?_getD,List.getElem?_replicate];split<;>rfl
 simp only[hz,and_true]
theorem GI:(bU beh n).Nodup:=by
 obtain⟨h1,_,_⟩:=Ct hb hn (-1)
 obtain⟨l,e,nd,_⟩:=h1.out
 unfold bU
 rw[e]
 exact List.pairwise_reverse.2 (nd.imp fun h e=>h e.symm)
theorem Xt{x:Nat}(hx:(bu beh n (-1)).getD x false=true):∀ c∈beh x,(bu beh n (-1)).getD c.toNat false=true:=by
 obtain⟨_,_,h3⟩:=Ct hb hn (-1)
 unfold bu at hx ⊢
 rw[if_neg oG] at hx ⊢
 intro c hc
 exact h3 x hx c hc (by have:=hb x c hc;omega)
end
end Go.Argus
section
open Go Go.Abs Go.Proofs Go.Argus
namespace Go.Proofs.Tryz.K
set_option maxRecDepth 10000
def wH(x:Argus.End)(l:List Int)(s:St):Prop:=∃ r m nx,r<nx/\m r=some (.cells (l.map I) 3)/\Ghost prog s ⟨ax [(1,.pt (aT x)),(3,.rs r 0 l.length)],m,nx⟩
theorem B9{x:Argus.End}(hlen:x.aD.length<=100000):OCall prog 115 [.agg (aT x)] ((dc x).map I) (dc x).length 3:=by
 have aP:∀ a∈[D.agg (aT x)],Tr a:=.cons (.agg (ki x)) .nil
 refine tf mixed SY (by rw[ae6];rfl) aP (.map fun _=>.s _) ?_
 rw[ae7,ae8]
 refine aq ?_
 refine mX ?_;refine c7 ?_
 refine ab (aJ (bg [(0,aT x,69)] eH (l:=[(1,.pt (aT x))]) eH) (aq ?_))
 refine c7 ?_
 refine ab ⟨_,.nilrow _ _ _ 3 3 rfl,?_⟩
 refine dV (wH x (fp x)) (ag ?_) fun s hs=>?_
 .have yes:x.kind≠3/\x.kind≠4->fp x=[x.to]:=fun h=>by rw[fp,if_pos h]
  have no:¬ (x.kind≠3/\x.kind≠4)->fp x=[]:=fun h=>by rw[fp,if_neg h]
  have av:up (fun _=>(none:Option Row)) 1 (some (.cells [] 3)) 1=some (.cells [] 3):=up_same _ _ _
  by_cases h3:x.kind=3
  .have iH:(x.kind !=3)=false:=by simp[h3]
   refine aG ?_;refine jl ?_;refine J2 ?_;refine z fun _ _=>?_;refine z fun _ _=>?_;refine z fun _ _=>?_;refine gl ?_
   refine ab (al rfl (fun h=>(by cases h)) fun h=>aR ?_)
   rw[no (by simp[h3])]
   exact⟨_,_,_,Nat.lt_succ_self _,up_same _ _ _,ao eH⟩
  .by_cases h4:x.kind=4
   .have iH:(x.kind !=3)=true:=by simp[h4]
    have I0:(x.kind !=4)=false:=by simp[h4]
    refine aG ?_;refine jl ?_;refine ct ?_;refine o5 ?_;refine cI ?_
    refine ab (al rfl (fun h=>(by simp[h4] at h)) fun h=>aR ?_)
    rw[no (by simp[h4])]
    exact⟨_,_,_,Nat.lt_succ_self _,up_same _ _ _,ao eH⟩
   .have iH:(x.kind !=3)=true:=by simp[h3]
    have I0:(x.kind !=4)=true:=by simp[h4]
    refine aG ?_;refine jl ?_;refine ct ?_;refine o5 ?_;refine cI ?_
    refine ab (al rfl (fun h=>?_) fun h=>(by simp[h4] at h))
    refine gu ?_
    refine bT ?_;refine aG ?_;refine fY ?_;refine Fl ?_;refine bJ ?_
    refine ab ?_
    rw[yes ⟨h3,h4⟩]
    exact⟨_,_,_,Nat.lt_succ_self _,up_same _ _ _,ao eH⟩
 obtain⟨r,m,nx,hr,av,hg⟩:=hs
 refine⟨_,hg,dV (wH x (l9 x)) (ag ?_) fun s hs=>?_⟩
 .have gH:l9 x=if x.kind=2\/x.kind=8 then fp x++[x.fC] else fp x:=rfl
  have pg:(fp x).length<=1:=by unfold fp;split<;>simp
  generalize fp x=l at av gH pg
  have rC:(l.map I).length=l.length:=by simp
  by_cases h2:x.kind=2\/x.kind=8
  .rw[if_pos h2] at gH
   refine aG ?_;refine J8 ?_;refine ct ?_;refine dN ?_;refine J9 ?_
   refine ab (al rfl (fun h=>gu ?_) fun h=>(by rcases h2 with h2|h2<;>simp[h2] at h))
   refine bT ?_;refine aG ?_;refine fY ?_;refine Ar ?_;refine bJ ?_
   refine ab ?_
   rw[gH]
   refine⟨_,_,_,Nat.lt_succ_self _,(up_same _ _ _).trans (by rw[List.map_append];rfl),ao ⟨rfl,?_,trivial⟩⟩
   show D.rs _ 0 _=D.rs _ 0 _
   rw[List.length_append];rfl
  .rw[if_neg h2] at gH
   refine aG ?_;refine J8 ?_;refine ct ?_;refine dN ?_;refine J9 ?_
   refine ab (al rfl (fun h=>(by exfalso;apply h2;revert h;by_cases e2:x.kind=2<;>by_cases e8:x.kind=8<;>simp[e2,e8])) fun h=>aR ?_)
   rw[gH]
   exact⟨r,m,nx,hr,av,ao eH⟩
 clear hg hr av
 obtain⟨r,m,nx,hr,av,hg⟩:=hs
 refine⟨_,hg,dV (wH x (cJ x x.aD.length)) (aq ?_) fun s hs=>?_⟩
 .refine dG ?_;refine J0 ?_
  refine ab (eX (α:=Nat×Nat×Mem×Nat) (fun s=>⟨ax [(1,.pt (aT x)),(3,.rs s.2.1 0 (cJ x s.1).length),(33,n6 x.aD),(34,I x.aD.length),(35,I s.1)],s.2.2.1,s.2.2.2⟩)
   (fun s=>s.1<=x.aD.length/\s.2.1<s.2.2.2/\s.2.2.1 s.2.1=some (.cells ((cJ x s.1).map I) 3)) (fun s=>x.aD.length - s.1) (0,r,m,nx) (ao ⟨rfl,?_,rfl,rfl,rfl,trivial⟩) ⟨Nat.zero_le _,hr,?_⟩ ?_)
  .show D.rs r 0 _=D.rs r 0 _
   simp[cJ]
  .show m r=_
   rw[av];simp[cJ]
  clear hg hr av
  rintro⟨j,r,m,nx⟩ ⟨hj,hr,av⟩
  dsimp only at hj hr av ⊢
  refine bB ?_
  refine ab ⟨_,rfl,fun h=>?_,fun h=>?_⟩
  .have cD:j<x.aD.length:=by simpa using h
   have hy:x.aD[j]? =some x.aD[j]:=List.getElem?_eq_getElem cD
   generalize x.aD[j]=w at hy
   have aN:=NE hy
   have wC:(cJ x (j+1)).length=(cJ x j).length+1:=by rw[aN];simp
   have rC:((cJ x j).map I).length=(cJ x j).length:=by simp
   have pg:(cJ x j).length<=2+j:=by have:=A5 x;unfold cJ;simp;omega
   generalize cJ x j=l at av aN rC wC pg
   refine ws ?_;refine wv ?_;refine E3 ?_;refine cE ?_;refine Jy ?_
   refine ab (eO ?_)
   refine bT ?_;refine E7 ?_;refine Up ?_;refine fY ?_
   refine vJ (u6 rfl (au oG (au oG (au oG av))) rfl V.h V.h (wU (up_same _ _ _) rfl) rfl) ak ⟨V.h,rfl,(by first|omega|exact Nat.le_of_ble_eq_true rfl|(simp;done)|(simp;omega)),(by decide),(by first|rfl|(simp;done)|(simp;omega)),(by unfold maxLen;first|omega|(simp;omega)),(by rw[b3];first|omega|(simp;omega)),(by first|(simp;done)|(simp;omega))⟩ ?_
   refine bJ ?_
   refine ab ?_
   refine cr ?_
   refine ab (aK (j+1,nx+1+1,_,_) (ao ⟨rfl,?_,rfl,rfl,rfl,trivial⟩) ⟨by dsimp only;omega,by dsimp only;omega,?_⟩ (by dsimp only;omega))
   .show D.rs _ 0 _=D.rs _ 0 _
    rw[wC]
   .dsimp only
    rw[aN,List.map_append]
    exact up_same _ _ _
  .have aZ:¬ j<x.aD.length:=by simpa using h
   have:j=x.aD.length:=by omega
   subst this
   exact⟨r,m,nx,hr,av,ao eH⟩
 clear hg hr av
 obtain⟨r,m,nx,hr,av,hg⟩:=hs
 refine⟨_,hg,dV (wH x (dc x)) (ag ?_) fun s hs=>?_⟩
 .have hd:dc x=if 0<=x.bX then cJ x x.aD.length++[x.bX] else cJ x x.aD.length:=rfl
  have pg:(cJ x x.aD.length).length<=2+x.aD.length:=by have:=A5 x;unfold cJ;simp;omega
  generalize cJ x x.aD.length=l at av hd pg
  have rC:(l.map I).length=l.length:=by simp
  refine aG ?_;refine rB ?_
  refine ab (al rfl (fun h=>gu ?_) fun h=>aR ?_)
  .rw[if_pos (by simpa using h)] at hd
   refine bT ?_;refine aG ?_;refine fY ?_;refine Ar ?_;refine bJ ?_
   refine ab ?_
   rw[hd]
   refine⟨_,_,_,Nat.lt_succ_self _,(up_same _ _ _).trans (by rw[List.map_append];rfl),ao ⟨rfl,?_,trivial⟩⟩
   show D.rs _ 0 _=D.rs _ 0 _
   rw[List.length_append];rfl
  .rw[if_neg (by simpa using h)] at hd
   rw[hd]
   exact⟨r,m,nx,hr,av,ao eH⟩
 clear hg hr av
 obtain⟨r,m,nx,hr,av,hg⟩:=hs
 refine⟨_,hg,ag ?_⟩
 refine bT ?_;refine bJ ?_
 exact ab (ap rfl ⟨r,rfl,av⟩)
end Go.Proofs.Tryz.K
namespace Go.Abs
theorem Xq{P:Program}{Y:YSpec}{rf:Bool}{Q:Exit->St->Prop}{st:St}{b:Code}[dR Y](h:∃ st',Ghost P st st'/\AW P Y rf b Q st'):AW P Y rf (.seq .skip b) Q st:=by
 obtain⟨st',h1,h2⟩:=h
 exact⟨st',h1,h2⟩
end Go.Abs
namespace Go.Argus
def dp(f:az)(beh ahd:List (List Int))(c:D):List D:=[S f.name,B f.iter,I f.args,U8 f.result,jF f.af,jF f.aL,pD f.signals,fu f.blocks,bC beh,bC ahd,c]
theorem G4{f:az}{beh ahd:List (List Int)}{c:D}(hc:Tr c):∀ a∈dp f beh ahd c,Tr a:=.cons (.s _) (.cons (.s _) (.cons (.s _) (.cons (.s _) (.cons (pA _) (.cons (pA _) (.cons (w7 _) (.cons (DN _) (.cons (yQ _) (.cons (yQ _) (.cons hc .nil))))))))))
theorem D0{f:az}{beh ahd:List (List Int)}{c:D}(hc:Tr c):Tr (.pt (dp f beh ahd c)):=.pt (G4 hc)
@[simp] theorem aqh (f : az) (beh ahd : List (List Int)) (c : D) : (dp f beh ahd c).length = 11 := rfl
def BR(x:bw):List a8:=x.ins.takeWhile bE
def JZ(l:List Int)(x:Int):Bool:=l.any fun y=>x==y
def QA(A:List Int)(a:Int)(x:bw):List Int:=(BR x).map fun y=>y.args.getD (pP (fun y=>a==y) A).toNat 0
def akH(b:Int)(l:List Int):Nat:=l.countP fun y=>y==b
def ab'(x:End)(b:Int):Bool:=if((akH b (dc x):Int)==1)=true then x.to==b else false
def AV(x:End)(b:Int):Int:=if ab' x b=true then dQ x else -1
def aa'(r:Int)(p:Bool)(y:a8):Bool:=if(cO y==r)=true then(if p=true then true else y.op !=19) else false
def I1(r:Int)(p:Bool):List a8->Int
 |[]=>0
 |y::t=>if JZ (bS y) r=true then 1 else if aa' r p y=true then 2 else I1 r p t
def ae9(x:bw)(r:Int)(p:Bool):Int:=if I1 r p x.ins=0 then(if JZ (bR x.fin) r=true then 1 else 0) else I1 r p x.ins
def UJ(y:bw)(r:Int):Bool:=(BR y).any fun z=>z.to==r
def aba(x y:bw)(A:List Int)(a b r:Int):Int:=if(AV x.fin b==r)=true then 2 else if JZ (QA A a y) r=true then 1 else if UJ y r=true then 2 else 0
def uW(n:Nat)(b:Int):Bool:=if decide (0<=b)=true then decide (b<(n:Int)) else false
theorem Dy{n:Nat}{b:Int}:uW n b=true↔0<=b/\b<n:=by unfold uW;split<;>simp_all;omega
end Go.Argus
namespace Go.Proofs.Tryz.K
set_option maxRecDepth 10000
section
variable{f:az}{beh ahd:List (List Int)}{c:D}(hc:Tr c)(gk:c.one=true)
include hc gk
theorem CU{b:Int}:PCall prog 69 [.pt (dp f beh ahd c),I b] (B (uW f.blocks.length b)):=by
 have _:=gk;refine aY mixed UK (by rw[akI];rfl) (.cons (D0 hc) (.cons (.s _) .nil)) (Tr.s _) ?_
 rw[akJ,akK]
 refine ws ?_;refine J1 ?_;refine er ?_;refine J0 ?_;refine rB ?_;refine jU ?_;refine Gc ?_;refine Wd ?_;refine J7 ?_;refine fe ?_;refine wy ?_;refine bD ?_
 refine ab (ap (d:=.s (.bool _)) rfl ?_)
 simp[uW]
end
section
variable{f:az}{beh ahd:List (List Int)}{c:D}(hc:Tr c)(gk:c.one=true)
include hc gk
end
end Go.Proofs.Tryz.K
namespace Go.Argus
def vw(l:List a8):List (List D):=(List.range l.length).map fun i=>[I ((l.length - 1 - i:Nat):Int),.agg (a7 (l.getD (l.length - 1 - i) dx))]
@[simp] theorem YR (l : List a8) : (vw l).length = l.length := by simp [vw]
theorem YS{l:List a8}{i:Nat}{x:a8}(hi:i<l.length)(hx:l[l.length - 1 - i]? =some x):(vw l)[i]? =some [I ((l.length - 1 - i:Nat):Int),.agg (a7 x)]:=by
 unfold vw
 rw[List.getElem?_map,List.getElem?_range hi]
 simp[List.getD_eq_getElem?_getD,hx]
def aQ(beh:List (List Int))(b:Nat):List Int:=beh.getD b []
theorem Ht{beh:List (List Int)}{b:Nat}(h:b<beh.length):beh[b]? =some (aQ beh b):=by
 unfold aQ
 rw[List.getD_eq_getElem?_getD,List.getElem?_eq_getElem h];rfl
theorem MQ(beh:Nat->List Int)(w:Int)(k:Nat)(s:List Bool×List Int)(c:Int)(l:List Int):
 df beh w k s (c::l)=df beh w k (if vA s.1 c=false/\c≠w then dF beh w k s c.toNat else s) l:=rfl
theorem Ee{beh:Nat->List Int}{w:Int}:∀ (k:Nat),(∀ s b,(dF beh w k s b).1.length=s.1.length/\(dF beh w k s b).1.count false<=s.1.count false)/\
 (∀ l s,(df beh w k s l).1.length=s.1.length/\(df beh w k s l).1.count false<=s.1.count false):=by
 have key:∀ k,(∀ s b,(dF beh w k s b).1.length=s.1.length/\(dF beh w k s b).1.count false<=s.1.count false)->
  (∀ l s,(df beh w k s l).1.length=s.1.length/\(df beh w k s l).1.count false<=s.1.count false):=fun k h l=>by
  induction l with
  |nil=>exact fun s=>⟨rfl,Nat.le_refl _⟩
  |cons c l ih=>
   intro s
   rw[MQ]
   split
   .obtain⟨a1,a2⟩:=ih (dF beh w k s c.toNat)
    obtain⟨b1,b2⟩:=h s c.toNat
    exact⟨a1.trans b1,Nat.le_trans a2 b2⟩
   .exact ih s
 intro k
 induction k with
 |zero=>exact⟨fun s b=>⟨rfl,Nat.le_refl _⟩,key 0 fun s b=>⟨rfl,Nat.le_refl _⟩⟩
 |succ k ih=>
  have h:∀ s b,(dF beh w (k+1) s b).1.length=s.1.length/\(dF beh w (k+1) s b).1.count false<=s.1.count false:=fun s b=>by
   rw[td]
   obtain⟨a1,a2⟩:=ih.2 (beh b) (s.1.set b true,s.2)
   refine⟨a1.trans (by simp),Nat.le_trans a2 GA⟩
  exact⟨h,key (k+1) h⟩
theorem aca{beh:Nat->List Int}{w:Int}{k:Nat}{s:List Bool×List Int}{b:Nat}:(dF beh w (k+1) s b).2≠[]:=by
 rw[td];simp
theorem akN{l c:List Int}{n k:Nat}(hl:l.length=n)(hc:c.length=n)(h:∀ p,p<n->c.getD p 0=if p<k\/n<=p+k then l.getD (n - 1 - p) 0 else l.getD p 0)(hk:n<=2*k+1):c=l.reverse:=by
 apply List.ext_getElem (by simp[hl,hc])
 intro p h1 h2
 rw[List.getElem_reverse]
 have hp:=h p oG
 rw[show c.getD p 0=c[p] by simp[List.getD_eq_getElem?_getD,List.getElem?_eq_getElem h1]] at hp
 rw[hp]
 have e:∀ (i j:Nat) (h:i=j) (hj:j<l.length),l.getD i 0=l[j]:=fun i j h hj=>by subst h;simp[List.getD_eq_getElem?_getD,List.getElem?_eq_getElem hj]
 split
 .exact e _ _ oG _
 .exact e _ _ oG _
theorem Oi{beh:Nat->List Int}{w:Int}{n:Nat}(hb:∀ b,∀ c∈beh b,0<=c/\c.toNat<n):∀ (k:Nat),(∀ (s:List Bool×List Int) b,s.1.length=n->b<n->s.1.getD b false=false->(dF beh w k s b).2.length+(dF beh w k s b).1.count false<=s.2.length+s.1.count false)/\
 (∀ l,(∀ c∈l,0<=c/\c.toNat<n)->∀ s:List Bool×List Int,s.1.length=n->(df beh w k s l).2.length+(df beh w k s l).1.count false<=s.2.length+s.1.count false):=by
 have key:∀ k,(∀ (s:List Bool×List Int) b,s.1.length=n->b<n->s.1.getD b false=false->(dF beh w k s b).2.length+(dF beh w k s b).1.count false<=s.2.length+s.1.count false)->
  (∀ l,(∀ c∈l,0<=c/\c.toNat<n)->∀ s:List Bool×List Int,s.1.length=n->(df beh w k s l).2.length+(df beh w k s l).1.count false<=s.2.length+s.1.count false):=fun k h l=>by
  induction l with
  |nil=>exact fun _ s _=>Nat.le_refl _
  |cons c l ih=>
   intro hl s hs
   have hc:=hl c (by simp)
   rw[MQ]
   split
   .rename_i p8
    have a:=ih (fun c h=>hl c (by simp[h])) (dF beh w k s c.toNat) (((Ee k).1 s c.toNat).1.trans hs)
    have b:=h s c.toNat hs hc.2 p8.1
    omega
   .exact ih (fun c h=>hl c (by simp[h])) s hs
 intro k
 induction k with
 |zero=>exact⟨fun s b _ _ _=>Nat.le_refl _,key 0 fun s b _ _ _=>Nat.le_refl _⟩
 |succ k ih=>
  have h:∀ (s:List Bool×List Int) b,s.1.length=n->b<n->s.1.getD b false=false->(dF beh w (k+1) s b).2.length+(dF beh w (k+1) s b).1.count false<=s.2.length+s.1.count false:=fun s b hs At uA=>by
   rw[td]
   have a:=ih.2 (beh b) (hb b) (s.1.set b true,s.2) (by simpa using hs)
   have b:=uQ (uR uA oG)
   simp only[List.length_append,List.length_singleton] at a ⊢
   omega
  exact⟨h,key (k+1) h⟩
end Go.Argus
namespace Go.Proofs.Tryz.K
set_option maxRecDepth 10000
section
variable{f:az}{beh ahd:List (List Int)}{c:D}(hc:Tr c)(gk:c.one=true)
include hc gk
end
theorem akL{l:List a8}(hlen:l.length<=100000):SeqA prog 176 [] [.pt [gq l]] (vw l):=by
 refine Ia mixed SZ (by rw[ae'];rfl) fun L I' Stop m nx hI EB h0=>?_
 rw[afa,afb]
 refine aq ?_
 refine J4 ?_;refine iL ?_;refine oY ?_;refine J3 ?_
 refine ab (cH (α:=Nat×Mem×Nat) (fun k=>⟨ax [(0,.fn (.yield L) [] []),(1,.pt [gq l]),(3,I ((l.length:Int) - 1 - k.1))],k.2.1,k.2.2⟩)
  (fun k=>k.1<=l.length/\I' k.1 k.2.1 k.2.2) (fun k=>l.length - k.1) (0,m,nx) (ao ⟨rfl,rfl,congrArg (fun z:Int=>I z) (show(l.length:Int) - 1=(l.length:Int) - 1 - ((0:Nat):Int) by omega),trivial⟩) ⟨by omega,h0⟩ ?_)
 rintro⟨k,m,nx⟩ ⟨hk,oR⟩
 dsimp only at hk oR ⊢
 refine J0 ?_;refine rB ?_
 refine ab ⟨_,rfl,fun h=>?_,fun h=>?_⟩
 .have aj:k<l.length:=by have h:(0:Int)<=(l.length:Int) - 1 - k:=by simpa using h
                         omega
  have hx:l[l.length - 1 - k]? =some l[l.length - 1 - k]:=List.getElem?_eq_getElem oG
  generalize l[l.length - 1 - k]=x at hx
  have hy:=YS aj hx
  have uz:(l.length:Int) - 1 - k=((l.length - 1 - k:Nat):Int):=by omega
  rw[uz]
  refine ws ?_;refine mW ?_;refine J0 ?_;refine J4 ?_;refine J0 ?_;refine oZ ?_;refine eF ?_
  refine Js rfl rfl (by repeat' (first|exact trivial|exact rfl|refine And.intro ?_ ?_)) ⟨rfl,k,hy,oR,fun d m' nx' hp=>?_⟩
  rcases hp with⟨rfl,hp⟩|⟨rfl,hp⟩
  .refine cS ?_
   refine ab (al rfl (fun h=>(by cases h)) fun h=>cx ?_)
   refine J0 ?_;refine oY ?_;refine J3 ?_
   exact ab (aK (k+1,m',nx') (ao ⟨rfl,rfl,congrArg (fun z:Int=>I z) (show((l.length - 1 - k:Nat):Int) - 1=(l.length:Int) - 1 - ((k+1:Nat):Int) by omega),trivial⟩) ⟨by simp only;omega,hp⟩ (by simp only;omega))
  .refine cS ?_
   exact ab (al rfl (fun h=>aO (cm (tv (.inr hp)))) fun h=>(by cases h))
 .have aZ:¬ k<l.length:=by
   intro aj
   simp at h
   omega
  have:k=l.length:=by omega
  subst this
  exact sd (.inl (by rw[YR];exact oR))
section
variable{f:az}{beh ahd:List (List Int)}{c:D}(hc:Tr c)(gk:c.one=true)
include hc gk
theorem Fm{n:Nat}{w:Int}(hn:beh.length=n)(qX:∀ b,∀ t∈aQ beh b,0<=t/\t.toNat<n)(cR:∀ b,(aQ beh b).length<=100000){i5 i6 r:Nat}(h56:i5≠i6)(CV:i5≠r)(We:i6≠r):∀ (k:Nat) (m:Mem) (nx:Nat) (seen:List Bool) (o:List Int) (b:Nat),
 i5<nx->i6<nx->r<nx->m i5=some (.cells [.rs r 0 n] 52)->m i6=some (.cells [.fn (.func 168) [] [.rp i5 0,.pt [.pt (dp f beh ahd c)],.pt [I w],.rp i6 0]] 128)->m r=some (.cells (seen.map B) 4)->
 seen.length=n->b<n->seen.count false<=k->seen.getD b false=false->
 ACalls prog 168 [I b,.rp i5 0,.pt [.pt (dp f beh ahd c)],.pt [I w],.rp i6 0] m nx (fun d m' nx'=>d=.tup []/\nx'=nx/\m'=up m r (some (.cells ((dF (aQ beh) w k (seen,o) b).1.map B) 4)))
 |0,m,nx,seen,o,b,h5,h6,hr,Lc,ua,yd,gm,hb,B',uA=>by
  have _:=hc;have _:=gk;have:=uQ (uR uA oG)
  omega
 |k+1,m,nx,seen,o,b,h5,h6,hr,Lc,ua,yd,gm,hb,B',uA=>by
  have As:=Ht (beh:=beh) (b:=b) oG
  have c8:=qX b
  have j7:=cR b
  have p6:=uQ (uR uA oG)
  have IH:=Fm (w:=w) hn qX cR h56 CV We k
  refine uU mixed S0 (by rw[afc];rfl) ?_
  rw[afd,afe]
  have av:=Lc
  have fF:=yd
  rw[td]
  generalize aQ beh b=l at As c8 j7
  refine ws ?_;refine oX ?_;refine J0 ?_;refine vS ?_;refine Ca ?_
  refine ab (aq ?_)
  refine J4 ?_;refine uB ?_;refine aG ?_;refine gM ?_;refine iL ?_;refine J0 ?_
  refine ab (eX (α:=Nat) (fun j=>⟨ax [(1,.rp i5 0),(3,.pt [I w]),(4,.rp i6 0),(17,aw l),(18,I l.length),(19,I j)],up m r (some (.cells ((df (aQ beh) w k (seen.set b true,o) (l.take j)).1.map B) 4)),nx⟩)
   (fun j=>j<=l.length) (fun j=>l.length - j) 0 (lx eH ?_) (Nat.zero_le _) ?_)
  .rw[List.take_zero]
   show up m r _=up m r (some (.cells ((seen.set b true).map B) 4))
   rw[List.map_set]
  intro j hj
  obtain⟨cl,cc⟩:=(Ee (beh:=aQ beh) (w:=w) k).2 (l.take j) (seen.set b true,o)
  have bH:∀ t,l[j]? =some t->df (aQ beh) w k (seen.set b true,o) (l.take (j+1))=if vA (df (aQ beh) w k (seen.set b true,o) (l.take j)).1 t=false/\t≠w then dF (aQ beh) w k (df (aQ beh) w k (seen.set b true,o) (l.take j)) t.toNat else df (aQ beh) w k (seen.set b true,o) (l.take j):=fun t ht=>by
   rw[List.take_add_one,ht]
   exact DO (aQ beh) w k (seen.set b true,o) (l.take j) t
  have gf:j=l.length->df (aQ beh) w k (seen.set b true,o) (l.take j)=df (aQ beh) w k (seen.set b true,o) l:=fun e=>by rw[e,List.take_length]
  generalize df (aQ beh) w k (seen.set b true,o) (l.take j)=s at cl cc bH gf
  simp only[List.length_set] at cl cc
  have av:up m r (some (.cells (s.1.map B) 4)) i5=some (.cells [.rs r 0 n] 52):=au CV Lc
  have fF:up m r (some (.cells (s.1.map B) 4)) r=some (.cells (s.1.map B) 4):=up_same _ _ _
  have oq:up m r (some (.cells (s.1.map B) 4)) i6=some (.cells [.fn (.func 168) [] [.rp i5 0,.pt [.pt (dp f beh ahd c)],.pt [I w],.rp i6 0]] 128):=au We ua
  have ln:∀ v,up (up m r (some (.cells (s.1.map B) 4))) r v=up m r v:=fun v=>nB _ _ _ _
  generalize hM:up m r (some (.cells (s.1.map B) 4))=M at av fF oq ln
  refine bB ?_
  refine ab ⟨_,rfl,fun h=>?_,fun h=>?_⟩
  .have aj:j<l.length:=by simpa using h
   have hx:l[j]? =some l[j]:=List.getElem?_eq_getElem aj
   have uh:=c8 _ (List.getElem_mem aj)
   generalize l[j]=t at hx uh
   have aN:=bH t hx
   obtain⟨tn,rfl⟩:=Int.eq_ofNat_of_zero_le uh.1
   have Ld:tn<n:=uh.2
   have hv:s.1[tn]? =some s.1[tn]:=List.getElem?_eq_getElem oG
   have sV:s.1.getD tn false=s.1[tn]:=by simp[List.getD_eq_getElem?_getD,hv]
   have yx:vA s.1 (tn:Int)=s.1[tn]:=sV
   generalize s.1[tn]=v at hv sV yx
   have kd:=gn (f:=B) hv
   refine ws ?_;refine o4 ?_;refine J3 ?_;refine er ?_;refine oX ?_;refine J0 ?_;refine vS ?_;refine J' ?_;refine cS ?_;refine jU ?_;refine J5 ?_;refine o5 ?_;refine J9 ?_
   refine ab (al rfl (fun hp=>?_) fun hp=>?_)
   .have sW:v=false/\(tn:Int)≠w:=by
     revert hp
     cases v<;>simp
    have aN:=aN.trans (if_pos ⟨yx.trans sW.1,sW.2⟩)
    refine eO ?_
    refine aF (ic rfl oq rfl V.h) ak (ie V.h V.h rfl) ?_
    refine J0 ?_
    refine nA (IH M nx s.1 s.2 tn h5 h6 hr av oq fF (cl.trans gm) Ld oG (sV.trans sW.1)) rfl (by repeat' (first|exact trivial|exact rfl|refine And.intro ?_ ?_)) fun d m' nx' hp=>?_
    obtain⟨rfl,rfl,rfl⟩:=hp
    refine ab ?_
    refine cr ?_
    refine ab (aK (j+1) (lx eH ?_) oG oG)
    rw[ln,aN]
    rfl
   .have sW:¬ (v=false/\(tn:Int)≠w):=by
     revert hp
     cases v<;>simp
    have aN:=aN.trans (if_neg fun hh=>sW ⟨yx.symm.trans hh.1,hh.2⟩)
    refine cx ?_
    refine cr ?_
    refine ab (aK (j+1) (lx eH ?_) oG oG)
    rw[aN]
    exact hM.symm
  .have aZ:¬ j<l.length:=by simpa using h
   refine sd ⟨rfl,rfl,?_⟩
   rw[<- gf oG]
   exact hM.symm
end
theorem k84{m:Mem}{nx i n:Nat}{l:List Int}(hi:i<nx)(hm:m i=some (.cells (l.map I) 3))(hl:l.length=n)(hn:n<=100000):
 ACalls prog 84 [.rs i 0 n] m nx (fun r m' nx'=>r=.tup []/\nx'=nx/\m'=up m i (some (.cells (l.reverse.map I) 3))):=by
 refine uU mixed UL (by rw[akO];rfl) ?_
 rw[akP,akQ]
 have Ai:up m i (some (.cells (l.map I) 3))=m:=by
  funext j;simp only[up];split
  .rename_i e;rw[e,hm]
  .rfl
 have av:=hm
 refine aq ?_
 refine bT ?_;refine E' ?_;refine oY ?_;refine J3 ?_;refine J3 ?_
 refine ab (cH (α:=List Int×Nat) (fun s=>⟨ax [(0,.rs i 0 n),(2,I s.2),(3,I ((n:Int) - 1 - s.2))],up m i (some (.cells (s.1.map I) 3)),nx⟩)
  (fun s=>s.1.length=n/\s.2<=n/\∀ p,p<n->s.1.getD p 0=if p<s.2\/n<=p+s.2 then l.getD (n - 1 - p) 0 else l.getD p 0) (fun s=>n - s.2) (l,0) (lx ⟨rfl,rfl,congrArg (fun z:Int=>I z) (show(n:Int) - 1=(n:Int) - 1 - ((0:Nat):Int) by omega),trivial⟩ Ai.symm) ⟨hl,Nat.zero_le _,fun p hp=>by rw[if_neg (by simp only;omega)]⟩ ?_)
 rintro⟨d,k⟩ ⟨hd,hk,hinv⟩
 dsimp only at hd hk hinv ⊢
 have av:up m i (some (.cells (d.map I) 3)) i=some (.cells (d.map I) 3):=up_same _ _ _
 refine gL ?_;refine bB ?_
 refine ab ⟨_,rfl,fun h=>?_,fun h=>?_⟩
 .have aj:(k:Int)<(n:Int) - 1 - k:=by simpa using h
  obtain⟨j,hj⟩:∃ j:Nat,(n:Int) - 1 - k=j/\j=n - 1 - k:=⟨n - 1 - k,by omega,rfl⟩
  have ha:d[k]? =some d[k]:=List.getElem?_eq_getElem oG
  have hb:d[j]? =some d[j]:=List.getElem?_eq_getElem oG
  have ga:d.getD k 0=d[k]:=by simp[List.getD_eq_getElem?_getD,ha]
  have gb:d.getD j 0=d[j]:=by simp[List.getD_eq_getElem?_getD,hb]
  have kd:=gn (f:=I) hb
  have jB:=gn (f:=I) ha
  generalize hA:d[k]=a at ha ga jB
  generalize hB:d[j]=b at hb gb kd
  clear hA hB
  rw[hj.1]
  refine np Z6 ?_
  refine cL ?_;refine cL ?_;refine cL ?_;refine nT ?_;refine rD ?_;refine cL ?_;refine nT ?_
  refine aF (ic rfl av jB V.h) ak (ie V.h V.h jB) ?_
  refine nT ?_
  refine cK (iN (d:=.s (.int _ _)) (cs':=_) rfl rfl av rfl rfl) ak (dU V.h V.h (by first|(simp;done)|exact⟨rfl,Nat.le_of_ble_eq_true rfl⟩|(simp;omega)) rfl) ?_
  refine zz ?_;refine E9 ?_
  refine bc (by simp[apartT]) ?_
  refine Wf ?_;refine J0 ?_;refine oY ?_;refine J3 ?_;refine J3 ?_
  refine ab (aK ((d.set k b).set j a,k+1) (lx ⟨rfl,rfl,congrArg (fun z:Int=>I z) (show(j:Int) - 1=(n:Int) - 1 - ((k+1:Nat):Int) by omega),trivial⟩ ?_) ⟨by simp[hd],by simp only;omega,fun p hp=>?_⟩ (by simp only;omega))
  .rw[nB,nB]
   simp only[List.map_set]
  .simp only
   have e:((d.set k b).set j a).getD p 0=if p=j then a else if p=k then b else d.getD p 0:=by
    simp only[List.getD_eq_getElem?_getD,List.getElem?_set]
    by_cases e1:j=p
    .subst e1;simp[hd,hp]
    .rw[if_neg e1,if_neg (show ¬ p=j from fun e=>e1 e.symm)]
     by_cases e2:k=p
     .subst e2;simp[hd,hp]
     .rw[if_neg e2,if_neg (show ¬ p=k from fun e=>e2 e.symm)]
   rw[e]
   have h1:=hinv p hp
   by_cases e1:p=j
   .subst e1
    rw[if_pos rfl,if_pos oG]
    have:=hinv k oG
    rw[if_neg oG,ga] at this
    rw[this,show n - 1 - p=k by omega]
   .rw[if_neg e1]
    by_cases e2:p=k
    .subst e2
     rw[if_pos rfl,if_pos oG]
     have:=hinv j oG
     rw[if_neg oG,gb] at this
     rw[this,show n - 1 - p=j by omega]
    .rw[if_neg e2,h1]
     by_cases e3:p<k\/n<=p+k
     .rw[if_pos e3,if_pos oG]
     .rw[if_neg e3,if_neg oG]
 .have aZ:¬ (k:Int)<(n:Int) - 1 - k:=by simpa using h
  refine sd ⟨rfl,rfl,?_⟩
  rw[akN hl hd hinv oG]
section
variable{f:az}{beh ahd:List (List Int)}{c:D}(hc:Tr c)(gk:c.one=true)
include hc gk
theorem Fp{n:Nat}{w:Int}(hn:beh.length=n)(pZ:f.blocks.length=n)(lk:0<n)(lZ:n<=100000)(qX:∀ b,∀ t∈aQ beh b,0<=t/\t.toNat<n)(cR:∀ b,(aQ beh b).length<=100000):
 OCall prog 116 [.pt (dp f beh ahd c),I w] ((bu (aQ beh) n w).map B) n 4:=by
 refine tf mixed S3 (by rw[afu];rfl) (.cons (D0 hc) (.cons (.s _) .nil)) (.map fun _=>.s _) ?_
 rw[afv,afw]
 refine aq ?_
 refine gB (En (d:=.pt _) rfl rfl) ak rfl ?_
 refine JA ?_;refine c7 ?_
 refine ab (aJ (bg [(0,[.pt (dp f beh ahd c)],79),(1,[I w],3)] eH (l:=[(2,.pt [.pt (dp f beh ahd c)]),(3,.pt [I w])]) eH) (aq ?_))
 have cM:((f.blocks.length:Nat):Int).toNat=n:=pZ
 refine J4 ?_;refine uB ?_;refine J6 ?_;refine dG ?_;refine uo ?_;refine cE ?_;refine UM ?_
 refine ab (aJ (aE (l:=[(2,.pt [.pt (dp f beh ahd c)]),(3,.pt [I w]),(5,.rp 3 0)]) (ml:=[(2,.cells ((List.replicate n false).map B) 4),(3,.cells [.rs 2 0 n] 52)]) eH ⟨?_,?_,trivial⟩) (aC (ag ?_)))
 .exact congrArg (fun c=>some (Row.cells c 4)) ((congrArg (fun k=>replD k [B false]) cM).trans (tq n false))
 .exact congrArg (fun k=>some (Row.cells [D.rs 2 0 k] 52)) cM
 refine J4 ?_;refine J8 ?_
 refine ab (bp rfl (fun h=>?_) fun h=>b8 (ag ?_))
 .have hw:w=0:=by simpa using h
  refine aC (aq ?_)
  refine eV ?_;refine bJ ?_
  refine ab (aJ (.refl _) (dn (ap rfl ⟨2,rfl,?_⟩)))
  rw[bu,if_pos hw]
  rfl
 .have hw:¬ w=0:=by simpa using h
  refine cE ?_;refine er ?_;refine Ag ?_
  refine cK (iN (d:=.fn _ _ _) (cs':=[_]) rfl rfl rfl rfl rfl) ak (dU V.h V.h (by first|(simp;done)|exact⟨rfl,Nat.le_of_ble_eq_true rfl⟩|(simp;omega)) rfl) ?_
  refine ab (aq ?_)
  have Fm:=Fm (f:=f) (beh:=beh) (ahd:=ahd) (w:=w) hc gk hn qX cR (i5:=3) (i6:=4) (r:=2) (by decide) (by decide) (by decide) n
  have hR:bu (aQ beh) n w=(dF (aQ beh) w n (List.replicate n false,[]) 0).1:=by rw[bu,if_neg hw]
  have sX:=(Ee (beh:=aQ beh) (w:=w) n).1 (List.replicate n false,[]) 0
  rw[<- hR] at sX
  refine eV ?_
  refine nA (Fm _ _ (List.replicate n false) [] 0 oG oG oG rfl rfl rfl (by simp) lk (by simp) (by rw[List.getD_eq_getElem?_getD,List.getElem?_replicate];split<;>rfl)) rfl (by repeat' (first|exact trivial|exact rfl|refine And.intro ?_ ?_)) fun d m' nx' hp=>?_
  obtain⟨rfl,rfl,rfl⟩:=hp
  rw[<- hR]
  generalize bu (aQ beh) n w=R at sX hR ⊢
  refine ab (aJ (aE (l:=[(5,.rp 3 0)]) (ml:=[(2,.cells (R.map B) 4),(3,.cells [.rs 2 0 n] 52)]) eH eH) (aq ?_))
  refine eV ?_;refine bJ ?_
  exact ab (aJ (.refl _) (ap rfl ⟨2,rfl,rfl⟩))
end
structure Fq(i3 i4 i5 r n:Nat)(fv:D)(m:Mem)(nx q:Nat)(s:List Bool×List Int):Prop where
 h3:i3<nx
 h4:i4<nx
 h5:i5<nx
 hr:r<nx
 m3:m i3=some (.cells [.rs r 0 n] 52)
 m5:m i5=some (.cells [fv] 128)
 mr:m r=some (.cells (s.1.map B) 4)
 m4:m i4=some (.cells [jc q (s.2.map I)] 27)
 mq:s.2≠[]->q<nx/\q≠i3/\q≠i4/\q≠i5/\q≠r/\m q=some (.cells (s.2.map I) 3)
section
variable{f:az}{beh ahd:List (List Int)}{c:D}(hc:Tr c)(gk:c.one=true)
include hc gk
theorem Cb{n:Nat}(hn:beh.length=n)(qX:∀ b,∀ t∈aQ beh b,0<=t/\t.toNat<n)(cR:∀ b,(aQ beh b).length<=100000){i3 i4 i5 r:Nat}(qa:i3≠i4)(h35:i3≠i5)(Wg:i3≠r)(Le:i4≠i5)(Gd:i4≠r)(CV:i5≠r):
 ∀ (k:Nat) (m:Mem) (nx q:Nat) (s0:List Bool×List Int) (b:Nat),
 Fq i3 i4 i5 r n (.fn (.func 149) [] [.rp i3 0,.pt [.pt (dp f beh ahd c)],.rp i5 0,.rp i4 0]) m nx q s0->s0.1.length=n->b<n->s0.1.count false<=k->s0.1.getD b false=false->s0.2.length+s0.1.count false<=100000->
 ACalls prog 149 [I b,.rp i3 0,.pt [.pt (dp f beh ahd c)],.rp i5 0,.rp i4 0] m nx (fun d m' nx'=>d=.tup []/\∃ q',Fq i3 i4 i5 r n (.fn (.func 149) [] [.rp i3 0,.pt [.pt (dp f beh ahd c)],.rp i5 0,.rp i4 0]) m' nx' q' (dF (aQ beh) (-1) k s0 b))
 |0,m,nx,q,s0,b,hO,gm,hb,B',uA,hlen=>by
  have _:=hc;have _:=gk;have:=uQ (uR uA oG)
  omega
 |k+1,m,nx,q,s0,b,hO,gm,hb,B',uA,hlen=>by
  have As:=Ht (beh:=beh) (b:=b) oG
  have c8:=qX b
  have j7:=cR b
  have p6:=uQ (uR uA oG)
  have IH:=Cb hn qX cR qa h35 Wg Le Gd CV k
  have lY:=(Oi (w:= -1) qX k).2
  refine uU mixed S4 (by rw[afx];rfl) ?_
  rw[afy,afz]
  have av:=hO.m3
  have fF:=hO.mr
  have⟨p3,p4,p5,pr,_,_,_,_,pq⟩:=hO
  rw[td]
  generalize aQ beh b=l at As c8 j7
  refine ws ?_;refine oX ?_;refine J0 ?_;refine vS ?_;refine Ca ?_
  refine ab (aC (aq ?_))
  refine J4 ?_;refine uB ?_;refine aG ?_;refine gM ?_;refine iL ?_;refine J0 ?_
  refine ab (bM (fun s=>∃ m nx q,Ghost prog s ⟨ax [(0,I b),(4,.rp i4 0)],m,nx⟩/\Fq i3 i4 i5 r n (.fn (.func 149) [] [.rp i3 0,.pt [.pt (dp f beh ahd c)],.rp i5 0,.rp i4 0]) m nx q (df (aQ beh) (-1) k (s0.1.set b true,s0.2) l)) (eX (α:=Nat×Nat×Mem×Nat)
   (fun j=>⟨ax [(0,I b),(1,.rp i3 0),(3,.rp i5 0),(4,.rp i4 0),(17,aw l),(18,I l.length),(19,I j.1)],j.2.2.1,j.2.2.2⟩)
   (fun j=>j.1<=l.length/\Fq i3 i4 i5 r n (.fn (.func 149) [] [.rp i3 0,.pt [.pt (dp f beh ahd c)],.rp i5 0,.rp i4 0]) j.2.2.1 j.2.2.2 j.2.1 (df (aQ beh) (-1) k (s0.1.set b true,s0.2) (l.take j.1))) (fun j=>l.length - j.1) (0,q,_,nx)
   (ao eH) ⟨Nat.zero_le _,?_⟩ ?_) ?_)
  .dsimp only
   refine⟨p3,p4,p5,pr,au Wg hO.m3,au CV hO.m5,?_,au Gd hO.m4,fun h=>?_⟩
   .rw[List.take_zero]
    show up m r _ r=some (.cells ((s0.1.set b true).map B) 4)
    rw[List.map_set]
    exact up_same _ _ _
   .obtain⟨a1,a2,a3,a4,a5,a6⟩:=pq h
    exact⟨a1,a2,a3,a4,a5,au a5 a6⟩
  .clear hO av fF p3 p4 p5 pr pq
   rintro⟨j,q,m,nx⟩ ⟨hj,hO⟩
   dsimp only at hj hO ⊢
   obtain⟨cl,cc⟩:=(Ee (beh:=aQ beh) (w:= -1) k).2 (l.take j) (s0.1.set b true,s0.2)
   have cp:=lY (l.take j) (fun c h=>c8 c (List.mem_of_mem_take h)) (s0.1.set b true,s0.2) (by simpa using gm)
   have bH:∀ t,l[j]? =some t->df (aQ beh) (-1) k (s0.1.set b true,s0.2) (l.take (j+1))=if vA (df (aQ beh) (-1) k (s0.1.set b true,s0.2) (l.take j)).1 t=false/\t≠ -1 then dF (aQ beh) (-1) k (df (aQ beh) (-1) k (s0.1.set b true,s0.2) (l.take j)) t.toNat else df (aQ beh) (-1) k (s0.1.set b true,s0.2) (l.take j):=fun t ht=>by
    rw[List.take_add_one,ht]
    exact DO (aQ beh) (-1) k (s0.1.set b true,s0.2) (l.take j) t
   have gf:j=l.length->df (aQ beh) (-1) k (s0.1.set b true,s0.2) (l.take j)=df (aQ beh) (-1) k (s0.1.set b true,s0.2) l:=fun e=>by rw[e,List.take_length]
   generalize df (aQ beh) (-1) k (s0.1.set b true,s0.2) (l.take j)=s at cl cc bH gf hO cp
   simp only[List.length_set] at cl cc cp
   have av:=hO.m3
   have fF:=hO.mr
   have oq:=hO.m5
   refine bB ?_
   refine ab ⟨_,rfl,fun h=>?_,fun h=>?_⟩
   .have aj:j<l.length:=by simpa using h
    have hx:l[j]? =some l[j]:=List.getElem?_eq_getElem aj
    have uh:=c8 _ (List.getElem_mem aj)
    generalize l[j]=t at hx uh
    have aN:=bH t hx
    obtain⟨tn,rfl⟩:=Int.eq_ofNat_of_zero_le uh.1
    have Ld:tn<n:=uh.2
    have hv:s.1[tn]? =some s.1[tn]:=List.getElem?_eq_getElem oG
    have sV:s.1.getD tn false=s.1[tn]:=by simp[List.getD_eq_getElem?_getD,hv]
    have yx:vA s.1 (tn:Int)=s.1[tn]:=sV
    generalize s.1[tn]=v at hv sV yx
    have kd:=gn (f:=B) hv
    refine ws ?_;refine o4 ?_;refine J3 ?_;refine er ?_;refine oX ?_;refine J0 ?_;refine vS ?_;refine J' ?_;refine cS ?_
    refine ab (al rfl (fun hp=>?_) fun hp=>?_)
    .have sW:v=false:=by simpa using hp
     have aN:=aN.trans (if_pos ⟨yx.trans sW,by omega⟩)
     refine eO ?_
     refine aF (ic rfl oq rfl V.h) ak (ie V.h V.h rfl) ?_
     refine J0 ?_
     refine nA (IH m nx q s tn hO (cl.trans gm) Ld oG (sV.trans sW) oG) rfl (by repeat' (first|exact trivial|exact rfl|refine And.intro ?_ ?_)) fun d m' nx' hp=>?_
     obtain⟨rfl,q',hp⟩:=hp
     refine ab ?_
     refine cr ?_
     refine ab (aK (j+1,q',m',nx') (ao eH) ⟨by dsimp only;omega,?_⟩ (by dsimp only;omega))
     dsimp only
     rw[aN]
     exact hp
    .have sW:v=true:=by simpa using hp
     have aN:=aN.trans (if_neg fun hh=>by rw[yx,sW] at hh;exact absurd hh.1 (by simp))
     refine cx ?_
     refine cr ?_
     refine ab (aK (j+1,q,m,nx) (ao eH) ⟨by dsimp only;omega,?_⟩ (by dsimp only;omega))
     dsimp only
     rw[aN]
     exact hO
   .have aZ:¬ j<l.length:=by simpa using h
    rw[<- gf oG]
    exact⟨m,nx,q,ao eH,hO⟩
  .clear hO av fF p3 p4 p5 pr pq
   rintro s ⟨m,nx,q,hg,hO⟩
   have cp:=lY l c8 (s0.1.set b true,s0.2) (by simpa using gm)
   generalize df (aQ beh) (-1) k (s0.1.set b true,s0.2) l=u at hO cp ⊢
   obtain⟨u1,u2⟩:=u
   have⟨p3,p4,p5,pr,m3,m5,mr,m4,pq⟩:=hO
   dsimp only at mr m4 pq cp ⊢
   refine⟨_,hg,gu ?_⟩
   by_cases hz:u2=[]
   .subst hz
    have av:m i4=some (.cells [.z] 27):=m4
    refine oX ?_;refine J0 ?_;refine fY ?_;refine B1 ?_;refine Ur ?_
    refine ab (sd ⟨rfl,nx+1,?_⟩)
    dsimp only
    refine⟨by omega,by omega,by omega,by omega,?_,?_,?_,?_,fun _=>⟨by omega,by omega,by omega,by omega,by omega,?_⟩⟩
    .exact au qa (au oG (au oG m3))
    .exact au (Ne.symm Le) (au oG (au oG m5))
    .exact au (Ne.symm Gd) (au oG (au oG mr))
    .exact(up_same _ _ _).trans rfl
    .exact au oG ((up_same _ _ _).trans rfl)
   .have aA:u2.map I≠[]:=by simpa using hz
    obtain⟨q1,q2,q3,q4,q5,q6⟩:=pq hz
    have av:m i4=some (.cells [.rs q 0 u2.length] 27):=by rw[m4,nD aA,List.length_map]
    have fF:=q6
    have rC:(u2.map I).length=u2.length:=by simp
    refine oX ?_;refine J0 ?_;refine fY ?_;refine E8 ?_;refine Us ?_
    refine ab (sd ⟨rfl,nx+1,?_⟩)
    dsimp only
    refine⟨by omega,by omega,by omega,by omega,?_,?_,?_,?_,fun _=>⟨by omega,by omega,by omega,by omega,by omega,?_⟩⟩
    .exact au qa (au oG (au (Ne.symm q2) (au oG m3)))
    .exact au (Ne.symm Le) (au oG (au (Ne.symm q4) (au oG m5)))
    .exact au (Ne.symm Gd) (au oG (au (Ne.symm q5) (au oG mr)))
    .refine(up_same _ _ _).trans ?_
     rw[List.map_append,nD (by simp)]
     simp
    .refine au oG ((up_same _ _ _).trans ?_)
     rw[List.map_append];rfl
theorem Au{n:Nat}(hn:beh.length=n)(pZ:f.blocks.length=n)(lk:0<n)(lZ:n<=100000)(qX:∀ b,∀ t∈aQ beh b,0<=t/\t.toNat<n)(cR:∀ b,(aQ beh b).length<=100000):
 OCall prog 85 [.pt (dp f beh ahd c)] ((bU (aQ beh) n).map I) (bU (aQ beh) n).length 3:=by
 refine tf mixed UN (by rw[akR];rfl) (.cons (D0 hc) .nil) (.map fun _=>.s _) ?_
 rw[akS,akT]
 refine aq ?_
 refine gB (En (d:=.pt _) rfl rfl) ak rfl ?_
 refine c7 ?_
 refine ab (aJ (bg [(0,[.pt (dp f beh ahd c)],79)] eH (l:=[(1,.pt [.pt (dp f beh ahd c)])]) eH) (aq ?_))
 have cM:((f.blocks.length:Nat):Int).toNat=n:=pZ
 refine J4 ?_;refine uB ?_;refine J6 ?_;refine dG ?_;refine uo ?_;refine cE ?_;refine UM ?_
 refine ab (aJ (aE (l:=[(1,.pt [.pt (dp f beh ahd c)]),(3,.rp 2 0)]) (ml:=[(1,.cells ((List.replicate n false).map B) 4),(2,.cells [.rs 1 0 n] 52)]) eH ⟨?_,?_,trivial⟩) (ag ?_))
 .exact congrArg (fun c=>some (Row.cells c 4)) ((congrArg (fun k=>replD k [B false]) cM).trans (tq n false))
 .exact congrArg (fun k=>some (Row.cells [D.rs 1 0 k] 52)) cM
 refine cE ?_;refine er ?_;refine cE ?_;refine er ?_;refine Ag ?_
 refine cK (iN (d:=.fn _ _ _) (cs':=[_]) rfl rfl rfl rfl rfl) ak (dU V.h V.h (by first|(simp;done)|exact⟨rfl,Nat.le_of_ble_eq_true rfl⟩|(simp;omega)) rfl) ?_
 refine ab (aq ?_)
 have Cb:=Cb (f:=f) (beh:=beh) (ahd:=ahd) hc gk hn qX cR (i3:=2) (i4:=3) (i5:=4) (r:=1) (by decide) (by decide) (by decide) (by decide) (by decide) (by decide) n
 have hz:(List.replicate n false).getD 0 false=false:=by rw[List.getD_eq_getElem?_getD,List.getElem?_replicate];split<;>rfl
 have sX:=(Oi (w:= -1) qX n).1 (List.replicate n false,[]) 0 (by simp) lk hz
 have aA:(dF (aQ beh) (-1) n (List.replicate n false,[]) 0).2≠[]:=by
  obtain⟨j,rfl⟩:∃ j,n=j+1:=⟨n - 1,by omega⟩
  exact aca
 have hR:bU (aQ beh) n=(dF (aQ beh) (-1) n (List.replicate n false,[]) 0).2.reverse:=rfl
 refine eV ?_
 refine nA (Cb _ _ 0 (List.replicate n false,[]) 0 ⟨by decide,by decide,by decide,by decide,rfl,rfl,rfl,rfl,fun h=>absurd rfl h⟩ (by simp) lk (by simp) hz (by simp;omega)) rfl (by repeat' (first|exact trivial|exact rfl|refine And.intro ?_ ?_)) fun d m' nx' hp=>?_
 obtain⟨rfl,q',hO⟩:=hp
 have m4:=hO.m4
 obtain⟨q1,q2,q3,q4,q5,q6⟩:=hO.mq aA
 rw[hR]
 clear hO hR Cb
 generalize (dF (aQ beh) (-1) n (List.replicate n false,[]) 0)=u at sX aA m4 q6 ⊢
 obtain⟨u1,u2⟩:=u
 dsimp only at sX aA m4 q6 ⊢
 have BV:u2.map I≠[]:=by simpa using aA
 have av:m' 3=some (.cells [.rs q' 0 u2.length] 27):=by rw[m4,nD BV,List.length_map]
 have fF:=q6
 have j7:u2.length<=100000:=by simp at sX;omega
 refine ab (aJ (ao (l:=[(4,.rp 3 0)]) eH) (ag ?_))
 refine oX ?_
 refine nA (k84 q1 q6 rfl j7) rfl (by repeat' (first|exact trivial|exact rfl|refine And.intro ?_ ?_)) fun d m2 ix hp=>?_
 obtain⟨rfl,rfl,rfl⟩:=hp
 refine er ?_
 have av:up m' q' (some (.cells (u2.reverse.map I) 3)) 3=some (.cells [.rs q' 0 u2.length] 27):=au (Ne.symm q3) av
 refine oX ?_;refine bJ ?_
 refine ab (ap rfl ⟨q',?_,up_same _ _ _⟩)
 rw[List.length_reverse];rfl
end
end Go.Proofs.Tryz.K
namespace Go.Abs
section
variable{P:Program}{m:Mem}{nx:Nat}
theorem Xf{f:FuncId}{rds:List Nat}{args args' es:List D}{n:Nat}{t:TypeId}(mO:Sns P rds m args args')(hc:OCall P f args' es n t)(lh:∀ d∈es,d.scal=true):
 ACalls P f args m nx (fun d m' nx'=>d=.rs nx 0 n/\m'=up m nx (some (.cells es t))/\nx'=nx+1):=by
 refine⟨hc.1,fun F β w vs hm hβ hR=>?_⟩
 have hn:=hβ nx (Nat.le_refl _)
 obtain⟨h1,h2⟩:=sns_R (P:=P) (F:=F) (β:=β) (w:=w) (fun i hi r hr=>by
  obtain⟨p,hp,av⟩:=hm.row i r hr
  exact⟨p,hp,av,fun b hb=>hm.nf i p b hp hb⟩) mO
 refine(hc.2.2 F w vs (fun b hb=>hm.fb b hb) ⟨by rw[hR.1,h1],fun k d v hd hv=>?_⟩).mono ?_
 .have aj:k<args.length:=by rw[h1];exact(List.getElem?_eq_some_iff.1 hd).1
  exact h2 k args[k] d (by simp[aj]) hd v (hR.2 k args[k] v (by simp[aj]) hv)
 rintro e w' ⟨v,p,he,It,qD,av,hv,hk⟩
 have je:=hm.kept hk
 have hs:Step β w (up β nx (some p)) w':=by
  refine⟨hk.1,fun b hb hf=>⟨hk.2.1 b hb,fun i q hq=>?_⟩,fun i q hq=>.inl ?_,hk.2.2⟩
  .by_cases hi:i=nx
   .subst hi
    rw[up_same] at hq
    cases hq
    intro e
    have:=(qD b e).1
    omega
   .rw[up_ne _ _ hi] at hq;exact hf i q hq
  .rw[up_ne _ _ (fun e=>by rw[e,hn] at hq;cases hq)];exact hq
 have lK:∀ i q b,up β nx (some p) i=some q->q.blk=some b->(i=nx/\q=p)\/(i≠nx/\β i=some q):=fun i q b hq _=>by
  by_cases hi:i=nx
  .subst hi;rw[up_same] at hq;cases hq;exact .inl ⟨rfl,rfl⟩
  .rw[up_ne _ _ hi] at hq;exact .inr ⟨hi,hq⟩
 have Iu:RowR P F (up β nx (some p)) w' (.cells es t) p:=by
  cases av with
  |nil _=>exact .nil _
  |cells _ _ b o room sz c h1 h2 h3 h4 h5=>
   refine .cells es t b o room sz c h1 h2 h3 h4 fun k d hd=>?_
   obtain⟨u,oN,oO,oP⟩:=h5 k d hd
   exact⟨u,oN,scal_R (lh d (List.mem_of_getElem? hd)) oO,oP⟩
 refine⟨v,.rs nx 0 n,up m nx (some (.cells es t)),nx+1,up β nx (some p),he,⟨rfl,rfl,rfl⟩,?_,fun i hi=>by rw[up_ne _ _ oG];exact hβ i oG,?_,hs,Nat.le_succ _,fun i hi hb=>by rw[up_ne _ _ oG];exact hb⟩
 .refine⟨fun i r hi=>?_,fun i j q q' b hq gE e e'=>?_,fun i q b hq e=>?_,fun i q b hq e=>?_,je.fb⟩
  .by_cases bk:i=nx
   .subst bk
    rw[up_same] at hi
    cases hi
    exact⟨p,up_same _ _ _,Iu⟩
   .rw[up_ne _ _ bk] at hi
    obtain⟨q,hq,KB⟩:=hm.row i r hi
    exact⟨q,by rw[up_ne _ _ bk];exact hq,KB.step hs fun b hb=>hk.2.1 b (hm.lt i q b hq hb)⟩
  .rcases lK i q b hq e with⟨rfl,rfl⟩|⟨hi,h1⟩<;>rcases lK j q' b gE e' with⟨rfl,rfl⟩|⟨hj,h2⟩
   .rfl
   .have:=(qD b e).1
    have:=hm.lt j q' b h2 e'
    omega
   .have:=(qD b e').1
    have:=hm.lt i q b h1 e
    omega
   .exact hm.inj i j q q' b h1 h2 e e'
  .rcases lK i q b hq e with⟨_,rfl⟩|⟨_,h1⟩
   .exact(qD b e).2
   .exact je.lt i q b h1 e
  .rcases lK i q b hq e with⟨_,rfl⟩|⟨_,h1⟩
   .intro hF
    have:=hm.fb b hF
    have:=(qD b e).1
    omega
   .exact hm.nf i q b h1 e
 .cases hv with
  |rsd _ _ _ _ h _=>rw[up_same] at h;cases h;exact absurd rfl It
  |rsn _ a h=>rw[up_same] at h;cases h;exact .rsn nx a (up_same _ _ _)
  |rsz _ _ a b o len room sz h=>rw[up_same] at h;cases h;exact .rsz nx 0 a b o len room sz (up_same _ _ _)
  |rs _ _ _ cap b o len room sz h h1 h2 h3 h4=>rw[up_same] at h;cases h;exact .rs nx 0 n cap b o len room sz (up_same _ _ _) h1 h2 h3 h4
end
section
variable{P:Program}{env:Env}{m:Mem}{nx:Nat}
theorem D1{f:FuncId}{args:List D}{eD:D->Mem->Nat->Prop}{i:Nat}{r:Row}(hm:m i=some r)(he:enterOk P f=true)(h:i<nx->ACalls P f args m nx eD):ACalls P f args m nx eD:=⟨he,fun F β w vs hM hβ hR=>by
 refine(h ?_).2 F β w vs hM hβ hR
 rcases Nat.lt_or_ge i nx with g|g
 .exact g
 .obtain⟨p,hp,_⟩:=hM.row i r hm
  rw[hβ i g] at hp;cases hp⟩
theorem EO{Y:YSpec}{ops:Array Oper}{dr:Bool}{cf:List (Nat×Nat)}{Q:Exit->St->Prop}{rest:List Oper}{tr:Tra}{op:Op}{ty:TypeId}{pos:String}{after:Array Edge}{f:FuncId}{args:List D}{r:D}{ups:List (Nat×Option Row)}{rds:List Nat}{d:Option Nat}
 (h:∀ m2 ix,(∀ i∈rds,m i≠none->m2 i=m i)->ACalls P f args m2 ix fun r' m' nx'=>r'=r/\m'=upds m2 ups/\nx'=ix) (hu:∀ i∈ups.map (·.1),i∈rds/\m i≠none) (hc:callD (rho env op) op=some (f,args)) (ha:gK env op.operands.toList)
 (K:AOps P Y ops dr cf Q rest (St.put ⟨env,upds m ups,nx⟩ d r) (tr++[(rds,ups.map (·.1))])):AOps P Y ops dr cf Q (⟨d,op,ty,pos,after,none⟩::rest) ⟨env,m,nx⟩ tr:=A3 hc ha (.inr (.inr (.inr (.inr (.inl ⟨r,ups,rds,h,hu,K⟩)))))
theorem MS{i:Nat}{cs:List D}{e:TypeId}{l:List (Nat×D)}(hm:m i=some (.cells cs e))(hl:mz l fun t=>sub (fz0 i cs (P.cellsOf e)) (env t)):
 Ghost P ⟨env,m,nx⟩ ⟨ax l,fun j=>if j=i then none else(m j).map (Row.sub (fz0 i cs (P.cellsOf e))),nx⟩:=
 (Ghost.freeze env m nx i cs e hm).trans (Ghost.forget _ _ _ _ (n7 hl))
theorem dH.fz{j n q sz:Nat}{e et:TypeId}{ρ:Nat->Nat}{L:Nat->List D}{cs:List D}(h:dH m nx j n e et ρ L)(hs:∀ i,vN (L i))(hq:j≠q)(hρ:∀ i,i<n->L i≠[]->ρ i≠q):
 dH (fun p=>if p=q then none else(m p).map (Row.sub (fz0 q cs sz))) nx j n e et ρ L:=by
 refine⟨?_,h.nU,fun i hi hl=>?_,h.lt,h.ne,h.inj⟩
 .rw[if_neg hq,h.row]
  refine congrArg some (lJ.cells (X:=fun p=>p=q) (fun d hd=>?_) q cs sz rfl)
  obtain⟨i,hi,rfl⟩:=List.mem_map.1 hd
  by_cases hl:L i=[]
  .rw[hl];exact .z
  .rw[nD hl];exact .rs (hρ i (by simpa using hi) hl)
 .rw[if_neg (hρ i hi hl),h.pT i hi hl]
  exact congrArg some (lJ.Uz (X:=fun p=>p=q) (hs i) q cs sz rfl)
end
end Go.Abs
namespace Go.Argus
open Go.Proofs.Tryz.K (nextR)
theorem DP{f:az}{x:End}(h:iR f x=true):dc x=cz x:=by
 unfold iR at h
 rw[Bool.and_eq_true] at h
 obtain⟨h,hb⟩:=h
 have hb:=Og hb
 obtain⟨kind,a,b,to,fC,name,ins,args,aD,bX⟩:=x
 simp only[fG] at h hb
 by_cases h1:kind=1
 .subst h1
  simp only[Int.reduceEq,if_false,if_true] at hb
  have hw:aD=[]:=List.length_eq_zero_iff.1 hb.2.2.2.2.2.2.2
  have ho:bX= -1:=hb.2.2.2.2.2.1
  subst hw ho
  simp[dc,fp,l9,cJ,cz,gF,aH]
 by_cases h2:kind=2
 .subst h2
  simp only[Int.reduceEq,if_false,if_true] at hb
  have hw:aD=[]:=List.length_eq_zero_iff.1 hb.2.2.2.2.2.2.2
  have ho:bX= -1:=hb.2.2.2.2.2.1
  subst hw ho
  simp[dc,fp,l9,cJ,cz,gF,aH]
 by_cases h3:kind=3
 .subst h3
  simp only[Int.reduceEq,if_false,if_true] at hb
  have hw:aD=[]:=List.length_eq_zero_iff.1 hb.2.2.2.2.2.2.2
  have ho:bX= -1:=hb.2.2.2.2.2.1
  subst hw ho
  simp[dc,fp,l9,cJ,cz,gF,aH]
 by_cases h4:kind=4
 .subst h4
  simp only[Int.reduceEq,if_false,if_true] at hb
  have hw:aD=[]:=List.length_eq_zero_iff.1 hb.2.2.2.2.2.2.2
  have ho:bX= -1:=hb.2.2.2.2.2.1
  subst hw ho
  simp[dc,fp,l9,cJ,cz,gF,aH]
 by_cases h5:kind=5
 .subst h5
  by_cases ho:0<=bX<;>simp[dc,fp,l9,cJ,cz,gF,aH,ho]
 by_cases h6:kind=6
 .subst h6
  by_cases ho:0<=bX<;>simp[dc,fp,l9,cJ,cz,gF,aH,ho]
 by_cases h7:kind=7
 .subst h7
  simp only[Int.reduceEq,if_false,if_true] at hb
  have hw:aD=[]:=List.length_eq_zero_iff.1 hb.2.2.2.2.2.2.2
  have ho:bX= -1:=hb.2.2.2.2.2.1
  subst hw ho
  simp[dc,fp,l9,cJ,cz,gF,aH]
 by_cases h8:kind=8
 .subst h8
  by_cases ho:0<=bX<;>simp[dc,fp,l9,cJ,cz,gF,aH,ho]
 by_cases h9:kind=9
 .subst h9
  simp only[Int.reduceEq,if_false,if_true] at hb
  have hw:aD=[]:=List.length_eq_zero_iff.1 hb.2.2.2.2.2.2.2
  have ho:bX= -1:=hb.2.2.2.2.2.1
  subst hw ho
  simp[dc,fp,l9,cJ,cz,gF,aH]
 .simp only[h1,h2,h3,h4,h5,h6,h7,h8,h9,if_false] at h
  cases h
theorem Xr{f:az}(h:jI f=true):∀ x∈f.blocks,dc x.fin=cz x.fin:=by
 unfold jI at h
 simp only[Bool.and_eq_true] at h
 obtain⟨hH,hK,_,hE,hR⟩:=h
 intro x hx
 obtain⟨k,hk⟩:=List.getElem?_of_mem hx
 have aj:k<f.blocks.length:=(List.getElem?_eq_some_iff.1 hk).1
 have:=List.all_eq_true.1 hE k (by simpa using aj)
 rw[iP,getD_some hk] at this
 simp only[Bool.and_eq_true,Bool.not_eq_true',decide_eq_false_iff_not] at this
 exact DP this.1
def cy(f:az):List (List Int):=f.blocks.map fun x=>nextR x.fin
theorem wW{f:az}{k:Nat}{x:bw}(h:f.blocks[k]? =some x):aQ (cy f) k=nextR x.fin:=by
 unfold aQ cy
 simp[List.getD_eq_getElem?_getD,h]
theorem G6{f:az}{k:Nat}(h:f.blocks.length<=k):aQ (cy f) k=[]:=by
 unfold aQ cy
 rw[List.getD_eq_getElem?_getD,List.getElem?_eq_none (by simpa using h)];rfl
def gU(f:az)(a b c:D):List D:=[S f.name,B f.iter,I f.args,U8 f.result,jF f.af,jF f.aL,pD f.signals,fu f.blocks,a,b,c]
def iI(f:az)(n k:Nat):List D:=(List.range n).map fun i=>if i<k then aw (aQ (cy f) i) else .z
@[simp] theorem aqy (f : az) (n k : Nat) : (iI f n k).length = n := by simp [iI]
theorem Z7{f:az}{n k:Nat}{x:D}(hk:k<n):(iI f n k).set k x=(List.range n).map fun i=>if i=k then x else if i<k then aw (aQ (cy f) i) else .z:=by
 unfold iI
 rw[G1]
 exact List.map_congr_left fun i _=>rfl
def xr(f:az):List D:=dp f (cy f) (dJ f.blocks) (cA (bu (aQ (cy f)) f.blocks.length (-1)))
end Go.Argus
namespace Go.Proofs.Tryz.K
set_option maxRecDepth 10000
theorem beh_in{f:az}(h:oh f):∀ b,∀ t∈aQ (cy f) b,0<=t/\t.toNat<f.blocks.length:=fun b t ht=>by
 cases hx:f.blocks[b]? with
 |none=>rw[G6 (List.getElem?_eq_none_iff.1 hx)] at ht;simp at ht
 |some x=>
  rw[wW hx] at ht
  have:=(h.ends x (List.mem_of_getElem? hx)).to t (Dx.1 ht)
  omega
theorem Oj{f:az}(h:oh f):∀ b,(aQ (cy f) b).length<=100000:=fun b=>by
 cases hx:f.blocks[b]? with
 |none=>rw[G6 (List.getElem?_eq_none_iff.1 hx)];simp
 |some x=>
  rw[wW hx]
  have:=wQ x.fin
  have:=(h.ends x (List.mem_of_getElem? hx)).wh
  omega
set_option maxHeartbeats 2000000 in
theorem Ih{f:az}(cT:eh f=0):PCall prog 51 [.agg (aB f)] (.tup [.pt (xr f),I 0]):=by
 have wG:=wG (f:=f)
 rw[cT] at wG
 have hf:jI f=true:=by
  unfold eh at cT
  split at cT
  .assumption
  .cases cT
 have bQ:=xq hf
 have z':=Xr hf
 obtain⟨n,hn⟩:∃ n,f.blocks.length=n:=⟨_,rfl⟩
 have lZ:n<=1200:=hn▸bQ.nS
 have nW:∀ b,∀ t∈aQ (cy f) b,0<=t/\t.toNat<n:=hn▸beh_in bQ
 have cR:=Oj bQ
 refine aY mixed Ka (by rw[UO];rfl) (.cons (.agg (gp f)) .nil) (.tup (.cons (.pt (G4 (.sl (.map fun _=>.s _)))) (.cons (.s _) .nil))) ?_
 rw[UP,UQ]
 refine aq ?_
 refine ia ?_;refine CW ?_;refine J3 ?_
 refine ab (aJ (bg [(0,aB f,26)] eH (l:=[(1,.pt (aB f))]) eH) (aC (ag ?_)))
 refine dh ?_;refine cl wG ?_;refine J3 ?_
 refine ab (aC (ag ?_))
 refine J0 ?_;refine jC ?_
 refine ab (bp rfl (fun h=>(by cases h)) fun h=>b8 (ag ?_))
 refine dG ?_;refine J3 ?_
 refine ab (qj Z8 ?_)
 refine dh ?_;refine J0 ?_;refine Fg ?_;refine J0 ?_;refine Fg ?_;refine wI ?_;refine nQ ?_
 refine aF (mi (v:=.rp _ _) rfl) ak trivial ?_
 have cM:((f.blocks.length:Nat):Int).toNat=n:=hn
 refine bc (by simp[apartT]) (aJ (aE (l:=[(1,.pt (aB f)),(6,.rp 3 0)]) (ml:=[(1,.cells (List.replicate n .z) 27),(2,.cells (List.replicate n .z) 27),(3,.cells (gU f (.rs 1 0 n) (.rs 2 0 n) .z) 89)]) eH ⟨?_,?_,?_,trivial⟩) (aC (aq ?_)))
 .exact congrArg (fun c=>some (Row.cells c 27)) ((congrArg (fun k=>replD k [D.z]) cM).trans (Ed n))
 .exact congrArg (fun c=>some (Row.cells c 27)) ((congrArg (fun k=>replD k [D.z]) cM).trans (Ed n))
 .exact congrArg (fun k=>some (Row.cells (gU f (.rs 1 0 k) (.rs 2 0 k) .z) 89)) cM
 refine dG ?_;refine J0 ?_
 have p7:iI f n 0=List.replicate n D.z:=by
  unfold iI
  simp only[Nat.not_lt_zero,if_false]
  rw[List.map_const',List.length_range]
 refine ab (bM (fun s=>∃ m nx ρ,Ghost prog s ⟨ax [(6,.rp 3 0)],m,nx⟩/\4<=nx/\m 1=some (.cells (iI f n n) 27)/\m 3=some (.cells (gU f (.rs 1 0 n) (.rs 2 0 n) .z) 89)/\dH m nx 2 n 27 3 ρ (fun i=>(bf f.blocks n i).map I)/\(∀ i,i<n->(bf f.blocks n i).map I≠[]->ρ i≠1/\ρ i≠3)) (eX (α:=Nat×Mem×Nat)
  (fun k=>⟨ax [(1,.pt (aB f)),(6,.rp 3 0),(28,fu f.blocks),(29,I n),(30,I k.1)],k.2.1,k.2.2⟩)
  (fun k=>k.1<=n/\4<=k.2.2/\k.2.1 1=some (.cells (iI f n k.1) 27)/\k.2.1 3=some (.cells (gU f (.rs 1 0 n) (.rs 2 0 n) .z) 89)/\(∃ ρ,dH k.2.1 k.2.2 2 n 27 3 ρ (fun i=>(bf f.blocks k.1 i).map I)/\(∀ i,i<n->(bf f.blocks k.1 i).map I≠[]->ρ i≠1/\ρ i≠3))/\∀ i,(bf f.blocks k.1 i).length<=12*k.1) (fun k=>n - k.1)
  (0,aX [(1,.cells (List.replicate n .z) 27),(2,.cells (List.replicate n .z) 27),(3,.cells (gU f (.rs 1 0 n) (.rs 2 0 n) .z) 89)],4)
  (ao ⟨rfl,rfl,rfl,congrArg (fun k:Nat=>I k) hn,rfl,trivial⟩) ⟨Nat.zero_le _,Nat.le_refl _,by rw[p7];rfl,rfl,⟨fun _=>0,Hp (show 2<4 by decide) rfl,fun _ _ h=>absurd rfl h⟩,fun _=>Nat.le_refl _⟩ ?_) ?_)
 .rintro⟨k,m,nx⟩ ⟨hk,gj,m1,m3,⟨ρ,hJ,hρ⟩,hlen⟩
  dsimp only at hk gj m1 m3 hJ hρ hlen ⊢
  refine bB ?_
  refine ab ⟨_,rfl,fun h=>?_,fun h=>?_⟩
  .have aj:k<n:=by simpa using h
   have hx:f.blocks[k]? =some f.blocks[k]:=List.getElem?_eq_getElem oG
   have b7:f.blocks[k]∈f.blocks:=List.getElem_mem _
   generalize f.blocks[k]=x at hx b7
   have bH:bf f.blocks (k+1)=(nextR x.fin).foldl (cU k) (bf f.blocks k):=by
    rw[bf,List.range_succ,List.foldl_append]
    show og f.blocks _ k=_
    rw[og,hx];rfl
   have jD:=wW hx
   have c8:=nW k
   have F5:=(bQ.ends x b7).wh
   have hle:=AN x.fin
   have Wh:=z' x b7
   have Ae:=wQ x.fin
   have wu:nextR x.fin=jG (fx (dc x.fin)):=by rw[Wh];rfl
   have B9:=B9 (x:=x.fin) oG
   rw[jD] at c8
   generalize bf f.blocks k=L0 at hJ hlen hρ bH
   refine ws ?_;refine J0 ?_;refine l5 ?_;refine ur ?_;refine cE ?_;refine J3 ?_;refine xN ?_;refine er ?_;refine E7 ?_
   refine aF (eL (vs:=aT _) rfl (up_same _ _ _) V.h V.h rfl) ak (eM V.h V.h (by first|(simp;done)|omega|exact Nat.le_of_ble_eq_true rfl)) ?_
   refine zi B9 rfl (by repeat' (first|exact trivial|exact rfl|refine And.intro ?_ ?_)) ?_
   refine bJ ?_
   generalize dc x.fin=d at hle wu B9
   refine ab (aq ?_)
   refine bT ?_
   refine nA (um (i:=nx+1) (l:=d) oG (up_same _ _ _) rfl oG) rfl (by repeat' (first|exact trivial|exact rfl|refine And.intro ?_ ?_)) fun r m' nx' hp=>?_
   obtain⟨rfl,rfl,rfl⟩:=hp
   have gm:(fx d).length=d.length:=GZ d
   have cW:(jG (fx d)).length=(nextR x.fin).length:=by rw[wu]
   refine ab (aJ (lx (l:=[(1,.pt (aB f)),(6,.rp 3 0),(7,I k),(9,.rs (nx+1) 0 d.length),(28,fu f.blocks),(29,I n),(30,I k)]) (m':=up (up m nx (some (.cells (eN x) 72))) (nx+1) (some (.cells ((fx d).map I) 3))) eH (by rw[nB,nB])) (qj YU ?_))
   have av:up (up m nx (some (.cells (eN x) 72))) (nx+1) (some (.cells ((fx d).map I) 3)) 3=some (.cells (gU f (.rs 1 0 n) (.rs 2 0 n) .z) 89):=au oG (au oG m3)
   have fF:up (up m nx (some (.cells (eN x) 72))) (nx+1) (some (.cells ((fx d).map I) 3)) 1=some (.cells (iI f n k) 27):=au oG (au oG m1)
   have oq:up (up m nx (some (.cells (eN x) 72))) (nx+1) (some (.cells ((fx d).map I) 3)) (nx+1)=some (.cells ((fx d).map I) 3):=up_same _ _ _
   have yv:=hJ.lt
   have hJ:=hJ.ext (m':=up (up m nx (some (.cells (eN x) 72))) (nx+1) (some (.cells ((fx d).map I) 3))) (nx':=nx+2) (fun q hq=>au oG (au oG rfl)) oG
   generalize up (up m nx (some (.cells (eN x) 72))) (nx+1) (some (.cells ((fx d).map I) 3))=M at av fF oq hJ
   clear m1 m3
   refine vT ?_;refine Kb ?_;refine Kc ?_;refine oX ?_;refine J0 ?_;refine bT ?_
   refine EO (r:=.rs (nx+1) 0 (jG (fx d)).length) (ups:=[(nx+1,some (.cells (tB (fx d) d.length) 3))]) (rds:=[nx+1]) (fun m2 ix mP=>?_) ?_ rfl (by repeat' (first|exact trivial|exact rfl|refine And.intro ?_ ?_)) ?_
   .have e:=mP (nx+1) (by simp) (by rw[oq];simp)
    rw[oq] at e
    refine D1 e zA.he fun xQ=>(B3 xQ e gm oG).mono ?_
    rintro r m' nx' ⟨h1,h2,h3⟩
    exact⟨h2,h3,h1⟩
   .intro i hi
    simp at hi
    subst hi
    exact⟨by simp,by rw[oq];simp⟩
   have p8:tB (fx d) d.length=(nextR x.fin).map I++List.replicate (d.length - (nextR x.fin).length) (I 0):=by rw[tB,wu]
   show AOps _ _ _ _ _ _ _ ⟨up _ 46 _,up M (nx+1) (some (.cells (tB (fx d) d.length) 3)),_⟩ _
   rw[<- wu,p8]
   have dA:(nextR x.fin).length<=d.length:=by
    rw[wu]
    have:(jG (fx d)).length<=(fx d).length:=HR _
    omega
   clear p8 cW wu oq
   generalize nextR x.fin=l at c8 Ae bH jD dA
   refine aF (nq rfl rfl (au oG fF) V.h V.h) ak ⟨V.h,by omega⟩ ?_
   refine cK (iN (d:=.rs _ _ _) (cs':=_) rfl rfl (au oG fF) rfl rfl) ak (dU V.h V.h (by first|(simp;done)|exact⟨rfl,Nat.le_of_ble_eq_true rfl⟩|(simp;omega)) rfl) ?_
   refine bc (by simp[apartT];omega) ?_
   have e1:(iI f n k).set k (.rs (nx+1) 0 l.length)=(List.range n).map fun i=>if i=k then .rs (nx+1) 0 l.length else if i<k then aw (aQ (cy f) i) else .z:=Z7 aj
   rw[e1]
   refine aJ (MS (i:=nx+1) (e:=3) (cs:=l.map I++List.replicate (d.length - l.length) (I 0)) (l:=[(1,.pt (aB f)),(6,.rp 3 0),(7,I k),(28,fu f.blocks),(29,I n),(30,I k)]) (au oG (up_same _ _ _)) ⟨rfl,D2 oG,rfl,rfl,rfl,rfl,trivial⟩) (aq ?_)
   have N1:(fun j=>if j=nx+1 then none else(up (up M (nx+1) (some (.cells (l.map I++List.replicate (d.length - l.length) (I 0)) 3))) 1 (some (.cells ((List.range n).map fun i=>if i=k then .rs (nx+1) 0 l.length else if i<k then aw (aQ (cy f) i) else .z) 27)) j).map (Row.sub (fz0 (nx+1) (l.map I++List.replicate (d.length - l.length) (I 0)) (prog.cellsOf 3)))) 1=some (.cells (iI f n (k+1)) 27):=by
    dsimp only
    rw[if_neg oG,up_same]
    show some (Row.cells (List.map _ (List.map _ _)) 27)=_
    rw[List.map_map,iI]
    refine congrArg (fun c=>some (Row.cells c 27)) (List.map_congr_left fun i _=>?_)
    simp only[Function.comp_apply]
    by_cases Wi:i=k
    .subst Wi
     rw[if_pos rfl,if_pos oG,jD,c3,zl]
     simp[aw]
    .rw[if_neg Wi]
     by_cases h2:i<k
     .rw[if_pos h2,if_pos oG];rfl
     .rw[if_neg h2,if_neg oG];rfl
   have N3:(fun j=>if j=nx+1 then none else(up (up M (nx+1) (some (.cells (l.map I++List.replicate (d.length - l.length) (I 0)) 3))) 1 (some (.cells ((List.range n).map fun i=>if i=k then .rs (nx+1) 0 l.length else if i<k then aw (aQ (cy f) i) else .z) 27)) j).map (Row.sub (fz0 (nx+1) (l.map I++List.replicate (d.length - l.length) (I 0)) (prog.cellsOf 3)))) 3=some (.cells (gU f (.rs 1 0 n) (.rs 2 0 n) .z) 89):=by
    dsimp only
    rw[if_neg oG,up_ne _ _ oG,up_ne _ _ oG,av]
    refine congrArg some (lJ.cells (X:=fun p=>p=nx+1) (fun d hd=>?_) _ _ _ rfl)
    simp only[gU,List.mem_cons,List.not_mem_nil,or_false] at hd
    rcases hd with rfl|rfl|rfl|rfl|rfl|rfl|rfl|rfl|rfl|rfl|rfl
    .exact .s _
    .exact .s _
    .exact .s _
    .exact .s _
    .exact .sl _ _
    .exact .sl _ _
    .exact .sl _ _
    .exact .sl _ _
    .exact .rs oG
    .exact .rs oG
    .exact .z
   have NJ:dH (fun j=>if j=nx+1 then none else(up (up M (nx+1) (some (.cells (l.map I++List.replicate (d.length - l.length) (I 0)) 3))) 1 (some (.cells ((List.range n).map fun i=>if i=k then .rs (nx+1) 0 l.length else if i<k then aw (aQ (cy f) i) else .z) 27)) j).map (Row.sub (fz0 (nx+1) (l.map I++List.replicate (d.length - l.length) (I 0)) (prog.cellsOf 3)))) (nx+2) 2 n 27 3 ρ (fun i=>(L0 i).map I):=by
    refine dH.fz ⟨?_,hJ.nU,fun i hi hl=>?_,hJ.lt,hJ.ne,hJ.inj⟩ (fun _=>.map) oG fun i hi hl=>by have:=yv i hi hl;omega
    .exact au oG (au oG hJ.row)
    .have:=yv i hi hl
     exact au (hρ i hi hl).1 (au oG (hJ.pT i hi hl))
   clear av fF hJ e1
   generalize (fun j=>if j=nx+1 then none else(up (up M (nx+1) (some (.cells (l.map I++List.replicate (d.length - l.length) (I 0)) 3))) 1 (some (.cells ((List.range n).map fun i=>if i=k then .rs (nx+1) 0 l.length else if i<k then aw (aQ (cy f) i) else .z) 27)) j).map (Row.sub (fz0 (nx+1) (l.map I++List.replicate (d.length - l.length) (I 0)) (prog.cellsOf 3))))=m at N1 N3 NJ ⊢
   have av:=N3
   have fF:=N1
   have kd:(iI f n (k+1)).drop k=aw l::(iI f n (k+1)).drop (k+1):=by
    rw[List.drop_eq_getElem_cons (by simp;omega)]
    congr 1
    simp[iI,jD]
   refine vT ?_;refine Kb ?_;refine Kc ?_;refine oX ?_;refine J0 ?_;refine vS ?_;refine J' ?_;refine iL ?_;refine J0 ?_
   have wJ:l.length<=10:=by omega
   clear kd av fF hx F5 Wh hle Ae gm dA B9
   refine ab (eX (α:=Nat×Mem×Nat)
    (fun j=>⟨ax [(1,.pt (aB f)),(6,.rp 3 0),(7,I k),(28,fu f.blocks),(29,I n),(30,I k),(54,aw l),(55,I l.length),(56,I j.1)],j.2.1,j.2.2⟩)
    (fun j=>j.1<=l.length/\4<=j.2.2/\j.2.1 1=some (.cells (iI f n (k+1)) 27)/\j.2.1 3=some (.cells (gU f (.rs 1 0 n) (.rs 2 0 n) .z) 89)/\(∃ ρ,dH j.2.1 j.2.2 2 n 27 3 ρ (fun i=>((l.take j.1).foldl (cU k) L0 i).map I)/\(∀ i,i<n->((l.take j.1).foldl (cU k) L0 i).map I≠[]->ρ i≠1/\ρ i≠3))/\∀ i,((l.take j.1).foldl (cU k) L0 i).length<=12*k+j.1) (fun j=>l.length - j.1) (0,m,nx+2)
    (ao eH) ⟨Nat.zero_le _,by dsimp only;omega,N1,N3,⟨ρ,NJ,hρ⟩,hlen⟩ ?_)
   clear N1 N3 NJ hlen hρ yv gj
   rintro⟨j,m,nx⟩ ⟨hj,gj,m1,m3,⟨ρ,hJ,hρ⟩,hlen⟩
   dsimp only at hj gj m1 m3 hJ hρ hlen ⊢
   have av:=hJ.row
   have fF:=m3
   have cD:=hJ.nU
   have dE:∀ t,l[j]? =some t->(l.take (j+1)).foldl (cU k) L0=cU k ((l.take j).foldl (cU k) L0) t:=fun t ht=>mf ht
   have nC:j=l.length->(l.take j).foldl (cU k) L0=bf f.blocks (k+1):=fun e=>by rw[bH,List.take_of_length_le oG]
   generalize (l.take j).foldl (cU k) L0=L at hJ hρ hlen av dE nC
   refine bB ?_
   refine ab ⟨_,rfl,fun h=>?_,fun h=>?_⟩
   .have vP:j<l.length:=by simpa using h
    have uv:l[j]? =some l[j]:=List.getElem?_eq_getElem vP
    have mZ:=c8 _ (List.getElem_mem vP)
    generalize l[j]=t at uv mZ
    obtain⟨i,rfl⟩:=Int.eq_ofNat_of_zero_le mZ.1
    have bk:i<n:=mZ.2
    have hL:=hlen i
    have dE:(l.take (j+1)).foldl (cU k) L0=up L i (L i++[(k:Int)]):=dE _ uv
    have qM:∀ i,((l.take (j+1)).foldl (cU k) L0 i).length<=12*k+(j+1):=fun a=>by
     rw[dE];exact DA (t:=(i:Int)) hlen a
    have wE:(fun a=>((l.take (j+1)).foldl (cU k) L0 a).map I)=up (fun a=>(L a).map I) i ((L i++[(k:Int)]).map I):=by rw[dE];exact Ig
    obtain⟨cs,kd⟩:=DZ (ρ:=ρ) (L:=fun i=>(L i).map I) bk
    have Wj:∀ a,a<n->((l.take (j+1)).foldl (cU k) L0 a).map I≠[]->up ρ i (nx+1) a≠1/\up ρ i (nx+1) a≠3:=fun a ha aA=>by
     simp only[up]
     split
     .omega
     .rename_i wD
      refine hρ a ha ?_
      rw[dE,up_ne _ _ wD] at aA
      exact aA
    refine ws ?_;refine o4 ?_;refine J3 ?_
    refine ab (np YV ?_)
    by_cases hz:L i=[]
    .have rE:jc (ρ i) ((L i).map I)=.z:=by rw[hz];rfl
     rw[rE] at kd
     refine vT ?_;refine Fs ?_;refine Ft ?_;refine Fu ?_;refine J0 ?_;refine vT ?_;refine Fs ?_;refine Ft ?_;refine Fu ?_;refine J0 ?_;refine nT ?_;refine rD ?_;refine J0 ?_;refine fY ?_;refine B1 ?_;refine JQ ?_;refine JR ?_
     refine bc (by simp[apartT];omega) ?_
     refine cr ?_
     refine ab (aK (j+1,up (up (up m nx (some (.cells [I k] 3))) (nx+1) (some (.cells [I k] 3))) 2 (some (.cells ((iw ρ (fun i=>(L i).map I) n).set i (.rs (nx+1) 0 1)) 27)),nx+2) (ao eH) ⟨by dsimp only;omega,by dsimp only;omega,?_,?_,⟨up ρ i (nx+1),?_,Wj⟩,qM⟩ (by dsimp only;omega))
     .dsimp only
      exact au oG (au oG (au oG m1))
     .dsimp only
      exact au oG (au oG (au oG m3))
     dsimp only
     rw[wE]
     refine hJ.jk bk (by simp) oG oG ?_ ?_ (fun q hq qc _=>?_)
     .rw[hz];exact up_same _ _ _
     .rw[hz];exact au oG (up_same _ _ _)
     .exact au oG (au oG (au oG rfl))
    .have aA:(L i).map I≠[]:=by simpa using hz
     have rE:jc (ρ i) ((L i).map I)=.rs (ρ i) 0 (L i).length:=by rw[nD aA,List.length_map]
     rw[rE] at kd
     have oq:=hJ.pT i bk aA
     have yv:=hJ.lt i bk aA
     have hρ2:=hJ.ne i bk aA
     obtain⟨K6,hρ3⟩:=hρ i bk aA
     refine vT ?_;refine Fs ?_;refine Ft ?_;refine Fu ?_;refine J0 ?_;refine vT ?_;refine Fs ?_;refine Ft ?_;refine Fu ?_;refine J0 ?_;refine nT ?_;refine rD ?_;refine J0 ?_;refine fY ?_
     refine vJ (u6 rfl (au oG oq) rfl V.h V.h (wU (up_same _ _ _) rfl) rfl) ak ⟨V.h,rfl,(by first|omega|exact Nat.le_of_ble_eq_true rfl|(simp;done)|(simp;omega)),(by decide),(by first|rfl|(simp;done)|(simp;omega)),(by unfold maxLen;first|omega|(simp;omega)),(by rw[b3];first|omega|(simp;omega)),(by first|(simp;done)|(simp;omega))⟩ ?_
     refine JS ?_;refine JT ?_
     refine bc (by simp[apartT];omega) ?_
     refine cr ?_
     refine ab (aK (j+1,up (up (up (up m nx (some (.cells [I k] 3))) (ρ i) none) (nx+1) (some (.cells ((L i).map I++[I k]) 3))) 2 (some (.cells ((iw ρ (fun i=>(L i).map I) n).set i (.rs (nx+1) 0 ((L i).length+1))) 27)),nx+2) (ao eH) ⟨by dsimp only;omega,by dsimp only;omega,?_,?_,⟨up ρ i (nx+1),?_,Wj⟩,qM⟩ (by dsimp only;omega))
     .dsimp only
      exact au oG (au oG (au oG (au oG m1)))
     .dsimp only
      exact au oG (au oG (au oG (au oG m3)))
     dsimp only
     rw[wE]
     refine hJ.jk bk (by simp) oG oG ?_ ?_ (fun q hq qc mV=>?_)
     .rw[List.length_map,List.length_append];exact up_same _ _ _
     .rw[List.map_append];exact au oG (up_same _ _ _)
     .have:=mV aA
      exact au oG (au oG (au oG (au oG rfl)))
   .have aZ:¬ j<l.length:=by simpa using h
    have vl:=nC oG
    subst vl
    show AOps _ _ _ _ _ _ _ _ _
    refine cr ?_
    refine ab (aK (k+1,m,nx) (ao eH) ⟨by dsimp only;omega,gj,m1,m3,⟨ρ,hJ,hρ⟩,fun i=>by have:=hlen i;dsimp only at this ⊢;omega⟩ (by dsimp only;omega))
  .have aZ:¬ k<n:=by simpa using h
   have:k=n:=by omega
   subst this
   exact⟨m,nx,ρ,ao eH,gj,m1,m3,hJ,hρ⟩
 .rintro s ⟨m,nx,ρ,hg,gj,m1,m3,hJ,hρ⟩
  have nX:¬ ∃ i,i<n/\(bf f.blocks n i).map I≠[]/\ρ i=2:=fun⟨i,h1,h2,h3⟩=>hJ.ne i h1 h2 h3
  have Wl:¬ ∃ i,i<n/\(bf f.blocks n i).map I≠[]/\ρ i=1:=fun⟨i,h1,h2,h3⟩=>(hρ i h1 h2).1 h3
  have Wm:¬ ∃ i,i<n/\(bf f.blocks n i).map I≠[]/\ρ i=3:=fun⟨i,h1,h2,h3⟩=>(hρ i h1 h2).2 h3
  have ue:=hg.trans (DM (l:=[(6,.rp 3 0)]) (ml:=[(1,.cells (iI f n n) 27),(3,.cells (gU f (.rs 1 0 n) (.rs 2 0 n) .z) 89)]) (fun r=>∃ i,i<n/\(bf f.blocks n i).map I≠[]/\ρ i=r) hJ (fun _=>.map) c3 (fun i h1 h2=>⟨i,h1,h2,rfl⟩) nX ⟨rfl,trivial⟩ (fun x hx=>by simp at hx;subst hx;exact .rp Wm) ⟨m1,m3,trivial⟩ (fun x hx=>?_))
  rotate_left
  .simp only[List.mem_cons,List.not_mem_nil,or_false] at hx
   rcases hx with rfl|rfl
   .refine⟨lJ.cells fun d hd=>?_,Wl⟩
    obtain⟨i,_,rfl⟩:=List.mem_map.1 hd
    split
    .exact .sl _ _
    .exact .z
   .refine⟨lJ.cells fun d hd=>?_,Wm⟩
    simp only[gU,List.mem_cons,List.not_mem_nil,or_false] at hd
    rcases hd with rfl|rfl|rfl|rfl|rfl|rfl|rfl|rfl|rfl|rfl|rfl
    .exact .s _
    .exact .s _
    .exact .s _
    .exact .s _
    .exact .sl _ _
    .exact .sl _ _
    .exact .sl _ _
    .exact .sl _ _
    .exact .rs Wl
    .exact .rs nX
    .exact .z
  have hbc:iI f n n=(cy f).map aw:=by
   unfold iI cy
   refine List.ext_getElem (by simp[hn]) fun i h1 h2=>?_
   have hi:i<n:=by simpa using h1
   simp only[List.getElem_map,List.getElem_range,hi,if_true]
   exact congrArg aw (wW (List.getElem?_eq_getElem oG))
  have Lf:=ue.trans (nh (i:=1) (e:=27) (cs:=iI f n n) (l:=[(6,.rp 3 0)]) (ml:=[(2,.cells ((List.range n).map fun i=>.sl ((bf f.blocks n i).map I) ((bf f.blocks n i).map I).length) 27),(3,.cells (gU f (bC (cy f)) (.rs 2 0 n) .z) 89)]) rfl eH ⟨?_,?_,trivial⟩)
  rotate_left
  .refine wV oG rfl (lJ.cells (X:=fun p=>p=1) (fun d hd=>?_) _ _ _ rfl)
   obtain⟨i,_,rfl⟩:=List.mem_map.1 hd
   exact .sl _ _
  .show some (Row.cells (List.map _ (gU f (.rs 1 0 n) (.rs 2 0 n) .z)) 89)=_
   have e1:sub (fz0 1 (iI f n n) (prog.cellsOf 27)) (.rs 1 0 n)=bC (cy f):=by
    rw[mh (by rw[Ao];simp),hbc,bC,show(cy f).length=n by simp[cy,hn]]
   have e2:sub (fz0 1 (iI f n n) (prog.cellsOf 27)) (.rs 2 0 n)=.rs 2 0 n:=DK oG
   simp only[gU,List.map_cons,List.map_nil,e1,e2]
   rfl
  have hg3:=Lf.trans (nh (i:=2) (e:=27) (cs:=(List.range n).map fun i=>.sl ((bf f.blocks n i).map I) ((bf f.blocks n i).map I).length) (l:=[(6,.rp 3 0)]) (ml:=[(3,.cells (gU f (bC (cy f)) (bC (dJ f.blocks)) .z) 89)]) rfl eH ⟨?_,trivial⟩)
  rotate_left
  .show some (Row.cells (List.map _ (gU f (bC (cy f)) (.rs 2 0 n) .z)) 89)=_
   have e1:sub (fz0 2 ((List.range n).map fun i=>.sl ((bf f.blocks n i).map I) ((bf f.blocks n i).map I).length) (prog.cellsOf 27)) (.rs 2 0 n)=bC (dJ f.blocks):=by
    rw[mh (by rw[Ao];simp),Hq,dJ,hn]
   simp only[gU,List.map_cons,List.map_nil,e1]
   rfl
  refine⟨_,hg3,aq ?_⟩
  have Fp:=Fp (f:=f) (beh:=cy f) (ahd:=dJ f.blocks) (c:=.z) (w:= -1) .z rfl (by simp[cy,hn]) hn (by have:=bQ.pos;omega) oG nW cR
  have sX:=te (w:= -1) nW (by have:=bQ.pos;omega)
  have sY:xr f=dp f (cy f) (dJ f.blocks) (cA (bu (aQ (cy f)) n (-1))):=by rw[xr,hn]
  rw[sY]
  generalize bu (aQ (cy f)) n (-1)=R at Fp sX ⊢
  refine vT ?_;refine vT ?_
  refine nA (Xf (rds:=[3]) (args:=[.rp 3 0,I (-1)]) (args':=[.pt (dp f (cy f) (dJ f.blocks) .z),I (-1)]) ⟨ada (cs:=dp f (cy f) (dJ f.blocks) .z) rfl (by simp) rfl (G4 .z),cq (.s _),trivial⟩ Fp (fun d hd=>by obtain⟨x,_,rfl⟩:=List.mem_map.1 hd;rfl)) rfl (by repeat' (first|exact trivial|exact rfl|refine And.intro ?_ ?_)) fun d m' nx' hp=>?_
  obtain⟨rfl,rfl,rfl⟩:=hp
  have av:up (aX [(3,.cells (gU f (bC (cy f)) (bC (dJ f.blocks)) .z) 89)]) nx (some (.cells (R.map B) 4)) 3=some (.cells (gU f (bC (cy f)) (bC (dJ f.blocks)) .z) 89):=au oG rfl
  refine Kb ?_;refine Kc ?_
  refine cK (iN (d:=.rs _ _ _) (cs':=_) rfl rfl av rfl rfl) ak (dU V.h V.h (by first|(simp;done)|exact⟨rfl,Nat.le_of_ble_eq_true rfl⟩|(simp;omega)) rfl) ?_
  refine ab ?_
  have e0:(fun j=>if j=nx then none else(up (up (aX [(3,.cells (gU f (bC (cy f)) (bC (dJ f.blocks)) .z) 89)]) nx (some (.cells (R.map B) 4))) 3 (some (.cells (gU f (bC (cy f)) (bC (dJ f.blocks)) (.rs nx 0 n)) 89)) j).map (Row.sub (fz0 nx (R.map B) (prog.cellsOf 4)))) 3=some (.cells (gU f (bC (cy f)) (bC (dJ f.blocks)) (cA R)) 89):=by
   dsimp only
   rw[if_neg oG,up_same]
   show some (Row.cells (List.map _ (gU f (bC (cy f)) (bC (dJ f.blocks)) (.rs nx 0 n))) 89)=_
   have e1:sub (fz0 nx (R.map B) (prog.cellsOf 4)) (.rs nx 0 n)=cA R:=by
    rw[mh (by rw[c4];simp[sX]),cA,sX]
   simp only[gU,List.map_cons,List.map_nil,e1]
   rfl
  refine⟨_,(MS (i:=nx) (e:=4) (cs:=R.map B) (l:=[(6,.rp 3 0)]) (au oG (up_same _ _ _)) ⟨D2 oG,trivial⟩).trans (rV (i:=3) (l:=[(6,.pt (dp f (cy f) (dJ f.blocks) (cA R)))]) e0 ⟨mG,trivial⟩),ag ?_⟩
  refine uC ?_;refine Kd ?_;refine J3 ?_
  exact ab (kM rfl rfl rfl)
end Go.Proofs.Tryz.K
end
namespace Go.Argus
open Go Go.Abs
def T3:List Int:=List.replicate 19 0
structure LG where
 beh:Nat->List Int
 blk:Nat->bw
 W9:Nat->Int->List Int
 Xa:Nat->Int->Int
def vE(w:List Int):Prop:=w.length=19/\eT w
theorem vE.with{w:List Int}(h:vE w)(m:Nat):vE (tA w m):=⟨by simp[h.1],h.2.with m⟩
theorem vE.zero:vE T3:=⟨by simp[T3],Zv 19⟩
theorem vE.vt{w:List Int}(h:vE w)(n:Int):vE (vt w n):=⟨by simp[h.1],h.2.vt n⟩
def Is(l:List Int):Prop:=∀ r∈l,0<=r/\r<1216
structure ajO(y:a8):Prop where
 rd:Is (bS y)
 wr:cO y<1216
structure akW(g:LG)(n:Nat):Prop where
 beh:∀ b,∀ c∈g.beh b,0<=c/\c.toNat<n
 ins:∀ b,∀ y∈(g.blk b).ins,ajO y
 W9:∀ b,∀ c∈g.beh b,Is (g.W9 b c)
 Xa:∀ b,∀ c∈g.beh b,g.Xa b c<1216
 red:∀ b,Is (bR (g.blk b).fin)
section
variable{g:LG}{n:Nat}
end
end Go.Argus
namespace Go.Argus
section
variable{g:LG}{n:Nat}{ord:List Int}
end
end Go.Argus
section
open Go Go.Abs Go.Proofs Go.Argus
namespace Go.Argus
def Cc(f:az)(c:Nat):List Int:=bf f.blocks f.blocks.length c
def oI(f:az)(b:Nat):bw:=f.blocks.getD b iV
def lgR(f:az):LG:=⟨aQ (cy f),oI f,fun b c=>QA (Cc f c.toNat) b (oI f c.toNat),fun b c=>AV (oI f b).fin c⟩
theorem Hu{f:az}{b:Nat}{x:bw}(h:f.blocks[b]? =some x):oI f b=x:=getD_some h
theorem MT{f:az}{b:Nat}(h:f.blocks.length<=b):oI f b=iV:=by
 unfold oI
 rw[List.getD_eq_getElem?_getD,List.getElem?_eq_none h];rfl
theorem QB{α:Type}{p:α->Bool}{y:α}:∀ {l:List α},y∈l.takeWhile p->p y=true
 |[],h=>by simp at h
 |a::l,h=>by
  rw[List.takeWhile_cons] at h
  split at h
  .rename_i ha
   rcases List.mem_cons.1 h with e|e
   .subst e;exact ha
   .exact QB e
  .simp at h
theorem Z9{x:bw}{y:a8}(h:y∈BR x):y.op=19:=by simpa[bE] using QB h
theorem YW{x:bw}{y:a8}(h:y∈BR x):y∈x.ins:=(List.takeWhile_prefix bE).subset h
theorem oh.akU{f:az}(h:oh f){b:Nat}{x:bw}(hx:f.blocks[b]? =some x){y:a8}(hy:y∈BR x):y.args.length=(Cc f b).length/\∀ r∈y.args,0<=r/\r<1200:=by
 obtain⟨j,hj⟩:=List.getElem?_of_mem (YW hy)
 obtain⟨h1,_,_,_,h2⟩:=(GH h.af h.aL.1 h.aL.2 (h.right b x hx j y hj)).2 (Z9 hy)
 refine⟨by unfold Cc;omega,fun r hr=>?_⟩
 have:=(h2 r hr).2
 unfold iq at this
 have:=h.af
 omega
def akV(f:az):List Int:=(bU (aQ (cy f)) f.blocks.length).reverse
def Wn(a:Int):List (Int×Int)->Option Int
 |[]=>none
 |(k,v)::t=>if k=a then some v else Wn a t
inductive Es(l:List (Int×Int)):Int->List Int->Prop
 |nil:Es l (-1) []
 |cons {b a:Int} {p:List Int}:b≠ -1->Wn b l=some a->Es l a p->Es l b (b::p)
end Go.Argus
namespace Go.Proofs.Tryz.K
set_option maxRecDepth 10000
theorem lg_ok{f:az}(h:oh f):akW (lgR f) f.blocks.length:=by
 have vQ:∀ b,∀ y∈(oI f b).ins,om y:=fun b y hy=>by
  cases hx:f.blocks[b]? with
  |none=>rw[MT (List.getElem?_eq_none_iff.1 hx)] at hy;simp[iV] at hy
  |some x=>rw[Hu hx] at hy;exact(h.blk x (List.mem_of_getElem? hx)).ins y hy
 have sB:∀ b,b<f.blocks.length->zk (oI f b).fin:=fun b hb=>by
  rw[Hu (List.getElem?_eq_getElem hb)];exact(h.ends _ (List.getElem_mem hb)).fin
 refine⟨beh_in h,fun b y hy=>?_,fun b c hc=>?_,fun b c hc=>?_,fun b=>?_⟩
 .have:=vQ b y hy
  exact⟨fun r hr=>by have:=this.rd r hr;omega,by have:=this.wr;omega⟩
 .have jh:=beh_in h b c hc
  have hx:=List.getElem?_eq_getElem jh.2
  intro r hr
  obtain⟨y,hy,rfl⟩:=List.mem_map.1 hr
  rw[Hu hx] at hy
  obtain⟨e1,e2⟩:=h.akU hx hy
  rw[List.getD_eq_getElem?_getD]
  cases e:y.args[(pP (fun z=>(b:Int)==z) (Cc f c.toNat)).toNat]? with
  |none=>simp
  |some v=>
   have:=e2 v (List.mem_of_getElem? e)
   simp only[Option.getD_some]
   omega
 .show AV _ _<1216
  have hb:b<f.blocks.length:=by
   rcases Nat.lt_or_ge b f.blocks.length with g|g
   .exact g
   .have hc:c∈aQ (cy f) b:=hc
    rw[G6 g] at hc;simp at hc
  have:=(sB b hb).wr
  show AV (oI f b).fin c<1216
  unfold AV
  split<;>omega
 .intro r hr
  have hr:r∈bR (oI f b).fin:=hr
  rcases Nat.lt_or_ge b f.blocks.length with g|g
  .have:=(sB b g).rd r hr;omega
  .rw[MT g] at hr;simp[iV,bR,aH] at hr
theorem ord_in{f:az}(h:oh f):∀ b∈akV f,0<=b/\b.toNat<f.blocks.length:=fun b hb=>by
 have kY:=h.pos
 have hb:=(G7 (beh_in h) kY).1 (List.mem_reverse.1 hb)
 refine⟨hb.1,?_⟩
 have hl:=te (w:= -1) (beh_in h) kY
 rcases Nat.lt_or_ge b.toNat f.blocks.length with g|g
 .exact g
 .rw[List.getD_eq_getElem?_getD,List.getElem?_eq_none oG] at hb
  simp at hb
theorem Ol{f:az}(cT:eh f≠0):PCall prog 51 [.agg (aB f)] (.tup [.s (.pointer none),I (eh f)]):=by
 have wG:=wG (f:=f)
 generalize eh f=e at wG cT
 have iH:(e !=0)=true:=by simpa using cT
 refine aY mixed Ka (by rw[UO];rfl) (.cons (.agg (gp f)) .nil) (.tup (.cons (.s _) (.cons (.s _) .nil))) ?_
 rw[UP,UQ]
 refine aq ?_
 refine ia ?_;refine CW ?_;refine J3 ?_
 refine ab (aJ (bg [(0,aB f,26)] eH (l:=[(1,.pt (aB f))]) eH) (aC (ag ?_)))
 refine dh ?_;refine cl wG ?_;refine J3 ?_
 refine ab (aC (ag ?_))
 refine J0 ?_;refine jl ?_
 refine ab (bp rfl (fun _=>?_) fun h=>(by cases h))
 refine aC (ag ?_)
 refine J0 ?_;refine CW ?_;refine J3 ?_
 exact ab (dn (kM rfl rfl rfl))
end Go.Proofs.Tryz.K
end
namespace Go.Argus
open Go Go.Abs
open Go.Proofs.Tryz.K (nextR lg_ok beh_in ord_in)
def KA(f:az):Nat->List Int:=aQ (cy f)
def EU(f:az)(r:Int)(b:Nat)(p:Bool):Int:=ae9 (oI f b) r p
def FG(f:az)(r:Int)(a c:Nat):Int:=aba (oI f a) (oI f c) (Cc f c) a c r
def LvG(f:az)(r:Int)(b:Nat):Prop:=Lv (KA f) (EU f r) (FG f r) b
def tI(l:List (Int×Int)):List Int:=l.map (·.1)
theorem Hc:∀ {n:Nat} {l:List Int},l.Nodup->(∀ x∈l,0<=x/\x.toNat<n)->l.length<=n
 |0,l,_,h=>by
  cases l with
  |nil=>simp
  |cons a l=>have:=h a (by simp);omega
 |n+1,l,hd,h=>by
  by_cases hm:(n:Int)∈l
  .have h1:=Hc (n:=n) (l:=l.erase n) (hd.erase _) fun x hx=>by
    have sM:=(hd.mem_erase_iff).1 hx
    have:=h x sM.2
    have:=sM.1
    omega
   rw[List.length_erase_of_mem hm] at h1
   omega
  .have h1:=Hc (n:=n) (l:=l) hd fun x hx=>by
    have:=h x hx
    have:x≠n:=fun e=>hm (e▸hx)
    omega
   omega
structure BF(f:az)(r b0:Int)(mN:List (Int×Int))(op:List Int):Prop where
 yE:∀ c∈tI mN,0<=c/\c.toNat<f.blocks.length
 nd:(tI mN).Nodup
 ch:∀ c∈tI mN,∃ p:List Int,Es mN c p/\p.length<=mN.length/\GP (KA f) (EU f r) (FG f r) b0 p.reverse c
 qu:∀ c∈op,c∈tI mN
 done:∀ c∈tI mN,c∈op\/(EU f r c.toNat true≠1/\(EU f r c.toNat true=0->∀ d∈KA f c.toNat,FG f r c.toNat d.toNat≠1/\(FG f r c.toNat d.toNat=0->d∈tI mN)))
 Xb:b0∈tI mN
theorem BF.len{f:az}{r b0:Int}{mN:List (Int×Int)}{op:List Int}(h:BF f r b0 mN op):mN.length<=f.blocks.length:=by
 have:=Hc h.nd h.yE
 simpa[tI] using this
theorem BF.none{f:az}{r b0:Int}{mN:List (Int×Int)}(h:BF f r b0 mN []):¬ LvG f r b0.toNat:=by
 refine Xm (V:=fun c=>(c:Int)∈tI mN) (fun b hb=>?_) ?_
 .rcases h.done b hb with h1|⟨h1,h2⟩
  .simp at h1
  .simp only[Int.toNat_natCast] at h1 h2
   refine⟨h1,fun h0 d hd=>⟨(h2 h0 d hd).1,fun he=>?_⟩⟩
   have hm:=(h2 h0 d hd).2 he
   have:=(h.yE d hm).1
   rwa[Int.toNat_of_nonneg this]
 .have:=(h.yE b0 h.Xb).1
  rw[Int.toNat_of_nonneg this]
  exact h.Xb
end Go.Argus
section
open Go Go.Abs Go.Proofs Go.Argus
namespace Go.Abs
section
variable{P:Program}{m:Mem}{nx:Nat}
end
end Go.Abs
namespace Go.Argus
def QC(f:az)(b r:Int):Prop:=uW f.blocks.length b=true/\0<=r/\r<f.af.length
instance(f:az)(b r:Int):Decidable (QC f b r):=by unfold QC;infer_instance
theorem hd9:∀ a b c d e f g h i:Bool,(if(if(if(if(if(if(if a=true then b else false)=true then true else c)=true then true else(if d=true then e else false))=true then true else f)=true then true else g)=true then true else h)=true then true else i)=((a&&b)||(c||((d&&e)||(f||(g||(h||i)))))):=by decide
theorem akX:∀ a b c d e:Bool,(if(if(if(if a=true then true else b)=true then true else c)=true then true else d)=true then true else e)=(a||(b||(c||(d||e)))):=by decide
def zJ(f:az):Bool:=(decide (24<(f.blocks.length:Int))&&decide ((f.blocks.length:Int)<=1200))||(decide (1210<(f.blocks.length:Int))||((decide (14<(f.af.length:Int))&&decide ((f.af.length:Int)<=1200))||(decide (1210<(f.af.length:Int))||(decide (130<(f.name.size:Int))||(decide (70<(f.aL.length:Int))||decide (10<(f.signals.length:Int)))))))
def qE(b:bw):Bool:=decide (12<(b.ins.length:Int))||(decide (8<(b.fin.aD.length:Int))||(decide (10<(b.fin.args.length:Int))||(decide (130<(b.fin.name.size:Int))||decide (10<(b.fin.ins.args.length:Int)))))
def qF(y:a8):Bool:=decide (26<(y.args.length:Int))
def pU(f:az):Bool:= !(zJ f)&&(f.signals.all (fun s=> !(decide (20<(s.size:Int))))&&f.blocks.all (fun b=> !(qE b)&&b.ins.all fun y=> !(qF y)))
theorem aqP{f:az}(h:pU f=true):f.blocks.length<=24\/1200<f.blocks.length:=by
 unfold pU zJ at h
 simp only[Bool.and_eq_true,Bool.not_eq_true',Bool.or_eq_false_iff] at h
 have h1:=h.1.1
 by_cases h2:24<f.blocks.length
 .by_cases h3:f.blocks.length<=1200
  .simp at h1;omega
  .omega
 .omega
def allI(cnt:List Bool)(k:Nat):List Int:=((List.range k).filter fun i=>cnt.getD i false).map fun(i:Nat)=>(i:Int)
theorem G8(cnt:List Bool)(k:Nat):allI cnt (k+1)=if cnt.getD k false=true then allI cnt k++[(k:Int)] else allI cnt k:=by
 unfold allI
 rw[List.range_succ,List.filter_append,List.map_append]
 by_cases h:cnt.getD k false=true
 .rw[if_pos h,List.filter_cons_of_pos (by exact h)];rfl
 .rw[if_neg h,List.filter_cons_of_neg (by exact h),List.filter_nil,List.map_nil,List.append_nil]
theorem NG(cnt:List Bool):∀ {k n:Nat},k<=n->∃ t,allI cnt n=allI cnt k++t
 |k,0,h=>by
  have:k=0:=by omega
  subst this
  exact⟨[],by simp⟩
 |k,n+1,h=>by
  rcases Nat.lt_or_ge k (n+1) with g|g
  .obtain⟨t,ht⟩:=NG cnt (k:=k) (n:=n) oG
   rw[G8]
   split
   .exact⟨t++[(n:Int)],by rw[ht,List.append_assoc]⟩
   .exact⟨t,ht⟩
  .have:k=n+1:=by omega
   subst this
   exact⟨[],by simp⟩
theorem abb{cnt:List Bool}{k n:Nat}(hk:k<n)(hc:cnt.getD k false=true):(allI cnt n)[(allI cnt k).length]? =some (k:Int):=by
 obtain⟨t,ht⟩:=NG cnt (k:=k+1) (n:=n) oG
 rw[ht,G8,if_pos hc,List.append_assoc,List.getElem?_append_right (Nat.le_refl _),Nat.sub_self]
 rfl
def Ce(k a to fC:Int)(x:a8):End:=⟨k,a,0,to,fC,⟨#[]⟩,x,[],[], -1⟩
def oJ:az:=⟨⟨#[115,117,109]⟩,false,1,1,[1,1,1],[],[],[⟨[⟨1,1,0,0,0,[]⟩],Ce 1 0 1 0 dx⟩,⟨[],Ce 2 0 2 3 dx⟩,⟨[⟨1,2,0,0, -1,[]⟩],Ce 5 0 4 0 ⟨30,1,1,0,0,[]⟩⟩,⟨[],Ce 3 1 0 0 dx⟩,⟨[],Ce 5 0 1 0 ⟨30,0,0,2,0,[]⟩⟩]⟩
def tV:List D:=dp oJ [[1],[2,3],[4],[],[1]] [[],[0,4],[1],[1],[2]] (cA [true,true,true,true,true])
end Go.Argus
namespace Go.Proofs.Tryz.K
set_option maxRecDepth 10000
set_option maxHeartbeats 1000000 in
theorem CX{f:az}:PCall prog 15 [.agg (aB f)] (B (pU f)):=by
 have aP:∀ a∈[D.agg (aB f)],Tr a:=.cons (.agg (gp f)) .nil
 refine aY mixed UR (by rw[akY];rfl) aP (Tr.s _) ?_
 rw[akZ,ak0]
 refine aq ?_
 refine ia ?_;refine J1 ?_
 refine ab (aJ (bg [(0,aB f,26)] eH (l:=[(1,.pt (aB f))]) eH) (aC (aq ?_)))
 refine dG ?_;refine xR ?_;refine ct ?_;refine j8 ?_;refine wF ?_;refine di ?_;refine fe ?_;refine lb ?_;refine fe ?_;refine m8 ?_;refine dg ?_;refine fe ?_;refine wF ?_;refine nR ?_;refine di ?_;refine fe ?_;refine lb ?_;refine bt ?_
 refine bl rfl rfl (H' rfl) (fun hc=>⟨ak,V.h⟩) ?_
 refine lb ?_;refine fe ?_;refine lb ?_;refine fe ?_;refine m8 ?_;refine J9 ?_
 have hd:zJ f=_:=(hd9 (decide (24<(f.blocks.length:Int))) (decide ((f.blocks.length:Int)<=1200)) (decide (1210<(f.blocks.length:Int))) (decide (14<(f.af.length:Int))) (decide ((f.af.length:Int)<=1200)) (decide (1210<(f.af.length:Int))) (decide (130<(f.name.size:Int))) (decide (70<(f.aL.length:Int))) (decide (10<(f.signals.length:Int)))).symm
 refine ab ⟨_,.refl _,bp rfl (fun h=>?_) fun h=>b8 (aC (aq ?_))⟩
 .have h1:zJ f=true:=hd.trans h
  refine aC (ag ?_)
  refine J1 ?_
  refine ab (dn (ap (d:=B false) rfl ?_))
  rw[pU,h1];rfl
 have h1:zJ f=false:=hd.trans h
 clear hd h
 have asB:f.blocks.length<=100000/\f.signals.length<=100000:=by
  unfold zJ at h1
  simp only[Bool.or_eq_false_iff,decide_eq_false_iff_not] at h1
  omega
 refine J3 ?_
 refine ab (bM (fun s=>Ghost prog s ⟨ax [(1,.pt (aB f))],fun _=>none,1⟩/\f.signals.all (fun s=> !(decide (20<(s.size:Int))))=true) (cH (α:=Nat) (fun k=>⟨ax [(1,.pt (aB f)),(3,I k)],fun _=>none,1⟩)
  (fun k=>k<=f.signals.length/\(f.signals.take k).all (fun s=> !(decide (20<(s.size:Int))))=true) (fun k=>f.signals.length - k) 0 (ao eH) ⟨by omega,rfl⟩ ?_) ?_)
 .rintro k ⟨hk,hinv⟩
  refine jy ?_
  refine ab ⟨_,rfl,fun h=>?_,fun h=>?_⟩
  .have aj:k<f.signals.length:=by simpa using h
   have hx:f.signals[k]? =some f.signals[k]:=by simp[aj]
   have kz:f.signals[k]∈f.signals:=List.getElem_mem _
   generalize f.signals[k]=x at hx kz
   refine ws ?_;refine aG ?_;refine gM ?_;refine uw ?_;refine xR ?_
   refine ab (al rfl (fun hp=>?_) fun hp=>?_)
   .refine ws ?_;refine J1 ?_
    refine ab (aO (cm (aM (ap (d:=B false) rfl ?_))))
    have:f.signals.all (fun s=> !(decide (20<(s.size:Int))))=false:=by
     refine Bool.eq_false_iff.2 fun ht=>?_
     have:=List.all_eq_true.1 ht x kz
     rw[hp] at this;cases this
    rw[pU,this]
    simp
   .refine cx ?_
    refine bd ?_
    refine ab (aK (k+1) (ao eH) ⟨by omega,?_⟩ oG)
    rw[List.take_add_one,hx,List.all_append,hinv]
    show(true&&(!(decide (20<(x.size:Int)))&&true))=true
    rw[hp];rfl
  .have aZ:¬ k<f.signals.length:=by simpa using h
   rw[List.take_of_length_le oG] at hinv
   exact⟨ao eH,hinv⟩
 rintro s ⟨hg,US⟩
 refine⟨_,hg,aC (aq ?_)⟩
 refine J3 ?_
 refine ab (bM (fun s=>(∃ nx,Ghost prog s ⟨ax [],fun _=>none,nx⟩)/\f.blocks.all (fun b=> !(qE b)&&b.ins.all fun y=> !(qF y))=true) (cH (α:=Nat×Nat) (fun k=>⟨ax [(1,.pt (aB f)),(4,I k.1)],fun _=>none,k.2⟩)
  (fun k=>k.1<=f.blocks.length/\(f.blocks.take k.1).all (fun b=> !(qE b)&&b.ins.all fun y=> !(qF y))=true) (fun k=>f.blocks.length - k.1) (0,1) (ao eH) ⟨Nat.zero_le _,rfl⟩ ?_) ?_)
 .rintro⟨k,nx⟩ ⟨hk,hinv⟩
  dsimp only at hk hinv ⊢
  refine jy ?_
  refine ab ⟨_,rfl,fun h=>?_,fun h=>?_⟩
  .have aj:k<f.blocks.length:=by simpa using h
   have hx:f.blocks[k]? =some f.blocks[k]:=by simp[aj]
   have kz:f.blocks[k]∈f.blocks:=List.getElem_mem _
   generalize f.blocks[k]=x at hx kz
   have bad:(!(qE x)&&x.ins.all fun y=> !(qF y))=false->pU f=false:=fun hb=>by
    have:f.blocks.all (fun b=> !(qE b)&&b.ins.all fun y=> !(qF y))=false:=by
     refine Bool.eq_false_iff.2 fun ht=>?_
     have:=List.all_eq_true.1 ht x kz
     rw[hb] at this;cases this
    rw[pU,this]
    simp
   refine aq ?_
   refine aG ?_;refine J0 ?_;refine l5 ?_;refine ur ?_;refine cE ?_;refine xN ?_
   refine ab (aJ (rV (i:=nx) (l:=[(1,.pt (aB f)),(4,I k),(5,.pt (eN x))]) (up_same _ _ _) ⟨rfl,rfl,mG,trivial⟩) (aC (ag ?_)))
   refine dG ?_;refine xR ?_;refine J2 ?_;refine J7 ?_;refine fe ?_;refine lb ?_;refine J7 ?_;refine fe ?_;refine lb ?_;refine J7 ?_;refine bt ?_
   refine bl rfl rfl (H' rfl) (fun hc=>⟨ak,V.h⟩) ?_
   refine lb ?_;refine J7 ?_;refine J7 ?_;refine fe ?_;refine m8 ?_;refine J9 ?_
   have hd:qE x=_:=(akX (decide (12<(x.ins.length:Int))) (decide (8<(x.fin.aD.length:Int))) (decide (10<(x.fin.args.length:Int))) (decide (130<(x.fin.name.size:Int))) (decide (10<(x.fin.ins.args.length:Int)))).symm
   refine ab (bp rfl (fun h=>?_) fun h=>b8 (aq ?_))
   .have hb:qE x=true:=hd.trans h
    refine aC (ag ?_)
    refine J1 ?_
    refine ab (dn (cm (aM (ap (d:=B false) rfl ?_))))
    rw[bad (by rw[hb];rfl)]
   .have hb:qE x=false:=hd.trans h
    clear hd h
    have jZ:x.ins.length<=100000:=by
     unfold qE at hb
     simp only[Bool.or_eq_false_iff,decide_eq_false_iff_not] at hb
     omega
    refine J3 ?_
    refine ab (cH (α:=Nat) (fun j=>⟨ax [(1,.pt (aB f)),(4,I k),(5,.pt (eN x)),(6,I j)],fun _=>none,nx+1⟩)
     (fun j=>j<=x.ins.length/\(x.ins.take j).all (fun y=> !(qF y))=true) (fun j=>x.ins.length - j) 0 (ao eH) ⟨Nat.zero_le _,rfl⟩ ?_)
    rintro j ⟨hj,cB⟩
    refine jy ?_
    refine ab ⟨_,rfl,fun h=>?_,fun h=>?_⟩
    .have cD:j<x.ins.length:=by simpa using h
     have hy:x.ins[j]? =some x.ins[j]:=by simp[cD]
     have ux:x.ins[j]∈x.ins:=List.getElem_mem _
     generalize x.ins[j]=y at hy ux
     refine ws ?_;refine aG ?_;refine J0 ?_;refine oZ ?_;refine dG ?_;refine xR ?_
     refine ab (al rfl (fun hp=>?_) fun hp=>?_)
     .have hp:qF y=true:=hp
      refine ws ?_;refine J1 ?_
      refine ab (aO (cm (cm (aM (ap (d:=B false) rfl ?_)))))
      rw[bad]
      have:x.ins.all (fun y=> !(qF y))=false:=by
       refine Bool.eq_false_iff.2 fun ht=>?_
       have:=List.all_eq_true.1 ht y ux
       rw[hp] at this;cases this
      rw[this];simp
     .have hp:qF y=false:=hp
      refine cx ?_
      refine bd ?_
      refine ab (aK (j+1) (ao eH) ⟨by omega,?_⟩ oG)
      rw[List.take_add_one,hy,List.all_append,cB]
      show(true&&(!(qF y)&&true))=true
      rw[hp];rfl
    .have aZ:¬ j<x.ins.length:=by simpa using h
     rw[List.take_of_length_le oG] at cB
     show AOps _ _ _ _ _ _ _ _ _
     refine bd ?_
     refine ab (aK (k+1,nx+1) (ao eH) ⟨by dsimp only;omega,?_⟩ (by dsimp only;omega))
     dsimp only
     rw[List.take_add_one,hx,List.all_append,hinv]
     show(true&&((!(qE x)&&x.ins.all fun y=> !(qF y))&&true))=true
     rw[hb,cB];rfl
  .have aZ:¬ k<f.blocks.length:=by simpa using h
   rw[List.take_of_length_le oG] at hinv
   exact⟨⟨nx,ao trivial⟩,hinv⟩
 rintro s ⟨⟨nx,hg⟩,bj⟩
 refine⟨_,hg,ag ?_⟩
 refine J1 ?_
 refine ab (ap (d:=B true) rfl ?_)
 rw[pU,h1,US,bj]
 rfl
theorem s61{f:az}{beh ahd:List (List Int)}{cnt:List Bool}(hlen:cnt.length<=100000):SeqA prog 61 [.pt (dp f beh ahd (cA cnt))] [] ((allI cnt cnt.length).map fun n=>[I n]):=by
 refine Ia mixed UT (by rw[ak1];rfl) fun L I' Stop m nx hI EB h0=>?_
 rw[ak2,ak3]
 refine aq ?_
 refine uC ?_;refine uB ?_;refine dG ?_;refine J0 ?_
 refine ab (eX (α:=Nat×Mem×Nat) (fun k=>⟨ax [(1,.fn (.yield L) [] []),(9,cA cnt),(10,I cnt.length),(11,I k.1)],k.2.1,k.2.2⟩)
  (fun k=>k.1<=cnt.length/\I' (allI cnt k.1).length k.2.1 k.2.2) (fun k=>cnt.length - k.1) (0,m,nx) (ao eH) ⟨Nat.zero_le _,h0⟩ ?_)
 rintro⟨k,m,nx⟩ ⟨hk,oR⟩
 dsimp only at hk oR ⊢
 refine bB ?_
 refine ab ⟨_,rfl,fun h=>?_,fun h=>?_⟩
 .have aj:k<cnt.length:=by simpa using h
  have hx:cnt[k]? =some cnt[k]:=List.getElem?_eq_getElem aj
  have hg:cnt.getD k false=cnt[k]:=getD_some hx
  have hs:=G8 cnt k
  have Lg:cnt.getD k false=true->((allI cnt cnt.length).map fun n=>[I n])[(allI cnt k).length]? =some [I k]:=fun h=>by
   rw[List.getElem?_map,abb aj h];rfl
  rw[hg] at hs Lg
  generalize cnt[k]=c at hx hs Lg
  refine ws ?_;refine gM ?_;refine J3 ?_;refine J1 ?_;refine er ?_
  cases c with
  |false=>
   refine J2 ?_;refine J2 ?_;refine z fun _ _=>?_;refine z fun _ _=>?_;refine z fun _ _=>?_;refine z fun _ _=>?_;refine gl ?_
   refine ab (al rfl (fun h=>(by cases h)) fun _=>cx ?_)
   refine cr ?_
   refine ab (aK (k+1,m,nx) (ao eH) ⟨by dsimp only;omega,?_⟩ (by dsimp only;omega))
   dsimp only
   rw[hs]
   exact oR
  |true=>
   refine J2 ?_;refine J2 ?_;refine E6 ?_;refine br ?_
   refine EI rfl rfl rfl rfl (by repeat' (first|exact trivial|exact rfl|refine And.intro ?_ ?_)) ⟨rfl,_,Lg rfl,oR,fun d m' nx' hp=>?_⟩
   rcases hp with⟨rfl,hp⟩|⟨rfl,hp⟩
   .refine ej ?_;refine cI ?_
    refine ab (al rfl (fun h=>(by cases h)) fun _=>cx ?_)
    refine cr ?_
    refine ab (aK (k+1,m',nx') (ao eH) ⟨by dsimp only;omega,?_⟩ (by dsimp only;omega))
    dsimp only
    rw[hs,if_pos rfl,List.length_append]
    exact hp
   .refine ej ?_;refine cI ?_
    exact ab (al rfl (fun _=>aO (cm (tv (.inr hp)))) fun h=>(by cases h))
 .have aZ:¬ k<cnt.length:=by simpa using h
  have:k=cnt.length:=by omega
  subst this
  exact sd (.inl (by rw[List.length_map];exact oR))
end Go.Proofs.Tryz.K
namespace Go.Abs
def CY:Value->Value->Bool
 | .int k n,.int k' n'=>decide (k=k')&&decide (n=n')
 | .bool a,.bool b=>a==b
 | .string a,.string b=>decide (a=b)
 |_,_=>false
theorem QD{a b:Value}(h:CY a b=true):a=b:=by
 unfold CY at h
 split at h
 .rw[Bool.and_eq_true,decide_eq_true_eq,decide_eq_true_eq] at h
  rw[h.1,h.2]
 .rw[show _=_ from eq_of_beq h]
 .rw[of_decide_eq_true h]
 .cases h
def jW(g:D->D->Bool):List D->List D->Bool
 |[],[]=>true
 |a::xs,b::bs=>g a b&&jW g xs bs
 |_,_=>false
def qe:Nat->D->D->Bool
 |0,_,_=>false
 |_+1,.s a,.s b=>CY a b
 |_+1,.z,.z=>true
 |_+1,.sl [] 0,.z=>true
 |k+1,.agg a,.agg b=>jW (qe k) a b
 |k+1,.tup a,.tup b=>jW (qe k) a b
 |k+1,.sl a n,.sl b m=>Nat.beq n m&&jW (qe k) a b
 |k+1,.pt a,.pt b=>jW (qe k) a b
 |_+1,_,_=>false
theorem wX{g:D->D->Bool}:∀ {xs bs:List D},jW g xs bs=true->xs.length=bs.length/\∀ (k:Nat) a,xs[k]? =some a->∃ b,bs[k]? =some b/\g a b=true
 |[],[],_=>⟨rfl,fun k a h=>by simp at h⟩
 |a::xs,b::bs,h=>by
  simp only[jW,Bool.and_eq_true] at h
  obtain⟨h1,h2⟩:=wX h.2
  refine⟨by simp[h1],fun k x hx=>?_⟩
  cases k with
  |zero=>simp at hx;subst hx;exact⟨b,rfl,h.1⟩
  |succ k=>exact h2 k x (by simpa using hx)
 |[],_::_,h=>by simp[jW] at h
 |_::_,[],h=>by simp[jW] at h
theorem zm{F:Nat->Prop}{β:Pla}{w:World}:∀ (k:Nat) {a b:D} {v:Value},qe k a b=true->R F β w b v->R F β w a v
 |0,a,b,v,h,_=>by simp[qe] at h
 |k+1,a,b,v,h,hv=>by
  unfold qe at h
  split at h
  .cases h
  .rename_i e;rw[QD h];exact hv
  .exact hv
  .obtain⟨x,rfl⟩:=hv.z_inv
   exact .sln x 0
  .rename_i a b e
   cases e
   obtain⟨h1,h2⟩:=wX h
   cases hv with
   |agg _ vs hl hh=>
    refine .agg _ vs oG fun j d u hd hu=>?_
    obtain⟨b',hb,hg⟩:=h2 j d hd
    exact zm k hg (hh j b' u hb hu)
  .rename_i a b e
   cases e
   obtain⟨h1,h2⟩:=wX h
   cases hv with
   |tup _ vs hl hh=>
    refine .tup _ vs oG fun j d u hd hu=>?_
    obtain⟨b',hb,hg⟩:=h2 j d hd
    exact zm k hg (hh j b' u hb hu)
  .rename_i a n b m e
   cases e
   rw[Bool.and_eq_true] at h
   have Ge:n=m:=Nat.eq_of_beq_eq_true h.1
   obtain⟨h1,h2⟩:=wX h.2
   subst Ge
   cases hv with
   |sln a' cap=>
    have:a=[]:=List.length_eq_zero_iff.1 (by simpa using h1)
    subst this
    exact .sln _ _
   |sl _ _ b' o cap us g1 g2 g3 g4 g5 g6 g7=>
    refine .sl _ _ b' o cap us g1 g2 g3 g4 g5 (fun j hj=>g6 j oG) fun j d hd=>?_
    obtain⟨d',hb,hg⟩:=h2 j d hd
    exact zm k hg (g7 j d' hb)
  .rename_i a b e
   cases e
   obtain⟨h1,h2⟩:=wX h
   cases hv with
   |pt _ b' o us g1 g2 g3 g6 g7=>
    refine .pt _ b' o us g1 g2 g3 (fun j hj=>g6 j oG) fun j d hd=>?_
    obtain⟨d',hb,hg⟩:=h2 j d hd
    exact zm k hg (g7 j d' hb)
  .cases h
theorem Mt{P:Program}{f:FuncId}{args args':List D}{r:D}{k:Nat}(hc:PCall P f args' r)(h:jW (qe k) args' args=true)(ht:∀ a∈args,Tr a):PCall P f args r:=by
 obtain⟨h1,h2⟩:=wX h
 refine⟨hc.1,ht,fun F w vs hF hR=>hc.2.2 F w vs hF ⟨by rw[hR.1,h1],fun j d v hd hv=>?_⟩⟩
 obtain⟨b,hb,hg⟩:=h2 j d hd
 exact zm k hg (hR.2 j b v hb hv)
theorem Z'{P:Program}{f:FuncId}{fs Gf:List D}{xs:List (List D)}{k:Nat}(hc:SeqA P f Gf [] xs)(h:jW (qe k) Gf fs=true):SeqA P f fs [] xs:=by
 obtain⟨h1,h2⟩:=wX h
 refine⟨hc.1,fun F l I Stop m nx β w vs hI hS hm hn hR hy h0=>hc.2 F l I Stop m nx β w vs hI hS hm hn ⟨?_,fun j d v hd hv=>?_⟩ hy h0⟩
 .have:=hR.1
  simp only[List.length_append] at this ⊢
  omega
 .rcases Nat.lt_or_ge j Gf.length with g|g
  .rw[List.append_nil,List.getElem?_append_left g] at hd
   obtain⟨b,hb,hg⟩:=h2 j d hd
   exact zm k hg (hR.2 j b v (by rw[List.append_nil,List.getElem?_append_left oG];exact hb) hv)
  .rw[List.append_nil,List.getElem?_append_right g] at hd
   exact hR.2 j d v (by rw[List.append_nil,List.getElem?_append_right oG, <- h1];exact hd) hv
def Et(t:List (FuncId×List D×D))(f:FuncId)(args:List D):Option D:=(t.find? fun x=>Nat.beq x.1 f&&(jW (qe 20) x.2.1 args&&args.all (oT depth))).map (·.2.2)
def EP(t:List (FuncId×List D×List (List D)))(f:FuncId)(fs cs:List D):Option (List (List D)):=match cs with
 |[]=>(t.find? fun x=>Nat.beq x.1 f&&jW (qe 20) x.2.1 fs).map (·.2.2)
 |_=>none
theorem MV{P:Program}{t:List (FuncId×List D×D)}(h:∀ x∈t,PCall P x.1 x.2.1 x.2.2){f:FuncId}{args:List D}{r:D}(hr:Et t f args=some r):PCall P f args r:=by
 unfold Et at hr
 rw[Option.map_eq_some_iff] at hr
 obtain⟨x,hx,rfl⟩:=hr
 have h1:=List.find?_some hx
 rw[Bool.and_eq_true,Bool.and_eq_true] at h1
 have hf:x.1=f:=Nat.eq_of_beq_eq_true h1.1
 have:=h x (List.mem_of_find?_eq_some hx)
 rw[hf] at this
 exact Mt this h1.2.1 fun a ha=>oe (List.all_eq_true.1 h1.2.2 a ha)
theorem NF{P:Program}{t:List (FuncId×List D×List (List D))}(h:∀ x∈t,SeqA P x.1 x.2.1 [] x.2.2/\∀ y∈x.2.2,∀ d∈y,Tr d){f:FuncId}{fs cs:List D}{xs:List (List D)}(hr:EP t f fs cs=some xs):SeqA P f fs cs xs/\∀ y∈xs,∀ d∈y,Tr d:=by
 unfold EP at hr
 split at hr
 .rw[Option.map_eq_some_iff] at hr
  obtain⟨x,hx,rfl⟩:=hr
  have h1:=List.find?_some hx
  rw[Bool.and_eq_true] at h1
  have hf:x.1=f:=Nat.eq_of_beq_eq_true h1.1
  have h2:=h x (List.mem_of_find?_eq_some hx)
  rw[hf] at h2
  exact⟨Z' h2.1 h1.2,h2.2⟩
 .cases hr
def Aw:Nat->D->D->Bool
 |0,_,_=>false
 |_+1,.s a,.s b=>CY a b
 |_+1,.z,.z=>true
 |k+1,.sl a n,.sl b m=>Nat.beq n m&&jW (Aw k) a b
 |_+1,_,_=>false
theorem Om{g:D->D->Bool}(hg:∀ a b,g a b=true->a=b):∀ {xs bs:List D},jW g xs bs=true->xs=bs
 |[],[],_=>rfl
 |a::xs,b::bs,h=>by
  simp only[jW,Bool.and_eq_true] at h
  rw[hg a b h.1,Om hg h.2]
 |[],_::_,h=>by simp[jW] at h
 |_::_,[],h=>by simp[jW] at h
theorem acb:∀ (k:Nat) (a b:D),Aw k a b=true->a=b:=fun k=>by
 induction k with
 |zero=>exact fun a b h=>by simp[Aw] at h
 |succ k ih=>
  intro a b h
  cases a<;>cases b<;>simp only[Aw,Bool.and_eq_true,reduceCtorEq,Bool.false_eq_true] at h ⊢
  .rw[QD h]
  .rw[Nat.eq_of_beq_eq_true h.1,Om ih h.2]
def BC:Nat->Code->List Code
 |k+1,.seq a b=>a::BC k b
 |_,_=>[]
def EQ:Nat->Code->Code
 |k+1,.seq a b=>EQ k b
 |_,c=>c
theorem parts_eq:∀ (k:Nat) (c:Code),c=(BC k c).foldr .seq (EQ k c)
 |0,c=>by cases c<;>rfl
 |k+1,c=>by
  cases c with
  |seq a b=>
   show Code.seq a b=.seq a ((BC k b).foldr .seq (EQ k b))
   rw[<- parts_eq k b]
  |_=>rfl
def BD(ev:Bool->Code->bI->Option (Exit×bI)):List Code->bI->Option bI
 |[],s=>some s
 |c::cs,s=>match ev true c s with
  |some (.normal,s')=>BD ev cs s'
  |_=>none
theorem MW{P:Program}{ev:Bool->Code->bI->Option (Exit×bI)}(jg:zv P ev){B:Code}{Q:Exit->St->Prop}:∀ {cs:List Code} {c:Code} {s s':bI},BD ev (c::cs) s=some s'->(∃ st',Ghost P s'.st st'/\AW P noY true B Q st')->AW P noY true ((c::cs).foldr .seq B) Q s.st
 |[],c,s,s',h,k=>by
  simp only[BD] at h
  split at h
  .rename_i s1 he
   cases h
   exact dV (fun st=>st=s'.st) (jg _ _ _ _ _ he _ rfl) fun st e=>e▸k
  .cases h
 |d::cs,c,s,s',h,k=>by
  rw[BD] at h
  split at h
  .rename_i s1 he
   exact dV (fun st=>st=s1.st) (jg _ _ _ _ _ he _ rfl) fun st e=>⟨s1.st,e▸ .refl _,MW jg h k⟩
  .cases h
end Go.Abs
namespace Go.Proofs.Tryz.K
set_option maxRecDepth 100000
theorem YX:eh oJ=0:=kr
theorem YY:xr oJ=tV:=kr
end Go.Proofs.Tryz.K
namespace Go.Argus
def S7(n:Int):List Int:=n::List.replicate 18 0
def S8:D:=.sl (bY ([1,3,3,2,7].map S7)) 5
def QE:D:=.sl (bY ([3,3,7,2,7].map S7)) 5
def BB:List (List D):=[[I 0],[I 1],[I 2],[I 3],[I 4]]
def UU:List (List a8):=[[],[⟨1,1,0,0,0,[]⟩],[⟨1,2,0,0, -1,[]⟩]]
def Ke(f:FuncId)(fs cs:List D):Option (List (List D)):=match EP [(61,[.pt tV],BB)] f fs cs with
 |some x=>some x
 |none=>match fs,cs with
  |[],[.pt [e]]=>if Nat.beq f 176 then(UU.find? fun l=>Aw 10 (gq l) e).map vw else none
  |_,_=>none
def BE:D:=.sl [.z,.sl [I 1] 1,.sl [I 1] 1,.z,.sl [I 1] 1] 5
end Go.Argus
namespace Go.Proofs.Tryz.K
set_option maxRecDepth 100000
theorem S9:PCall prog 51 [.agg (aB oJ)] (.tup [.pt tV,I 0]):=by
 have h:=Ih YX
 rw[YY] at h
 exact h
theorem S':SeqA prog 61 [.pt tV] [] BB:=s61 (f:=oJ) (cnt:=[true,true,true,true,true]) (by decide)
theorem aaa{l:List a8}{y:List D}{d:D}(hy:y∈vw l)(hd:d∈y):Tr d:=by
 unfold vw at hy
 rw[List.mem_map] at hy
 obtain⟨i,_,rfl⟩:=hy
 simp only[List.mem_cons,List.not_mem_nil,or_false] at hd
 rcases hd with rfl|rfl
 .exact .s _
 .exact .agg (pE _)
theorem abc{f:FuncId}{fs cs:List D}{xs:List (List D)}(h:Ke f fs cs=some xs):SeqA prog f fs cs xs/\∀ y∈xs,∀ d∈y,Tr d:=by
 unfold Ke at h
 split at h
 .rename_i x hx
  cases h
  exact NF (fun x hx=>by
   simp only[List.mem_singleton] at hx
   subst hx
   refine⟨S',fun y hy d hd=>?_⟩
   simp only[BB,List.mem_cons,List.not_mem_nil,or_false] at hy
   rcases hy with rfl|rfl|rfl|rfl|rfl<;>(simp only[List.mem_singleton] at hd;subst hd;exact .s _)) hx
 .rename_i hn
  clear hn
  split at h
  .rename_i e
   split at h
   .rename_i hf
    rw[Option.map_eq_some_iff] at h
    obtain⟨l,hl,rfl⟩:=h
    have hm:=List.mem_of_find?_eq_some hl
    have he:=acb 10 _ _ (List.find?_some (p:=fun l=>Aw 10 (gq l) e) hl)
    subst he
    have hf:f=176:=Nat.eq_of_beq_eq_true hf
    subst hf
    have hlen:l.length<=100000:=by
     simp only[UU,List.mem_cons,List.not_mem_nil,or_false] at hm
     rcases hm with rfl|rfl|rfl<;>decide
    refine⟨akL hlen,fun y hy d hd=>?_⟩
    exact aaa hy hd
   .cases h
  .cases h
noncomputable def Wo:Ctx:=⟨fun f=>BZ.get f,Ke,Et [(51,[.agg (aB oJ)],.tup [.pt tV,I 0])]⟩
theorem QF:Wo.Ok prog:=⟨mixed,Ie,fun _ _ _ _ h=>abc h,
 fun _ _ _ h=>MV (fun x hx=>by
  simp only[List.mem_singleton] at hx
  subst hx
  exact S9) h⟩
theorem afH:PCall prog 65 [.pt tV] (.tup [S8,QE]):=kf QF 1000 rfl kr
end Go.Proofs.Tryz.K
namespace Go.Proofs.Tryz.K
set_option maxRecDepth 100000
open Go.Abs
theorem acd:EQ 6 cY=.seq (.seq (.region 16 (Z cY 319) false) (.block 6 (.loop (.seq (.region 17 (Z cY 2239) false) (.seq (.cond (.tmp 83) .skip (.exit 6)) (.seq (.block 7 (.seq (.region 18 (Z cY 36031) false) (.seq (.region 19 (Z cY 85183) false) (.region 20 (Z cY 117951) true)))) (.region 21 (Z cY 15551) false))))))) (.seq (.region 22 (Z cY 383) false) .ret):=by rw[UW];rfl
def ma:List (Nat×Row):=[(4,.cells [.z,.rs 11 0 1,.rs 9 0 1,.z,.rs 7 0 1] 27),(5,.cells [.rs 4 0 5] 28),(7,.cells [I 1] 3),(9,.cells [I 1] 3),(11,.cells [I 1] 3)]
noncomputable def Wp:Option bI:=match vd 0 [.agg (aB oJ)] .leaf with
 |some t=>BD (yf prog Wo 1000) (BC 6 cY) ⟨t,.leaf,0⟩
 |none=>none
theorem f39:(Wp.map fun s=>(cV s.env 7,eE s.mem 4,eE s.mem 5,eE s.mem 7,eE s.mem 9,eE s.mem 11,s.nx))=some (.rp 5 0,some (.cells [.z,.rs 11 0 1,.rs 9 0 1,.z,.rs 7 0 1] 27),some (.cells [.rs 4 0 5] 28),some (.cells [I 1] 3),some (.cells [I 1] 3),some (.cells [I 1] 3),12):=kr
end Go.Proofs.Tryz.K
namespace Go.Proofs.Tryz.K
set_option maxRecDepth 10000
theorem UX:PCall prog 89 [.z] (.tup []):=kf lI 100 rfl kr
theorem UY:PCall prog 90 [.z] .z:=kf lI 100 rfl kr
theorem w39:AW prog noY true (.seq (.seq (.region 16 (Z cY 319) false) (.block 6 (.loop (.seq (.region 17 (Z cY 2239) false) (.seq (.cond (.tmp 83) .skip (.exit 6)) (.seq (.block 7 (.seq (.region 18 (Z cY 36031) false) (.seq (.region 19 (Z cY 85183) false) (.region 20 (Z cY 117951) true)))) (.region 21 (Z cY 15551) false))))))) (.seq (.region 22 (Z cY 383) false) .ret)) (retQ prog [.tmp 2,.tmp 3] fun d _=>d=.tup [BE,I 0]) ⟨ax [(7,.rp 5 0)],aX ma,12⟩:=by
 refine aC (aq ?_)
 refine eV ?_;refine zF ?_;refine J0 ?_
 refine ab (bM (fun s=>Ghost prog s ⟨ax [(7,.rp 5 0)],aX ma,12⟩) (eX (α:=Nat) (fun k=>⟨ax [(7,.rp 5 0),(81,I 5),(82,I k)],aX ma,12⟩) (fun k=>k<=5) (fun k=>5 - k) 0 (aE eH eH) (Nat.zero_le _) ?_) ?_)
 .intro k hk
  refine bB ?_
  refine ab ⟨_,rfl,fun h=>?_,fun h=>?_⟩
  .have aj:k<5:=by have h:(k:Int)<5:=by simpa using h
                   omega
   have hc:k=0\/k=3\/k=1\/k=2\/k=4:=by omega
   rcases hc with rfl|rfl|rfl|rfl|rfl
   .have um:=UX
    have CK:=UY
    refine ws ?_;refine iF ?_;refine er ?_;refine eV ?_;refine J0 ?_;refine eI ?_;refine eV ?_;refine cl um ?_
    refine ab (np AO ?_)
    refine eV ?_;refine J0 ?_;refine eV ?_;refine J0 ?_;refine eI ?_;refine eV ?_;refine cl CK ?_;refine eI ?_;refine kG ?_
    refine bc (by simp[apartT]) ?_
    refine cr ?_
    exact ab (aK (0+1) (aE eH eH) oG oG)
   .have um:=UX
    have CK:=UY
    refine ws ?_;refine iF ?_;refine er ?_;refine eV ?_;refine J0 ?_;refine eI ?_;refine eV ?_;refine cl um ?_
    refine ab (np AO ?_)
    refine eV ?_;refine J0 ?_;refine eV ?_;refine J0 ?_;refine eI ?_;refine eV ?_;refine cl CK ?_;refine eI ?_;refine kG ?_
    refine bc (by simp[apartT]) ?_
    refine cr ?_
    exact ab (aK (3+1) (aE eH eH) oG oG)
   .refine ws ?_;refine iF ?_
    refine ab (aq ?_)
    refine eV ?_;refine J0 ?_;refine eI ?_;refine eV ?_
    refine nA (um (i:=11) (l:=[1]) oG rfl rfl (by decide)) rfl (by repeat' (first|exact trivial|exact rfl|refine And.intro ?_ ?_)) fun d m' nx' hp=>?_
    obtain⟨rfl,rfl,rfl⟩:=hp
    refine ab (aJ (aE (l:=[(7,.rp 5 0),(12,I 1),(81,I 5),(82,I 1)]) (ml:=ma) eH eH) (np AO ?_))
    refine eV ?_;refine J0 ?_;refine eV ?_;refine J0 ?_;refine eI ?_;refine eV ?_
    refine EO (r:=.rs 11 0 1) (ups:=[(11,some (.cells [I 1] 3))]) (rds:=[11]) (fun m2 ix mP=>?_) (fun i hi=>?_) rfl (by repeat' (first|exact trivial|exact rfl|refine And.intro ?_ ?_)) ?_
    .have e:=mP 11 (by simp) (by simp[ma,aX])
     have e:m2 11=some (.cells ([1].map I) 3):=e
     refine D1 e zA.he fun xQ=>(B3 (d:=[1]) xQ e rfl (by decide)).mono ?_
     rintro r m' nx' ⟨h1,h2,h3⟩
     exact⟨h2,h3,h1⟩
    .simp at hi
     subst hi
     exact⟨by simp,by simp[ma,aX]⟩
    show AOps _ _ _ _ _ _ _ ⟨up _ 96 _,up (aX ma) 11 (some (.cells [I 1] 3)),_⟩ _
    refine eI ?_;refine Kf ?_
    refine bc (by simp[apartT]) ?_
    refine cr ?_
    exact ab (aK (1+1) (aE eH eH) oG oG)
   .refine ws ?_;refine iF ?_
    refine ab (aq ?_)
    refine eV ?_;refine J0 ?_;refine eI ?_;refine eV ?_
    refine nA (um (i:=9) (l:=[1]) oG rfl rfl (by decide)) rfl (by repeat' (first|exact trivial|exact rfl|refine And.intro ?_ ?_)) fun d m' nx' hp=>?_
    obtain⟨rfl,rfl,rfl⟩:=hp
    refine ab (aJ (aE (l:=[(7,.rp 5 0),(12,I 2),(81,I 5),(82,I 2)]) (ml:=ma) eH eH) (np AO ?_))
    refine eV ?_;refine J0 ?_;refine eV ?_;refine J0 ?_;refine eI ?_;refine eV ?_
    refine EO (r:=.rs 9 0 1) (ups:=[(9,some (.cells [I 1] 3))]) (rds:=[9]) (fun m2 ix mP=>?_) (fun i hi=>?_) rfl (by repeat' (first|exact trivial|exact rfl|refine And.intro ?_ ?_)) ?_
    .have e:=mP 9 (by simp) (by simp[ma,aX])
     have e:m2 9=some (.cells ([1].map I) 3):=e
     refine D1 e zA.he fun xQ=>(B3 (d:=[1]) xQ e rfl (by decide)).mono ?_
     rintro r m' nx' ⟨h1,h2,h3⟩
     exact⟨h2,h3,h1⟩
    .simp at hi
     subst hi
     exact⟨by simp,by simp[ma,aX]⟩
    show AOps _ _ _ _ _ _ _ ⟨up _ 96 _,up (aX ma) 9 (some (.cells [I 1] 3)),_⟩ _
    refine eI ?_;refine Kf ?_
    refine bc (by simp[apartT]) ?_
    refine cr ?_
    exact ab (aK (2+1) (aE eH eH) oG oG)
   .refine ws ?_;refine iF ?_
    refine ab (aq ?_)
    refine eV ?_;refine J0 ?_;refine eI ?_;refine eV ?_
    refine nA (um (i:=7) (l:=[1]) oG rfl rfl (by decide)) rfl (by repeat' (first|exact trivial|exact rfl|refine And.intro ?_ ?_)) fun d m' nx' hp=>?_
    obtain⟨rfl,rfl,rfl⟩:=hp
    refine ab (aJ (aE (l:=[(7,.rp 5 0),(12,I 4),(81,I 5),(82,I 4)]) (ml:=ma) eH eH) (np AO ?_))
    refine eV ?_;refine J0 ?_;refine eV ?_;refine J0 ?_;refine eI ?_;refine eV ?_
    refine EO (r:=.rs 7 0 1) (ups:=[(7,some (.cells [I 1] 3))]) (rds:=[7]) (fun m2 ix mP=>?_) (fun i hi=>?_) rfl (by repeat' (first|exact trivial|exact rfl|refine And.intro ?_ ?_)) ?_
    .have e:=mP 7 (by simp) (by simp[ma,aX])
     have e:m2 7=some (.cells ([1].map I) 3):=e
     refine D1 e zA.he fun xQ=>(B3 (d:=[1]) xQ e rfl (by decide)).mono ?_
     rintro r m' nx' ⟨h1,h2,h3⟩
     exact⟨h2,h3,h1⟩
    .simp at hi
     subst hi
     exact⟨by simp,by simp[ma,aX]⟩
    show AOps _ _ _ _ _ _ _ ⟨up _ 96 _,up (aX ma) 7 (some (.cells [I 1] 3)),_⟩ _
    refine eI ?_;refine Kf ?_
    refine bc (by simp[apartT]) ?_
    refine cr ?_
    exact ab (aK (4+1) (aE eH eH) oG oG)
  .have aZ:¬ k<5:=by intro hh;simp at h;omega
   exact aE eH eH
 .intro s hg
  refine⟨_,hg,aq ?_⟩
  refine eV ?_;refine bJ ?_;refine J3 ?_
  refine ab (aJ (bg [(7,[I 1],3),(9,[I 1],3),(11,[I 1],3),(4,[.z,.sl [I 1] 1,.sl [I 1] 1,.z,.sl [I 1] 1],27)] eH (l:=[(2,BE),(3,I 0)]) ⟨?_,rfl,trivial⟩) (kM rfl rfl rfl))
  show sub (fz0 4 _ (prog.cellsOf 27)) (.rs 4 0 5)=_
  exact mh (by rw[Ao];rfl)
theorem afI:PCall prog 39 [.agg (aB oJ)] (.tup [BE,I 0]):=by
 have uv:∀ n,Tr (I n):=fun n=>.s _
 have aP:Tr (.tup [BE,I 0]):=oe (n:=5) rfl
 refine aY mixed UZ (by rw[ak4];rfl) (.cons (.agg (gp oJ)) .nil) aP ?_
 rw[ak5]
 have h:=f39
 unfold Wp at h
 cases ho:vd 0 [.agg (aB oJ)] .leaf with
 |none=>rw[ho] at h;cases h
 |some t=>
  rw[ho] at h
  simp only[Option.map_eq_some_iff] at h
  obtain⟨s,hs,he⟩:=h
  have tL:=Mo ho
  have aN:(⟨t,.leaf,0⟩:bI).st=⟨envOf [.agg (aB oJ)],fun _=>none,0⟩:=by
   unfold bI.st
   rw[tL,Yz]
  rw[<- aN,parts_eq 6 cY]
  have hp:∃ c cs,BC 6 cY=c::cs:=by
   rw[UW]
   exact⟨_,_,rfl⟩
  obtain⟨c,cs,p6⟩:=hp
  rw[p6] at hs ⊢
  refine MW (Qp QF 1000) hs ?_
  rw[acd]
  simp only[Prod.mk.injEq] at he
  obtain⟨e7,e4,e5,e71,e9,uD,enx⟩:=he
  refine⟨⟨ax [(7,.rp 5 0)],aX ma,12⟩,?_,w39⟩
  have:s.st=⟨cV s.env,eE s.mem,12⟩:=by unfold bI.st;rw[enx]
  rw[this]
  exact aE ⟨e7,trivial⟩ ⟨e4,e5,e71,e9,uD,trivial⟩
end Go.Proofs.Tryz.K
namespace Go.Proofs.Tryz.K
set_option maxRecDepth 100000
noncomputable def cx2:Ctx:=⟨fun f=>BZ.get f,EP [(61,[.pt tV],BB)],Et [(51,[.agg (aB oJ)],.tup [.pt tV,I 0]),(65,[.pt tV],.tup [S8,QE]),(39,[.agg (aB oJ)],.tup [BE,I 0])]⟩
theorem ace:cx2.Ok prog:=⟨mixed,Ie,fun _ _ _ _ h=>NF (fun x hx=>by
 simp only[List.mem_singleton] at hx
 subst hx
 refine⟨S',fun y hy d hd=>?_⟩
 simp only[BB,List.mem_cons,List.not_mem_nil,or_false] at hy
 rcases hy with rfl|rfl|rfl|rfl|rfl<;>(simp only[List.mem_singleton] at hd;subst hd;exact .s _)) h,
 fun _ _ _ h=>MV (fun x hx=>by
  simp only[List.mem_cons,List.not_mem_nil,or_false] at hx
  rcases hx with rfl|rfl|rfl
  .exact S9
  .exact afH
  .exact afI) h⟩
theorem CZ:PCall prog 17 [] (B true):=kf ace 1000 rfl kr
end Go.Proofs.Tryz.K
end
namespace Go.Argus
inductive bm(N:Nat->Nat):Nat->Nat->Prop
 |refl (x:Nat):bm N x x
 |up {w x:Nat}:bm N w (N x)->bm N w x
structure jR(V:Nat->Prop)(pl N:Nat->Nat):Prop where
 root:V 0
 lq:N 0=0
 dI:∀ x,V x->x≠0->V (N x)/\pl (N x)<pl x
theorem bm.trans{N:Nat->Nat}{w z x:Nat}(h1:bm N w z)(h2:bm N z x):bm N w x:=by
 induction h2 with
 |refl=>exact h1
 |up _ ih=>exact .up ih
theorem bm.inv{N:Nat->Nat}{w x:Nat}(h:bm N w x):w=x\/bm N w (N x):=by
 cases h with
 |refl=>exact .inl rfl
 |up h=>exact .inr h
theorem bm.zero{N:Nat->Nat}(h0:N 0=0){w x:Nat}(h:bm N w x)(hx:x=0):w=0:=by
 induction h with
 |refl=>exact hx
 |up _ ih=>exact ih (by rw[hx,h0])
section
variable{V:Nat->Prop}{pl N O:Nat->Nat}
theorem jR.ind(h:jR V pl N){p:Nat->Prop}(h0:p 0)(hs:∀ x,V x->x≠0->V (N x)->pl (N x)<pl x->p (N x)->p x):∀ x,V x->p x:=by
 have key:∀ k x,pl x<k->V x->p x:=fun k=>by
  induction k with
  |zero=>exact fun x hx=>absurd hx (Nat.not_lt_zero _)
  |succ k ih=>
   intro x hx hv
   by_cases hz:x=0
   .rw[hz];exact h0
   .obtain⟨a,b⟩:=h.dI x hv hz
    exact hs x hv hz a b (ih _ oG a)
 exact fun x hv=>key (pl x+1) x (Nat.lt_succ_self _) hv
theorem jR.low(h:jR V pl N){w x:Nat}(hv:V x)(ha:bm N w x):V w/\(w=x\/pl w<pl x):=by
 induction ha with
 |refl=>exact⟨hv,.inl rfl⟩
 |@up x ha ih=>
  by_cases hz:x=0
  .subst hz
   rw[h.lq] at ih
   exact ih hv
  .obtain⟨a,b⟩:=h.dI x hv hz
   obtain⟨c,d⟩:=ih a
   refine⟨c,.inr ?_⟩
   rcases d with d|d
   .rw[d];exact b
   .omega
theorem shrink(hO:jR V pl O)(hN:N 0=0)(rel:∀ x,V x->bm N (N x) (O x)):∀ x,V x->∀ w,bm N w x->bm O w x:=
 hO.ind (fun w h=>by rw[h.zero hN rfl];exact .refl 0) fun x hv _ _ _ ih w h=>by
  rcases h.inv with e|h
  .rw[e];exact .refl x
  .exact .up (ih w (h.trans (rel x hv)))
theorem ajK(hO:jR V pl O)(hN:N 0=0)(rel:∀ x,V x->bm N (N x) (O x)):∀ t,V t->∀ z w,bm O z t->bm O w z->bm N w t->bm N w z:=
 hO.ind (fun z w h1 _ h3=>by rw[h1.zero hO.lq rfl];exact h3) fun t hv hz hp hl ih z w h1 h2 h3=>by
  rcases h1.inv with e|FX
  .rw[e];exact h3
  .rcases h3.inv with e|KH
   .obtain⟨vz,a⟩:=hO.low hv h1
    obtain⟨_,b⟩:=hO.low vz h2
    rcases a with a|a
    .rw[a];exact h3
    .rcases b with b|b
     .rw[<- b];exact .refl w
     .rw[e] at b;omega
   .exact ih z w FX h2 (KH.trans (rel t hv))
theorem ajL(hO:jR V pl O):∀ x,V x->∀ w,bm O w x->¬ bm N w x->∃ c,V c/\bm O c x/\bm O w c/\N c≠O c/\¬ bm N w c:=
 hO.ind (fun w h1 h2=>by
   rw[h1.zero hO.lq rfl] at h2
   exact absurd (bm.refl 0) h2) fun x hv hz hp _ ih w h1 h2=>by
  by_cases e:N x=O x
  .rcases h1.inv with e'|FX
   .rw[e'] at h2;exact absurd (bm.refl x) h2
   .obtain⟨c,a1,a2,a3,a4,a5⟩:=ih w FX fun h=>h2 (.up (by rw[e];exact h))
    exact⟨c,a1,.up a2,a3,a4,a5⟩
  .exact⟨x,hv,.refl x,h1,e,h2⟩
def jk(N:Nat->Nat)(c q x:Nat):Nat:=if x=c then q else N x
theorem qK(c q:Nat):jk N c q c=q:=if_pos rfl
theorem nw{c x:Nat}(q:Nat)(h:x≠c):jk N c q x=N x:=if_neg h
theorem aax(h:jR V pl N){c q:Nat}(hz:c≠0)(vq:V q)(hl:pl q<pl c):jR V pl (jk N c q):=⟨h.root,by rw[nw q oG];exact h.lq,fun x hv hx=>by
 by_cases e:x=c
 .subst e;rw[qK];exact⟨vq,hl⟩
 .rw[nw q e];exact h.dI x hv hx⟩
theorem H2(h:jR V pl N){c q:Nat}(hz:c≠0):∀ x,V x->pl x<pl c->∀ w,(bm (jk N c q) w x↔bm N w x):=
 h.ind (fun _ w=>⟨fun h'=>by rw[h'.zero (by rw[nw q oG];exact h.lq) rfl];exact .refl 0,fun h'=>by rw[h'.zero h.lq rfl];exact .refl 0⟩) fun x hv _ _ hl ih hx w=>by
  have e:jk N c q x=N x:=nw q fun e=>by rw[e] at hx;omega
  have ih:=ih oG w
  constructor
  .intro h'
   rcases h'.inv with e'|h'
   .rw[e'];exact .refl x
   .rw[e] at h';exact .up (ih.1 h')
  .intro h'
   rcases h'.inv with e'|h'
   .rw[e'];exact .refl x
   .exact .up (by rw[e];exact ih.2 h')
theorem abx(h:jR V pl N){c q:Nat}(vc:V c)(hz:c≠0)(hq:bm N q (N c)):∀ x,V x->bm (jk N c q) (jk N c q x) (N x):=fun x hv=>by
 by_cases e:x=c
 .subst e
  rw[qK]
  obtain⟨a,b⟩:=h.dI x vc hz
  exact(H2 h hz (N x) a b q).2 hq
 .rw[nw q e];exact .refl _
def sJ(pl N:Nat->Nat):Nat->Nat->Nat->Nat
 |0,x,_=>x
 |k+1,x,a=>if x=a then x else if pl a<pl x then sJ pl N k (N x) a else sJ pl N k x (N a)
theorem Hy(h:jR V pl N)(h0:pl 0=0)(inj:∀ x a,V x->V a->pl x=pl a->x=a):∀ (k x a:Nat),V x->V a->pl x+pl a<k->
 V (sJ pl N k x a)/\bm N (sJ pl N k x a) x/\bm N (sJ pl N k x a) a/\∀ w,bm N w x->bm N w a->bm N w (sJ pl N k x a)
 |0,x,a,_,_,hk=>absurd hk (Nat.not_lt_zero _)
 |k+1,x,a,vx,va,hk=>by
  rw[sJ]
  split
  .rename_i e;subst e;exact⟨vx,.refl x,.refl x,fun w h _=>h⟩
  .rename_i e
   split
   .rename_i hl
    have hz:x≠0:=fun e=>by rw[e,h0] at hl;omega
    obtain⟨p1,p2⟩:=h.dI x vx hz
    obtain⟨q1,q2,q3,q4⟩:=Hy h h0 inj k (N x) a p1 va oG
    refine⟨q1,.up q2,q3,fun w g1 g2=>?_⟩
    rcases g1.inv with e'|g1'
    .obtain⟨_,b⟩:=h.low va g2
     rcases b with b|b
     .exact absurd (e'.symm.trans b) e
     .rw[e'] at b;omega
    .exact q4 w g1' g2
   .rename_i hl
    have aA:pl x≠pl a:=fun e'=>e (inj x a vx va e')
    have hz:a≠0:=fun e=>by rw[e,h0] at aA hl;omega
    obtain⟨p1,p2⟩:=h.dI a va hz
    obtain⟨q1,q2,q3,q4⟩:=Hy h h0 inj k x (N a) vx p1 oG
    refine⟨q1,q2,.up q3,fun w g1 g2=>?_⟩
    rcases g2.inv with e'|g2'
    .obtain⟨_,b⟩:=h.low vx g1
     rcases b with b|b
     .exact absurd (b.symm.trans e') e
     .rw[e'] at b;omega
    .exact q4 w g1 g2'
end
structure wP(E:Nat->Nat->Prop)(R:Nat->Prop)(pl:Nat->Nat):Prop where
 root:R 0
 next:∀ a c,E a c->R a->R c
 inj:∀ x a,R x->R a->pl x=pl a->x=a
 n4:pl 0=0
 pre:∀ c,c≠0->R c->∃ t,E t c/\R t/\pl t<pl c
inductive Av(E:Nat->Nat->Prop)(w:Nat):Nat->Prop
 |zero:0≠w->Av E w 0
 |step {x c:Nat}:Av E w x->E x c->c≠w->Av E w c
section
variable{E:Nat->Nat->Prop}{R:Nat->Prop}{pl:Nat->Nat}
theorem Av.reach(hg:wP E R pl){w x:Nat}(h:Av E w x):R x:=by
 induction h with
 |zero=>exact hg.root
 |step _ e _ ih=>exact hg.next _ _ e ih
structure sK(E:Nat->Nat->Prop)(R:Nat->Prop)(pl O:Nat->Nat):Prop where
 tree:jR R pl O
 i1:∀ c,R c->c≠0->∀ w,(∀ a,E a c->R a->bm O w a)->bm O w (O c)
 i2:∀ c,R c->c≠0->∃ t,E t c/\R t/\pl t<pl c/\bm O (O c) t
 i3:∀ x,R x->∀ w,¬ Av E w x->bm O w x
structure x7(E:Nat->Nat->Prop)(R:Nat->Prop)(pl O N:Nat->Nat)(k:Nat):Prop where
 m7:sK E R pl O
 tree:jR R pl N
 rel:∀ x,R x->bm N (N x) (O x)
 Gu:∀ x,R x->k<=pl x->N x=O x
 m3:∀ c,R c->c≠0->pl c<k->∀ w,(∀ a,E a c->R a->bm N w a)->bm N w (N c)
 m4:∀ c,R c->c≠0->pl c<k->∃ t,E t c/\R t/\pl t<pl c/\bm N (N c) t
 m5:∀ x,R x->pl x<k->∀ w,¬ Av E w x->bm N w x
theorem sK.start(hg:wP E R pl){O:Nat->Nat}(h:sK E R pl O):x7 E R pl O O 1:=⟨h,h.tree,fun x _=>.refl _,fun _ _ _=>rfl,fun c rc hz hl=>absurd (hg.inj c 0 rc hg.root (by rw[hg.n4];omega)) hz,
 fun c rc hz hl=>absurd (hg.inj c 0 rc hg.root (by rw[hg.n4];omega)) hz,fun x rx _ w hw=>h.i3 x rx w hw⟩
theorem x7.fin{O N:Nat->Nat}{k:Nat}(h:x7 E R pl O N k)(hk:∀ x,R x->pl x<k):sK E R pl N:=⟨h.tree,fun c rc hz=>h.m3 c rc hz (hk c rc),fun c rc hz=>h.m4 c rc hz (hk c rc),fun x rx=>h.m5 x rx (hk x rx)⟩
theorem sK.down{O:Nat->Nat}(h:sK E R pl O)(hg:wP E R pl){c w:Nat}(hc:Av E w c)(hw:pl w<pl c):∀ k x,pl x<k->R x->bm O c x->Av E w x
 |0,x,hk,_,_=>absurd hk (Nat.not_lt_zero _)
 |k+1,x,hk,rx,ha=>by
  rcases ha.inv with e|Dq
  .rw[<- e];exact hc
  .by_cases hz:x=0
   .subst hz;rw[<- ha.zero h.tree.lq rfl];exact hc
   .obtain⟨t,e1,e2,e3,e4⟩:=h.i2 x rx hz
    refine .step (h.down hg hc hw k t oG e2 (Dq.trans e4)) e1 fun e=>?_
    obtain⟨_,b⟩:=h.tree.low rx ha
    rw[e] at b
    rcases b with b|b
    .rw[b] at hw;omega
    .omega
theorem x7.step(hg:wP E R pl){O N:Nat->Nat}{k c q:Nat}(h:x7 E R pl O N k)(rc:R c)(hz:c≠0)(hk:pl c=k)(rq:R q)
 (hq:∀ a,E a c->R a->bm N q a) (hm:∀ w,(∀ a,E a c->R a->bm N w a)->bm N w q):
 bm N q (N c)/\x7 E R pl O (jk N c q) (k+1):=by
 have hO:=h.m7
 have e:=h.Gu c rc oG
 have sh:=shrink hO.tree h.tree.lq h.rel
 have up:bm N q (N c):=by
  rw[e]
  obtain⟨t,e1,e2,_,e4⟩:=hO.i2 c rc hz
  exact ajK hO.tree h.tree.lq h.rel t e2 (O c) q e4 (hO.i1 c rc hz q fun a ea ra=>sh a ra q (hq a ea ra)) (hq t e1 e2)
 obtain⟨p1,p2⟩:=h.tree.dI c rc hz
 obtain⟨_,q2⟩:=h.tree.low p1 up
 have ql:pl q<pl c:=by
  rcases q2 with q2|q2
  .rw[q2];exact p2
  .omega
 have tr:=aax h.tree hz rq ql
 have rl:=abx h.tree rc hz up
 have WZ:=shrink h.tree tr.lq rl
 have mM:=fun x rx hl w=>H2 (q:=q) h.tree hz x rx hl w
 have T0:∀ w,bm (jk N c q) w q↔bm N w q:=fun w=>mM q rq ql w
 refine⟨up,hO,tr,fun x rx=>?_,fun x rx hx=>?_,fun x rx xz hx w hw=>?_,fun x rx xz hx=>?_,fun x rx hx w hw=>?_⟩
 .by_cases ex:x=c
  .subst ex
   have:=rl x rx
   rwa[e] at this
  .rw[nw q ex]
   rcases Nat.lt_or_ge (pl x) (pl c) with g|g
   .by_cases xz:x=0
    .subst xz
     rw[hO.tree.lq,h.tree.lq];exact .refl 0
    .obtain⟨o1,o2⟩:=hO.tree.dI x rx xz
     exact(mM (O x) o1 oG _).2 (h.rel x rx)
   .rw[h.Gu x rx oG];exact .refl _
 .rw[nw q fun e'=>by rw[e'] at hx;omega]
  exact h.Gu x rx oG
 .by_cases ex:x=c
  .subst ex
   rw[qK,T0]
   exact hm w fun a ea ra=>WZ a ra w (hw a ea ra)
  .have qh:pl x<k:=by
    rcases Nat.lt_or_ge (pl x) k with g|g
    .exact g
    .exact absurd (hg.inj x c rx rc oG) ex
   obtain⟨o1,o2⟩:=h.tree.dI x rx xz
   rw[nw q ex,mM (N x) o1 oG]
   exact h.m3 x rx xz qh w fun a ea ra=>WZ a ra w (hw a ea ra)
 .by_cases ex:x=c
  .subst ex
   obtain⟨t,e1,e2,e3⟩:=hg.pre x hz rc
   refine⟨t,e1,e2,e3,?_⟩
   rw[qK,mM t e2 e3]
   exact hq t e1 e2
  .have qh:pl x<k:=by
    rcases Nat.lt_or_ge (pl x) k with g|g
    .exact g
    .exact absurd (hg.inj x c rx rc oG) ex
   obtain⟨t,e1,e2,e3,e4⟩:=h.m4 x rx xz qh
   refine⟨t,e1,e2,e3,?_⟩
   rw[nw q ex,mM t e2 oG]
   exact e4
 .by_cases ex:x=c
  .subst ex
   by_cases ew:w=x
   .subst ew;exact .refl w
   .refine .up ?_
    rw[qK,T0]
    refine hm w fun a ea ra=>?_
    have Ay:¬ Av E w a:=fun ha=>hw (.step ha ea fun e=>ew e.symm)
    by_cases W0:bm N w a
    .exact W0
    .exfalso
     obtain⟨d,d1,d2,d3,d4,d5⟩:=ajL (N:=N) hO.tree a ra w (hO.i3 a ra w Ay) W0
     have hdk:pl d<k:=by
      rcases Nat.lt_or_ge (pl d) k with g|g
      .exact g
      .exact absurd (h.Gu d d1 g) d4
     have LU:Av E w d:=by
      refine Classical.byContradiction fun hn=>?_
      exact d5 (h.m5 d d1 hdk w hn)
     have hl:pl w<pl d:=by
      obtain⟨_,b⟩:=hO.tree.low d1 d3
      rcases b with b|b
      .rw[b] at d5;exact absurd (.refl d) d5
      .exact b
     exact Ay (hO.down hg LU hl _ a (Nat.lt_succ_self _) ra d2)
  .have qh:pl x<k:=by
    rcases Nat.lt_or_ge (pl x) k with g|g
    .exact g
    .exact absurd (hg.inj x c rx rc oG) ex
   rw[mM x rx oG]
   exact h.m5 x rx qh w hw
structure vZ(E:Nat->Nat->Prop)(R:Nat->Prop)(pl N:Nat->Nat)(k:Nat):Prop where
 tree:jR (fun x=>R x/\pl x<k) pl N
 m3:∀ c,R c->c≠0->pl c<k->∀ w,(∀ a,E a c->R a->pl a<pl c->bm N w a)->bm N w (N c)
 m4:∀ c,R c->c≠0->pl c<k->∃ t,E t c/\R t/\pl t<pl c/\bm N (N c) t
 m5:∀ x,R x->pl x<k->∀ w,¬ Av E w x->bm N w x
theorem vZ.start(hg:wP E R pl){N:Nat->Nat}(h:N 0=0):vZ E R pl N 1:=by
 have key:∀ c,R c->pl c<1->c=0:=fun c rc hl=>hg.inj c 0 rc hg.root (by rw[hg.n4];omega)
 refine⟨⟨⟨hg.root,by rw[hg.n4];omega⟩,h,fun x hx hz=>absurd (key x hx.1 hx.2) hz⟩,fun c rc hz hl=>absurd (key c rc hl) hz,fun c rc hz hl=>absurd (key c rc hl) hz,fun x rx hl w hw=>?_⟩
 have e:=key x rx hl
 subst e
 by_cases ew:w=0
 .rw[ew];exact .refl 0
 .exact absurd (.zero fun e=>ew e.symm) hw
theorem vZ.fin{N:Nat->Nat}{k:Nat}(h:vZ E R pl N k)(hk:∀ x,R x->pl x<k):sK E R pl N:=
 ⟨⟨h.tree.root.1,h.tree.lq,fun x rx hz=>⟨(h.tree.dI x ⟨rx,hk x rx⟩ hz).1.1,(h.tree.dI x ⟨rx,hk x rx⟩ hz).2⟩⟩,fun c rc hz w hw=>h.m3 c rc hz (hk c rc) w fun a ea ra _=>hw a ea ra,fun c rc hz=>h.m4 c rc hz (hk c rc),fun x rx=>h.m5 x rx (hk x rx)⟩
theorem vZ.step(hg:wP E R pl){N:Nat->Nat}{k c q:Nat}(h:vZ E R pl N k)(rc:R c)(hz:c≠0)(hk:pl c=k)(rq:R q)
 (hq:∀ a,E a c->R a->pl a<k->bm N q a) (hm:∀ w,(∀ a,E a c->R a->pl a<k->bm N w a)->bm N w q):vZ E R pl (jk N c q) (k+1):=by
 obtain⟨t,t1,t2,t3⟩:=hg.pre c hz rc
 obtain⟨⟨_,q1⟩,q2⟩:=h.tree.low (w:=q) (x:=t) ⟨t2,by omega⟩ (hq t t1 t2 oG)
 have mM:=fun x (rx:R x) (hl:pl x<k) w=>H2 (q:=q) h.tree hz x ⟨rx,hl⟩ (by omega:pl x<pl c) w
 have m7:∀ x,R x->x≠c->pl x<k+1->pl x<k:=fun x rx ex hx=>by
  rcases Nat.lt_or_ge (pl x) k with g|g
  .exact g
  .exact absurd (hg.inj x c rx rc oG) ex
 refine⟨⟨⟨hg.root,by rw[hg.n4];omega⟩,by rw[nw q oG];exact h.tree.lq,fun x hx xz=>?_⟩,fun x rx xz hx w hw=>?_,fun x rx xz hx=>?_,fun x rx hx w hw=>?_⟩
 .by_cases ex:x=c
  .subst ex;rw[qK];exact⟨⟨rq,by omega⟩,by omega⟩
  .obtain⟨a,b⟩:=h.tree.dI x ⟨hx.1,m7 x hx.1 ex hx.2⟩ xz
   rw[nw q ex];exact⟨⟨a.1,by omega⟩,b⟩
 .by_cases ex:x=c
  .subst ex
   rw[qK,mM q rq q1]
   exact hm w fun a ea ra hl=>(mM a ra hl w).1 (hw a ea ra oG)
  .have qh:=m7 x rx ex hx
   obtain⟨o1,o2⟩:=h.tree.dI x ⟨rx,qh⟩ xz
   rw[nw q ex,mM (N x) o1.1 o1.2]
   exact h.m3 x rx xz qh w fun a ea ra hl=>(mM a ra oG w).1 (hw a ea ra hl)
 .by_cases ex:x=c
  .subst ex
   refine⟨t,t1,t2,t3,?_⟩
   rw[qK,mM t t2 oG]
   exact hq t t1 t2 oG
  .have qh:=m7 x rx ex hx
   obtain⟨t,e1,e2,e3,e4⟩:=h.m4 x rx xz qh
   refine⟨t,e1,e2,e3,?_⟩
   rw[nw q ex,mM t e2 oG]
   exact e4
 .by_cases ex:x=c
  .subst ex
   by_cases ew:w=x
   .subst ew;exact .refl w
   .refine .up ?_
    rw[qK,mM q rq q1]
    exact hm w fun a ea ra hl=>h.m5 a ra hl w fun ha=>hw (.step ha ea fun e=>ew e.symm)
  .rw[mM x rx (m7 x rx ex hx)]
   exact h.m5 x rx (m7 x rx ex hx) w hw
theorem sK.z6(hg:wP E R pl){O:Nat->Nat}(h:sK E R pl O)(hf:∀ c,R c->c≠0->∀ a,E a c->R a->bm O (O c) a){w x:Nat}(rx:R x):bm O w x↔¬ Av E w x:=by
 refine⟨fun ha LU=>?_,h.i3 x rx w⟩
 induction LU with
 |zero hw=>exact hw (ha.zero h.tree.lq rfl).symm
 |@step x c hx e hc ih=>
  have W2:=hx.reach hg
  rcases ha.inv with e'|Dq
  .exact hc e'.symm
  .by_cases hz:c=0
   .exact hc (hz.trans (ha.zero h.tree.lq hz).symm)
   .exact ih W2 (Dq.trans (hf c rx hz x e W2))
end
def nK(beh:Nat->List Int)(l ex:List Int):Prop:=∀ l1 x l2,l=l1++x::l2->x∈ex\/∃ t∈l2,0<=t/\x∈beh t.toNat
theorem nK.nil{beh:Nat->List Int}{ex:List Int}:nK beh [] ex:=fun l1 x l2 h=>by simp at h
theorem nK.mono{beh:Nat->List Int}{l ex W3:List Int}(h:nK beh l ex)(hs:∀ x∈ex,x∈W3):nK beh l W3:=fun l1 x l2 e=>(h l1 x l2 e).imp (hs x) id
theorem nK.app{beh:Nat->List Int}{l l' ex:List Int}(h:nK beh l ex)(h':nK beh l' ex):nK beh (l++l') ex:=fun l1 x l2 e=>by
 rcases List.append_eq_append_iff.1 e with⟨a,e1,e2⟩|⟨a,e1,e2⟩
 .exact h' a x l2 e2
 .cases a with
  |nil=>
   simp only[List.nil_append] at e2
   exact h' [] x l2 e2.symm
  |cons y a=>
   simp only[List.cons_append,List.cons.injEq] at e2
   obtain⟨rfl,rfl⟩:=e2
   exact(h l1 x a e1).imp id fun⟨t,ht,r⟩=>⟨t,List.mem_append_left _ ht,r⟩
theorem nK.last{beh:Nat->List Int}{l:List Int}{b:Nat}(h:nK beh l (beh b)):nK beh (l++[(b:Int)]) [(b:Int)]:=fun l1 x l2 e=>by
 rcases List.append_eq_append_iff.1 e with⟨a,e1,e2⟩|⟨a,e1,e2⟩
 .cases a with
  |nil=>
   simp only[List.nil_append,List.cons.injEq] at e2
   exact .inl (by simp[e2.1])
  |cons y a=>simp at e2
 .cases a with
  |nil=>
   simp only[List.nil_append,List.cons.injEq] at e2
   exact .inl (by simp[e2.1])
  |cons y a=>
   simp only[List.cons_append,List.cons.injEq] at e2
   obtain⟨rfl,rfl⟩:=e2
   rcases h l1 x a e1 with h|⟨t,ht,r⟩
   .exact .inr ⟨b,by simp,by omega,by simpa using h⟩
   .exact .inr ⟨t,List.mem_append_left _ ht,r⟩
theorem PO{beh:Nat->List Int}{w:Int}(hb:∀ b,∀ c∈beh b,0<=c):∀ (k:Nat) (s:List Bool×List Int) (b:Nat),∃ l,(dF beh w k s b).2=s.2++l/\nK beh l [(b:Int)]
 |0,s,b=>⟨[],by simp[dF],.nil⟩
 |k+1,s,b=>by
  have hF:∀ cs:List Int,(∀ c∈cs,0<=c)->∀ s:List Bool×List Int,∃ l,(df beh w k s cs).2=s.2++l/\nK beh l cs:=fun cs=>by
   induction cs using H3 with
   |h0=>exact fun _ s=>⟨[],by simp[df],.nil⟩
   |h1 cs c ih=>
    intro hc s
    obtain⟨l,e,h⟩:=ih (fun c h=>hc c (by simp[h])) s
    rw[DO]
    split
    .obtain⟨l',e',h'⟩:=PO hb k (df beh w k s cs) c.toNat
     refine⟨l++l',by rw[e',e,List.append_assoc],(h.mono fun x hx=>by simp[hx]).app (h'.mono fun x hx=>?_)⟩
     have:=hc c (by simp)
     simp only[List.mem_singleton] at hx
     rw[hx,Int.toNat_of_nonneg this]
     simp
    .exact⟨l,e,h.mono fun x hx=>by simp[hx]⟩
  rw[td]
  obtain⟨l,e,h⟩:=hF (beh b) (hb b) (s.1.set b true,s.2)
  exact⟨l++[(b:Int)],by simp only;rw[e,List.append_assoc],h.last⟩
section
variable{beh:Nat->List Int}{n:Nat}(hb:∀ b,∀ c∈beh b,0<=c/\c.toNat<n)(hn:0<n)
include hb hn
theorem yI:∃ t,bU beh n=0::t:=by
 obtain⟨k,rfl⟩:∃ k,n=k+1:=⟨n - 1,by omega⟩
 refine⟨_,by unfold bU;rw[td,List.reverse_append];rfl⟩
omit hn in
theorem Zs{i:Nat}{x:Int}(hx:(bU beh n)[i]? =some x)(h0:x≠0):∃ j t,j<i/\(bU beh n)[j]? =some t/\0<=t/\x∈beh t.toNat:=by
 obtain⟨l,e,h⟩:=PO (w:= -1) (fun b c hc=>(hb b c hc).1) n (List.replicate n false,[]) 0
 have eo:bU beh n=l.reverse:=by unfold bU;rw[e];rfl
 rw[eo] at hx ⊢
 obtain⟨hi,hx⟩:=List.getElem?_eq_some_iff.1 hx
 rw[List.length_reverse] at hi
 rw[List.getElem_reverse] at hx
 have hk:l.length - 1 - i<l.length:=by omega
 rcases h (l.take (l.length - 1 - i)) x (l.drop (l.length - 1 - i+1)) (by rw[<- hx, <- List.drop_eq_getElem_cons hk,List.take_append_drop]) with h|⟨t,ht,r⟩
 .simp at h;exact absurd h h0
 .obtain⟨m,hm⟩:=List.getElem?_of_mem ht
  rw[List.getElem?_drop] at hm
  obtain⟨je,hm⟩:=List.getElem?_eq_some_iff.1 hm
  refine⟨l.length - 1 - (l.length - 1 - i+1+m),t,by omega,?_,r⟩
  rw[List.getElem?_eq_getElem (by rw[List.length_reverse];omega),List.getElem_reverse]
  congr 1
  rw[<- hm]
  congr 1
  omega
end
def rI(ord:List Int)(n:Nat):Nat->List Int
 |0=>List.replicate n 0
 |i+1=>(rI ord n i).set (ord.getD i 0).toNat i
def zb(ord:List Int)(n:Nat):List Int:=rI ord n ord.length
theorem Eg{ord:List Int}{n:Nat}:∀ i,(rI ord n i).length=n
 |0=>by simp[rI]
 |i+1=>by simp[rI,Eg i]
theorem PQ{ord:List Int}{n:Nat}(nd:ord.Nodup)(bk:∀ b∈ord,0<=b/\b.toNat<n):∀ i,i<=ord.length->∀ j b,j<i->ord[j]? =some b->(rI ord n i).getD b.toNat 0=j
 |0,_,j,_,h,_=>absurd h (Nat.not_lt_zero j)
 |i+1,hi,j,b,hj,hb=>by
  have hl:i<ord.length:=hi
  have ha:=List.getElem?_eq_getElem hl
  have hd:ord.getD i 0=ord[i]:=by rw[List.getD_eq_getElem?_getD,ha];rfl
  rw[rI,hd,List.getD_eq_getElem?_getD,List.getElem?_set]
  have mb:=bk _ (List.getElem_mem hl)
  by_cases e:j=i
  .subst e
   rw[ha] at hb
   cases hb
   rw[if_pos rfl,if_pos (by rw[Eg];exact mb.2)]
   rfl
  .have aA:¬ ord[i].toNat=b.toNat:=fun e'=>by
    obtain⟨mT,e2⟩:=List.getElem?_eq_some_iff.1 hb
    have hib:=bk b (e2▸List.getElem_mem mT)
    have:ord[i]=ord[j]:=by rw[e2];omega
    have:=(List.getElem_inj nd).1 this
    omega
   rw[if_neg aA, <- List.getD_eq_getElem?_getD]
   exact PQ nd bk i oG j b oG hb
theorem M8{ord:List Int}{n:Nat}(nd:ord.Nodup)(bk:∀ b∈ord,0<=b/\b.toNat<n){j:Nat}{b:Int}(h:ord[j]? =some b):(zb ord n).getD b.toNat 0=j:=by
 obtain⟨hj,_⟩:=List.getElem?_eq_some_iff.1 h
 exact PQ nd bk _ (Nat.le_refl _) j b hj h
theorem MX{ord:List Int}{n:Nat}:(zb ord n).length=n:=Eg _
def cv(out:List Int)(x:Int):Int:=out.getD x.toNat (-1)
def kH(pl:List Int)(x:Int):Int:=pl.getD x.toNat 0
def sE(pl out:List Int):Nat->Int->Int->Int
 |0,x,_=>x
 |k+1,x,a=>if x=a then x else if kH pl a<kH pl x then sE pl out k (cv out x) a else sE pl out k x (cv out a)
def ky(pl out:List Int)(nx a:Int):Int:=if cv out a= -1 then nx else if nx= -1 then a else sE pl out (2*pl.length) nx a
def lQ(pl out l:List Int):Int:=l.foldl (ky pl out) (-1)
def iZ(pl:List Int)(ahd:Nat->List Int)(s:List Int×Bool)(b:Int):List Int×Bool:=
 if cv s.1 b=lQ pl s.1 (ahd b.toNat) then s else(s.1.set b.toNat (lQ pl s.1 (ahd b.toNat)),true)
def pG(pl:List Int)(ahd:Nat->List Int)(rest out:List Int):List Int×Bool:=rest.foldl (iZ pl ahd) (out,false)
def Ek(pl:List Int)(ahd:Nat->List Int)(rest:List Int):Nat->List Int->List Int
 |0,out=>out
 |k+1,out=>if(pG pl ahd rest out).2=true then Ek pl ahd rest k (pG pl ahd rest out).1 else(pG pl ahd rest out).1
def kx(n:Nat):List Int:=(List.replicate n (-1)).set 0 0
def cP(out:List Int)(x:Nat):Nat:=(cv out x).toNat
structure zq(V:Nat->Prop)(n:Nat)(out:List Int):Prop where
 len:out.length=n
 set:∀ x,V x->0<=cv out x
 un:∀ x:Nat,¬ V x->cv out x= -1
theorem xg{out:List Int}{b x:Nat}{q:Int}(h:b<out.length):cv (out.set b q) x=if x=b then q else cv out x:=by
 unfold cv
 simp only[Int.toNat_natCast,List.getD_eq_getElem?_getD,List.getElem?_set]
 by_cases e:b=x
 .subst e;simp[h]
 .rw[if_neg e,if_neg fun e'=>e e'.symm]
theorem NM{out:List Int}{b q:Nat}(h:b<out.length):cP (out.set b (q:Int))=jk (cP out) b q:=by
 funext x
 unfold cP jk
 rw[xg h]
 split<;>simp
section
variable{V:Nat->Prop}{plL out:List Int}{pl:Nat->Nat}{n:Nat}
theorem Il(hp:∀ x:Nat,V x->kH plL x=pl x)(hg:zq V n out)(ht:jR V pl (cP out))(h0:pl 0=0)(inj:∀ x a,V x->V a->pl x=pl a->x=a):
 ∀ (k x a:Nat),V x->V a->sE plL out k x a=(sJ pl (cP out) k x a:Nat)
 |0,x,a,_,_=>rfl
 |k+1,x,a,vx,va=>by
  have sx:cv out x=(cP out x:Nat):=by unfold cP;rw[Int.toNat_of_nonneg (hg.set x vx)]
  have sa:cv out a=(cP out a:Nat):=by unfold cP;rw[Int.toNat_of_nonneg (hg.set a va)]
  rw[sE,sJ,hp x vx,hp a va,sx,sa]
  have e1:((x:Int)=a)=(x=a):=propext Int.natCast_inj
  have e2:((pl a:Int)<pl x)=(pl a<pl x):=propext Int.ofNat_lt
  simp only[e1,e2]
  split
  .rfl
  .rename_i aA
   split
   .rename_i hl
    exact Il hp hg ht h0 inj k _ a (ht.dI x vx fun e=>by rw[e,h0] at hl;omega).1 va
   .rename_i hl
    exact Il hp hg ht h0 inj k x _ vx (ht.dI a va fun e=>by
     subst e
     exact aA (inj x 0 vx va oG)).1
theorem H4(hp:∀ x:Nat,V x->kH plL x=pl x)(hn:∀ x,V x->pl x<plL.length)(hg:zq V n out)(ht:jR V pl (cP out))(h0:pl 0=0)(inj:∀ x a,V x->V a->pl x=pl a->x=a)
 {l:List Int} (hl:∀ a∈l,0<=a):(lQ plL out l= -1/\∀ a∈l,¬ V a.toNat)\/
 ∃ q:Nat,lQ plL out l=q/\V q/\(∀ a∈l,V a.toNat->bm (cP out) q a.toNat)/\∀ w,(∀ a∈l,V a.toNat->bm (cP out) w a.toNat)->bm (cP out) w q:=by
 induction l using H3 with
 |h0=>exact .inl ⟨rfl,fun a h=>by simp at h⟩
 |h1 l a ih=>
  have ih:=ih fun a h=>hl a (by simp[h])
  have ha:=hl a (by simp)
  have e:lQ plL out (l++[a])=ky plL out (lQ plL out l) a:=by unfold lQ;rw[List.foldl_append];rfl
  rw[e]
  have kz:∀ x∈l++[a],x∈l\/x=a:=fun x hx=>by simpa using hx
  have bk:∀ x∈l,x∈l++[a]:=fun x hx=>by simp[hx]
  obtain⟨m,rfl⟩:=Int.eq_ofNat_of_zero_le ha
  by_cases hv:V m
  .have hs:¬ cv out (m:Int)= -1:=by have:=hg.set m hv;omega
   rcases ih with⟨h1,h2⟩|⟨q,h1,h2,h3,h4⟩
   .refine .inr ⟨m,by unfold ky;rw[if_neg hs,if_pos h1],hv,fun x hx vx=>?_,fun w hw=>by simpa using hw m (by simp) hv⟩
    rcases kz x hx with h|h
    .exact absurd vx (h2 x h)
    .subst h;exact .refl _
   .have hk:pl q+pl m<2*plL.length:=by have:=hn q h2;have:=hn m hv;omega
    obtain⟨s1,s2,s3,s4⟩:=Hy ht h0 inj (2*plL.length) q m h2 hv hk
    refine .inr ⟨sJ pl (cP out) (2*plL.length) q m,?_,s1,fun x hx vx=>?_,fun w hw=>?_⟩
    .unfold ky
     rw[if_neg hs,h1,if_neg oG,Il hp hg ht h0 inj _ q m h2 hv]
    .rcases kz x hx with h|h
     .exact s2.trans (h3 x h vx)
     .subst h;exact s3
    .exact s4 w (h4 w fun x hx=>hw x (bk x hx)) (by simpa using hw m (by simp) hv)
  .have hs:cv out (m:Int)= -1:=hg.un m hv
   have e':ky plL out (lQ plL out l) (m:Int)=lQ plL out l:=by unfold ky;rw[if_pos hs]
   rw[e']
   rcases ih with⟨h1,h2⟩|⟨q,h1,h2,h3,h4⟩
   .refine .inl ⟨h1,fun x hx vx=>?_⟩
    rcases kz x hx with h|h
    .exact h2 x h vx
    .subst h;exact hv vx
   .refine .inr ⟨q,h1,h2,fun x hx vx=>?_,fun w hw=>h4 w fun x hx=>hw x (bk x hx)⟩
    rcases kz x hx with h|h
    .exact h3 x h vx
    .subst h;exact absurd vx hv
end
structure tW(beh ahd:Nat->List Int)(n:Nat):Prop where
 pos:0<n
 to:∀ b,∀ c∈beh b,0<=c/\c.toNat<n
 Lm:∀ (c:Nat) (a:Int),a∈ahd c↔0<=a/\a.toNat<n/\(c:Int)∈beh a.toNat
def kW(beh:Nat->List Int)(a c:Nat):Prop:=(c:Int)∈beh a
def cg(beh:Nat->List Int)(n x:Nat):Prop:=(bu beh n (-1)).getD x false=true
def plL(beh:Nat->List Int)(n:Nat):List Int:=zb (bU beh n) n
def dm(beh:Nat->List Int)(n x:Nat):Nat:=(kH (plL beh n) x).toNat
section
variable{beh ahd:Nat->List Int}{n:Nat}(h:tW beh ahd n)
include h
theorem H5{x:Nat}:(x:Int)∈bU beh n↔cg beh n x:=by
 rw[G7 h.to h.pos]
 simp[cg]
theorem yW:∀ b∈bU beh n,0<=b/\b.toNat<n:=fun b hb=>by
 have hb:=(G7 h.to h.pos).1 hb
 refine⟨hb.1,?_⟩
 have hl:=te (w:= -1) h.to h.pos
 rcases Nat.lt_or_ge b.toNat n with g|g
 .exact g
 .rw[List.getD_eq_getElem?_getD,List.getElem?_eq_none oG] at hb
  simp at hb
theorem xv{x:Nat}(hx:cg beh n x):x<n:=by simpa using(yW h x ((H5 h).2 hx)).2
theorem y6{x:Nat}(hx:cg beh n x):∃ i:Nat,(bU beh n)[i]? =some (x:Int)/\kH (plL beh n) x=i/\dm beh n x=i:=by
 obtain⟨i,hi⟩:=List.getElem?_of_mem ((H5 h).2 hx)
 have:=M8 (GI h.to h.pos) (yW h) hi
 exact⟨i,hi,this,by unfold dm kH plL;rw[this];rfl⟩
theorem acK{x:Nat}(hx:cg beh n x):kH (plL beh n) x=dm beh n x:=by
 obtain⟨i,_,a,b⟩:=y6 h hx
 rw[a,b]
theorem Im{i:Nat}{x:Int}(hi:(bU beh n)[i]? =some x):∃ m:Nat,x=m/\cg beh n m/\dm beh n m=i:=by
 have hm:=List.mem_of_getElem? hi
 obtain⟨m,rfl⟩:=Int.eq_ofNat_of_zero_le (yW h x hm).1
 refine⟨m,rfl,(H5 h).1 hm,?_⟩
 have:=M8 (GI h.to h.pos) (yW h) hi
 unfold dm kH plL
 rw[this];rfl
theorem xu:(bU beh n).length<=n:=by
 have hz:(List.replicate n false).getD 0 false=false:=by rw[List.getD_eq_getElem?_getD,List.getElem?_replicate];split<;>rfl
 have nd:=GI h.to h.pos
 have hr:=yW h
 have LV:((bU beh n).map Int.toNat).Nodup:=by
  rw[List.nodup_iff_pairwise_ne,List.pairwise_map]
  refine(List.Pairwise.and_mem.1 nd).imp fun {a b} dD e=>?_
  have:=hr a dD.1;have:=hr b dD.2.1
  exact dD.2.2 oG
 have:=List.Nodup.length_le_of_subset LV (l₂:=List.range n) fun x hx=>by
  obtain⟨y,hy,rfl⟩:=List.mem_map.1 hx
  exact List.mem_range.2 (hr y hy).2
 simpa using this
theorem xx{x:Nat}(hx:cg beh n x):dm beh n x<(bU beh n).length:=by
 obtain⟨i,a,_,b⟩:=y6 h hx
 rw[b]
 exact(List.getElem?_eq_some_iff.1 a).1
theorem ta:wP (kW beh) (cg beh n) (dm beh n):=by
 obtain⟨t,ht⟩:=yI h.to h.pos
 have Dm:(bU beh n)[0]? =some ((0:Nat):Int):=by rw[ht];rfl
 obtain⟨m,e,hm,hp⟩:=Im h Dm
 have:m=0:=by omega
 subst this
 refine⟨hm,fun a c e ra=>?_,fun x a rx ra e=>?_,hp,fun c hz rc=>?_⟩
 .have:=Xt h.to h.pos ra c e
  simpa[cg] using this
 .obtain⟨i,a1,_,a3⟩:=y6 h rx
  obtain⟨j,b1,_,b3⟩:=y6 h ra
  have:i=j:=by omega
  subst this
  rw[a1] at b1
  have:=Option.some.inj b1
  omega
 .obtain⟨i,a1,_,a3⟩:=y6 h rc
  obtain⟨j,t,hj,ht,h0,hc⟩:=Zs h.to a1 oG
  obtain⟨m,rfl,hm,hp⟩:=Im h ht
  exact⟨m,by simpa[kW] using hc,hm,by omega⟩
def vD(beh:Nat->List Int)(n:Nat)(out:List Int):Prop:=sK (kW beh) (cg beh n) (dm beh n) (cP out)/\zq (cg beh n) n out
theorem BM{x:Nat}(hx:cg beh n x):kH (plL beh n) x=dm beh n x:=acK h hx
theorem Io{x:Nat}(hx:cg beh n x):dm beh n x<(plL beh n).length:=by
 have:=xx h hx
 have:=xu h
 rw[plL,MX];omega
omit h in
theorem LY{α β:Type}{g:β->α->β}{s:β}{l:List α}{i:Nat}{a:α}(hi:l[i]? =some a):(l.take (i+1)).foldl g s=g ((l.take i).foldl g s) a:=by
 rw[List.take_add_one,hi,List.foldl_append];rfl
theorem D5{i:Nat}{a:Int}(hi:(bU beh n).tail[i]? =some a):∃ c:Nat,a=c/\cg beh n c/\dm beh n c=i+1/\c≠0:=by
 obtain⟨t,ht⟩:=yI h.to h.pos
 obtain⟨m,e,hm,hp⟩:=Im h (i:=i+1) (x:=a) (by rw[ht] at hi ⊢;simpa using hi)
 refine⟨m,e,hm,hp,fun e=>?_⟩
 have:=(ta h).n4
 rw[e] at hp
 omega
theorem NN{c:Nat}(rc:cg beh n c)(hz:c≠0):∃ i,(bU beh n).tail[i]? =some (c:Int)/\dm beh n c=i+1:=by
 obtain⟨t,ht⟩:=yI h.to h.pos
 obtain⟨i,hi,_,hp⟩:=y6 h rc
 cases i with
 |zero=>exact absurd ((ta h).inj c 0 rc (ta h).root (by rw[hp,(ta h).n4])) hz
 |succ i=>exact⟨i,by rw[ht] at hi ⊢;simpa using hi,hp⟩
theorem A6(c:Nat):∀ a∈ahd c,0<=a:=fun a ha=>((h.Lm c a).1 ha).1
theorem yS{c a:Nat}(ra:cg beh n a):(a:Int)∈ahd c↔kW beh a c:=by
 rw[h.Lm]
 have:=xv h ra
 simp only[Int.toNat_natCast,kW]
 exact⟨fun x=>x.2.2,fun x=>⟨by omega,this,x⟩⟩
def anF(beh:Nat->List Int)(n k x:Nat):Prop:=cg beh n x/\dm beh n x<k
omit h in
theorem Hz(hn:0<n)(x:Nat):cv (kx n) x=if x=0 then 0 else -1:=by
 have:=xg (out:=List.replicate n (-1)) (b:=0) (x:=x) (q:=0) (by simpa using hn)
 unfold kx
 rw[this]
 have e:cv (List.replicate n (-1)) (x:Int)= -1:=by
  unfold cv
  rw[List.getD_eq_getElem?_getD,List.getElem?_replicate]
  split<;>rfl
 rw[e]
theorem HA:∀ i,i<=(bU beh n).tail.length->let s:=((bU beh n).tail.take i).foldl (iZ (plL beh n) ahd) (kx n,false)
 vZ (kW beh) (cg beh n) (dm beh n) (cP s.1) (i+1)/\zq (anF beh n (i+1)) n s.1/\(0<i->s.2=true)
 |0,_=>by
  have g:=ta h
  refine⟨.start g (by show(cv (kx n) ((0:Nat):Int)).toNat=0;rw[Hz h.pos];rfl),⟨by simp[kx],fun x hx=>?_,fun x hx=>?_⟩,fun h=>absurd h (Nat.lt_irrefl 0)⟩
  .have:x=0:=g.inj x 0 hx.1 g.root (by rw[g.n4];have:=hx.2;omega)
   show 0<=cv (kx n) x
   rw[Hz h.pos,if_pos this];omega
  .show cv (kx n) x= -1
   rw[Hz h.pos,if_neg fun e=>hx (by subst e;exact⟨g.root,by rw[g.n4];omega⟩)]
 |i+1,hi=>by
  have g:=ta h
  obtain⟨h1,h2,h3⟩:=HA i oG
  have hx:=List.getElem?_eq_getElem (show i<(bU beh n).tail.length from hi)
  obtain⟨c,e,rc,hp,hz⟩:=D5 h hx
  rw[e] at hx
  simp only
  rw[LY hx]
  generalize ((bU beh n).tail.take i).foldl (iZ (plL beh n) ahd) (kx n,false)=s at h1 h2 h3
  obtain⟨out,fl⟩:=s
  dsimp only at h1 h2 h3 ⊢
  have hc:cv out (c:Int)= -1:=h2.un c fun hv=>by have:=hv.2;omega
  have jh:=xv h rc
  rcases H4 (l:=ahd c) (plL:=plL beh n) (pl:=dm beh n) (fun x hx=>BM h hx.1) (fun x hx=>Io h hx.1) h2 h1.tree g.n4 (fun x a rx ra=>g.inj x a rx.1 ra.1) (A6 h c) with⟨q1,q2⟩|⟨q,q1,q2,q3,q4⟩
  .obtain⟨t,t1,t2,t3⟩:=g.pre c hz rc
   exact absurd ⟨t2,by rw[Int.toNat_natCast];omega⟩ (q2 t ((yS h t2).2 t1))
  .have e':iZ (plL beh n) ahd (out,fl) c=(out.set c q,true):=by
    unfold iZ
    simp only[Int.toNat_natCast,q1,hc]
    rw[if_neg oG]
   rw[e']
   dsimp only
   rw[NM (by rw[h2.len];exact jh)]
   refine⟨h1.step g rc hz oG q2.1 (fun a ea ra hl=>?_) (fun w hw=>q4 w fun a ha va=>?_),⟨by simp[h2.len],fun x hx=>?_,fun x hx=>?_⟩,fun _=>rfl⟩
   .simpa using q3 a ((yS h ra).2 ea) ⟨ra,by rw[Int.toNat_natCast];omega⟩
   .have Dq:=A6 h c a ha
    obtain⟨m,rfl⟩:=Int.eq_ofNat_of_zero_le Dq
    exact hw m ((yS h va.1).1 ha) va.1 va.2
   .rw[xg (by rw[h2.len];exact jh)]
    split
    .omega
    .rename_i aA
     exact h2.set x ⟨hx.1,by
      rcases Nat.lt_or_ge (dm beh n x) (i+1) with g'|g'
      .exact g'
      .exact absurd (g.inj x c hx.1 rc (by have:=hx.2;omega)) aA⟩
   .rw[xg (by rw[h2.len];exact jh),if_neg fun e=>hx (by rw[e];exact⟨rc,by omega⟩)]
    exact h2.un x fun hv=>hx ⟨hv.1,by have:=hv.2;omega⟩
theorem Mz:vD beh n (pG (plL beh n) ahd (bU beh n).tail (kx n)).1/\((pG (plL beh n) ahd (bU beh n).tail (kx n)).2=false->(bU beh n).tail=[]):=by
 obtain⟨h1,h2,h3⟩:=HA h _ (Nat.le_refl _)
 rw[List.take_length] at h1 h2 h3
 unfold pG
 obtain⟨t,ht⟩:=yI h.to h.pos
 have bj:∀ x,cg beh n x->dm beh n x<(bU beh n).tail.length+1:=fun x hx=>by
  have:=xx h hx
  rw[ht] at this ⊢
  simpa using this
 refine⟨⟨h1.fin bj,h2.len,fun x hx=>h2.set x ⟨hx,bj x hx⟩,fun x hx=>h2.un x fun hv=>hx hv.1⟩,fun e=>?_⟩
 cases hl:(bU beh n).tail with
 |nil=>rfl
 |cons a l=>rw[hl] at h3 e;rw[h3 (by simp)] at e;cases e
theorem HB{out:List Int}(ho:vD beh n out):∀ i,i<=(bU beh n).tail.length->let s:=((bU beh n).tail.take i).foldl (iZ (plL beh n) ahd) (out,false)
 x7 (kW beh) (cg beh n) (dm beh n) (cP out) (cP s.1) (i+1)/\zq (cg beh n) n s.1/\(∀ x,cg beh n x->dm beh n (cP s.1 x)<=dm beh n (cP out x))/\
 (s.2=true->∃ x,cg beh n x/\x≠0/\dm beh n (cP s.1 x)<dm beh n (cP out x))/\
 (s.2=false->s.1=out/\∀ c,cg beh n c->c≠0->dm beh n c<i+1->∀ a,kW beh a c->cg beh n a->bm (cP out) (cP out c) a)
 |0,_=>by
  have g:=ta h
  refine⟨ho.1.start g,ho.2,fun _ _=>Nat.le_refl _,fun e=>by exact Bool.noConfusion e,fun _=>⟨rfl,fun c rc hz hl=>absurd (g.inj c 0 rc g.root (by rw[g.n4];omega)) hz⟩⟩
 |i+1,hi=>by
  have g:=ta h
  obtain⟨h1,h2,h3,h4,h5⟩:=HB ho i oG
  have hx:=List.getElem?_eq_getElem (show i<(bU beh n).tail.length from hi)
  obtain⟨c,e,rc,hp,hz⟩:=D5 h hx
  rw[e] at hx
  simp only
  rw[LY hx]
  generalize ((bU beh n).tail.take i).foldl (iZ (plL beh n) ahd) (out,false)=s at h1 h2 h3 h4 h5
  obtain⟨o,fl⟩:=s
  dsimp only at h1 h2 h3 h4 h5 ⊢
  have jh:=xv h rc
  rcases H4 (l:=ahd c) (plL:=plL beh n) (pl:=dm beh n) (fun x hx=>BM h hx) (fun x hx=>Io h hx) h2 h1.tree g.n4 g.inj (A6 h c) with⟨q1,q2⟩|⟨q,q1,q2,q3,q4⟩
  .obtain⟨t,t1,t2,t3⟩:=g.pre c hz rc
   exact absurd t2 (q2 t ((yS h t2).2 t1))
  .have hq:∀ a,kW beh a c->cg beh n a->bm (cP o) q a:=fun a ea ra=>by simpa using q3 a ((yS h ra).2 ea) ra
   have hm:∀ w,(∀ a,kW beh a c->cg beh n a->bm (cP o) w a)->bm (cP o) w q:=fun w hw=>q4 w fun a ha va=>by
    obtain⟨m,rfl⟩:=Int.eq_ofNat_of_zero_le (A6 h c a ha)
    exact hw m ((yS h va).1 ha) va
   obtain⟨up,st⟩:=h1.step g rc hz oG q2 hq hm
   obtain⟨p1,_⟩:=h1.tree.dI c rc hz
   obtain⟨_,lo⟩:=h1.tree.low p1 up
   by_cases hs:cv o (c:Int)=q
   .have e':iZ (plL beh n) ahd (o,fl) c=(o,fl):=by
     unfold iZ
     simp only[Int.toNat_natCast,q1]
     rw[if_pos hs]
    have eo:cP o c=q:=by unfold cP;rw[hs];simp
    have eu:jk (cP o) c q=cP o:=by
     funext x
     unfold jk
     split
     .rename_i ex;rw[ex,eo]
     .rfl
    rw[eu] at st
    rw[e']
    refine⟨st,h2,h3,h4,fun ef=>?_⟩
    obtain⟨W4,hf⟩:=h5 ef
    refine⟨W4,fun x rx xz hl a ea ra=>?_⟩
    by_cases ex:x=c
    .subst ex
     rw[<- W4,eo]
     exact hq a ea ra
    .exact hf x rx xz (by
      rcases Nat.lt_or_ge (dm beh n x) (i+1) with g'|g'
      .exact g'
      .exact absurd (g.inj x c rx rc oG) ex) a ea ra
   .have e':iZ (plL beh n) ahd (o,fl) c=(o.set c q,true):=by
     unfold iZ
     simp only[Int.toNat_natCast,q1]
     rw[if_neg hs]
    have aj:dm beh n q<dm beh n (cP o c):=by
     rcases lo with lo|lo
     .refine absurd ?_ hs
      rw[lo]
      unfold cP
      rw[Int.toNat_of_nonneg (h2.set c rc)]
     .exact lo
    rw[e']
    dsimp only
    rw[NM (by rw[h2.len];exact jh)]
    refine⟨st,⟨by simp[h2.len],fun x hx=>?_,fun x hx=>?_⟩,fun x rx=>?_,fun _=>⟨c,rc,hz,by rw[qK];exact Nat.lt_of_lt_of_le aj (h3 c rc)⟩,fun e=>by cases e⟩
    .rw[xg (by rw[h2.len];exact jh)]
     split
     .omega
     .exact h2.set x hx
    .rw[xg (by rw[h2.len];exact jh),if_neg fun e=>hx (by rw[e];exact rc)]
     exact h2.un x hx
    .by_cases ex:x=c
     .subst ex;rw[qK];exact Nat.le_trans (Nat.le_of_lt aj) (h3 x rx)
     .rw[nw q ex];exact h3 x rx
theorem Ha{out:List Int}(ho:vD beh n out):let s:=pG (plL beh n) ahd (bU beh n).tail out
 vD beh n s.1/\(∀ x,cg beh n x->dm beh n (cP s.1 x)<=dm beh n (cP out x))/\
 (s.2=true->∃ x,cg beh n x/\x≠0/\dm beh n (cP s.1 x)<dm beh n (cP out x))/\
 (s.2=false->s.1=out/\∀ c,cg beh n c->c≠0->∀ a,kW beh a c->cg beh n a->bm (cP out) (cP out c) a):=by
 obtain⟨h1,h2,h3,h4,h5⟩:=HB h ho _ (Nat.le_refl _)
 rw[List.take_length] at h1 h2 h3 h4 h5
 obtain⟨t,ht⟩:=yI h.to h.pos
 have bj:∀ x,cg beh n x->dm beh n x<(bU beh n).tail.length+1:=fun x hx=>by
  have:=xx h hx
  rw[ht] at this ⊢
  simpa using this
 exact⟨⟨h1.fin bj,h2⟩,h3,h4,fun e=>⟨(h5 e).1,fun c rc hz=>(h5 e).2 c rc hz (bj c rc)⟩⟩
end
section
variable{beh ahd:Nat->List Int}{n:Nat}(h:tW beh ahd n)
include h
def Ip(beh:Nat->List Int)(n:Nat)(out:List Int):Prop:=vD beh n out/\∀ c,cg beh n c->c≠0->∀ a,kW beh a c->cg beh n a->bm (cP out) (cP out c) a
def Dr(beh:Nat->List Int)(n:Nat)(out:List Int):Nat:=((bU beh n).tail.map fun b=>dm beh n (cP out b.toNat)).sum
omit h in
theorem RV{l:List Int}{f g:Int->Nat}(hl:∀ x∈l,f x<=g x):(l.map f).sum<=(l.map g).sum/\((∃ x∈l,f x<g x)->(l.map f).sum<(l.map g).sum):=by
 induction l with
 |nil=>exact⟨Nat.le_refl _,fun⟨x,hx,_⟩=>by simp at hx⟩
 |cons a l ih=>
  obtain⟨i1,i2⟩:=ih fun x hx=>hl x (by simp[hx])
  have ha:=hl a (by simp)
  simp only[List.map_cons,List.sum_cons]
  refine⟨by omega,fun⟨x,hx,aj⟩=>?_⟩
  rcases List.mem_cons.1 hx with e|e
  .subst e;omega
  .have:=i2 ⟨x,e,aj⟩;omega
theorem acL{out:List Int}(ho:vD beh n out):Dr beh n out<=n*n:=by
 have h1:Dr beh n out<=((bU beh n).tail.map fun _=>n).sum:=(RV fun x hx=>by
  obtain⟨i,hi⟩:=List.getElem?_of_mem hx
  obtain⟨c,rfl,rc,_,hz⟩:=D5 h hi
  have:=xx h (ho.1.tree.dI c rc hz).1
  have:=xu h
  simp only[Int.toNat_natCast]
  omega).1
 have h2:((bU beh n).tail.map fun _=>n).sum=(bU beh n).tail.length*n:=by
  generalize (bU beh n).tail=l
  clear h1
  induction l with
  |nil=>simp
  |cons a l ih=>simp only[List.map_cons,List.sum_cons,ih,List.length_cons,Nat.succ_mul];omega
 have h3:(bU beh n).tail.length<=n:=by have:=xu h;rw[List.length_tail];omega
 have:=Nat.mul_le_mul_right n h3
 omega
theorem acM{out:List Int}(ho:vD beh n out)(hc:(pG (plL beh n) ahd (bU beh n).tail out).2=true):Dr beh n (pG (plL beh n) ahd (bU beh n).tail out).1<Dr beh n out:=by
 obtain⟨_,h2,h3,_⟩:=Ha h ho
 obtain⟨x,rx,xz,aj⟩:=h3 hc
 refine(RV fun b hb=>?_).2 ?_
 .obtain⟨i,hi⟩:=List.getElem?_of_mem hb
  obtain⟨c,rfl,rc,_,hz⟩:=D5 h hi
  exact h2 _ (by simpa using rc)
 .obtain⟨i,hi,_⟩:=NN h rx xz
  exact⟨x,List.mem_of_getElem? hi,by simpa using aj⟩
def zL(beh ahd:Nat->List Int)(n:Nat)(F:List Int)(k:Nat)(out:List Int):Prop:=
 Ek (plL beh n) ahd (bU beh n).tail k out=F/\(out=kx n/\n*n+1<k\/vD beh n out/\Dr beh n out<k)
theorem G9{F out:List Int}{k:Nat}(hs:zL beh ahd n F k out):let s:=pG (plL beh n) ahd (bU beh n).tail out
 0<k/\(s.2=true->zL beh ahd n F (k - 1) s.1)/\(s.2=false->s.1=F/\Ip beh n F):=by
 obtain⟨e,hs⟩:=hs
 have hk:0<k:=by rcases hs with⟨_,hs⟩|⟨_,hs⟩<;>omega
 obtain⟨k,rfl⟩:∃ j,k=j+1:=⟨k - 1,by omega⟩
 rw[Ek] at e
 refine⟨hk,fun hc=>?_,fun hc=>?_⟩
 .rw[if_pos hc] at e
  refine⟨e,.inr ?_⟩
  rcases hs with⟨rfl,hs⟩|⟨ho,hs⟩
  .have:=(Mz h).1
   exact⟨this,by have:=acL h this;omega⟩
  .exact⟨(Ha h ho).1,by have:=acM h ho hc;omega⟩
 .rw[if_neg (by rw[hc];exact Bool.noConfusion)] at e
  refine⟨e,?_⟩
  rw[<- e]
  rcases hs with⟨rfl,hs⟩|⟨ho,hs⟩
  .obtain⟨p1,p2⟩:=Mz h
   refine⟨p1,fun c rc hz=>?_⟩
   obtain⟨i,hi,_⟩:=NN h rc hz
   rw[p2 hc] at hi
   simp at hi
  .obtain⟨p1,_,_,p4⟩:=Ha h ho
   obtain⟨q1,q2⟩:=p4 hc
   rw[q1]
   exact⟨ho,q2⟩
def T1(PL:List Int)(n:Nat)(o:List Int)(V:Nat->Prop)(pl:Nat->Nat):Prop:=
 o.length=n/\(∀ x,V x->x<n/\pl x<n)/\(∀ x:Nat,¬ cv o x= -1->V x)/\
 (∀ l:List Int,(∀ a∈l,0<=a)->lQ PL o l= -1\/∃ q:Nat,lQ PL o l=q/\V q)/\
 (∀ x a:Nat,V x->V a->x≠a->if kH PL a<kH PL x then(∃ y:Nat,cv o x=y/\V y/\pl y<pl x) else(∃ y:Nat,cv o a=y/\V y/\pl y<pl a))
theorem RX{V:Nat->Prop}{o:List Int}(ht:jR V (dm beh n) (cP o))(hg:zq V n o)(hV:∀ x,V x->cg beh n x):T1 (plL beh n) n o V (dm beh n):=by
 have g:=ta h
 have lt:∀ x,V x->dm beh n x<n:=fun x vx=>by
  have:=xx h (hV x vx)
  have:=xu h
  omega
 refine⟨hg.len,fun x vx=>⟨xv h (hV x vx),lt x vx⟩,fun x hx=>?_,fun l hl=>?_,fun x a vx va aA=>?_⟩
 .exact Classical.byContradiction fun hn=>hx (hg.un x hn)
 .rcases H4 (plL:=plL beh n) (pl:=dm beh n) (fun x vx=>BM h (hV x vx)) (fun x vx=>Io h (hV x vx)) hg ht g.n4 (fun x a vx va=>g.inj x a (hV x vx) (hV a va)) hl with⟨h1,_⟩|⟨q,h1,h2,_⟩
  .exact .inl h1
  .exact .inr ⟨q,h1,h2⟩
 .rw[BM h (hV x vx),BM h (hV a va)]
  have hs:∀ x,V x->x≠0->∃ y:Nat,cv o x=y/\V y/\dm beh n y<dm beh n x:=fun x vx hz=>by
   obtain⟨p1,p2⟩:=ht.dI x vx hz
   exact⟨cP o x,by unfold cP;rw[Int.toNat_of_nonneg (hg.set x vx)],p1,p2⟩
  have h0:=g.n4
  split
  .rename_i hl
   exact hs x vx fun e=>by rw[e,h0] at hl;omega
  .rename_i hl
   exact hs a va fun e=>by
    subst e
    exact aA (g.inj x 0 (hV x vx) (hV 0 va) oG)
theorem aab{F out:List Int}{k:Nat}(hs:zL beh ahd n F k out):out.length=n/\∀ j,j<=(bU beh n).tail.length->
 ∃ (V:Nat->Prop) (pl:Nat->Nat),T1 (plL beh n) n (((bU beh n).tail.take j).foldl (iZ (plL beh n) ahd) (out,false)).1 V pl:=by
 rcases hs.2 with⟨rfl,_⟩|⟨ho,_⟩
 .refine⟨by simp[kx],fun j hj=>?_⟩
  obtain⟨h1,h2,_⟩:=HA h j hj
  exact⟨_,_,RX h h1.tree h2 fun x hx=>hx.1⟩
 .refine⟨ho.2.len,fun j hj=>?_⟩
  obtain⟨h1,h2,_⟩:=HB h ho j hj
  exact⟨_,_,RX h h1.tree h2 fun x hx=>hx⟩
def xS(beh ahd:Nat->List Int)(n:Nat):List Int:=Ek (plL beh n) ahd (bU beh n).tail (n*n+2) (kx n)
def fZ(beh ahd:Nat->List Int)(n:Nat):List Int:=(xS beh ahd n).set 0 (-1)
omit h in
theorem Mu:zL beh ahd n (xS beh ahd n) (n*n+2) (kx n):=⟨rfl,.inl ⟨rfl,by omega⟩⟩
theorem NO{F:List Int}:∀ {k:Nat} {out:List Int},zL beh ahd n F k out->Ip beh n F
 |0,out,hs=>absurd (G9 h hs).1 (Nat.lt_irrefl 0)
 |k+1,out,hs=>by
  obtain⟨_,h2,h3⟩:=G9 h hs
  cases e:(pG (plL beh n) ahd (bU beh n).tail out).2 with
  |true=>exact NO (h2 e)
  |false=>exact(h3 e).2
theorem xh:Ip beh n (xS beh ahd n):=NO h Mu
theorem Me:(fZ beh ahd n).length=n:=by
 unfold fZ
 rw[List.length_set]
 exact(xh h).1.2.len
theorem GJ(x:Nat):cv (fZ beh ahd n) x=if x=0 then -1 else cv (xS beh ahd n) x:=by
 unfold fZ
 exact xg (b:=0) (by rw[(xh h).1.2.len];exact h.pos)
def zZ(beh:Nat->List Int)(a b:Nat):Prop:=¬ Av (kW beh) a b
def tc(beh ahd:Nat->List Int)(n:Nat):Nat->Nat:=cP (xS beh ahd n)
theorem El:jR (cg beh n) (dm beh n) (tc beh ahd n):=(xh h).1.1.tree
theorem r9{a b:Nat}(rb:cg beh n b):bm (tc beh ahd n) a b↔zZ beh a b:=(xh h).1.1.z6 (ta h) (xh h).2 rb
theorem Ii{b:Nat}(rb:cg beh n b)(hz:b≠0):cv (fZ beh ahd n) b=(tc beh ahd n b:Nat)/\cg beh n (tc beh ahd n b)/\dm beh n (tc beh ahd n b)<dm beh n b:=by
 refine⟨?_,(El h).dI b rb hz⟩
 rw[GJ h,if_neg hz]
 unfold tc cP
 rw[Int.toNat_of_nonneg ((xh h).1.2.set b rb)]
theorem aby{b:Nat}(rb:¬ cg beh n b):cv (fZ beh ahd n) b= -1:=by
 rw[GJ h]
 split
 .rfl
 .exact(xh h).1.2.un b rb
theorem Hv:cv (fZ beh ahd n) (0:Nat)= -1:=by
 rw[GJ h,if_pos rfl]
def kT(dI:List Int):Nat->Int->Int->Bool
 |0,a,b=>decide (b=a)
 |k+1,a,b=>if b≠ -1/\b≠a then kT dI k a (cv dI b) else decide (b=a)
theorem PR{a:Nat}:∀ {k b:Nat},cg beh n b->dm beh n b<k->(kT (fZ beh ahd n) k a b=true↔zZ beh a b)
 |0,b,_,hk=>absurd hk (Nat.not_lt_zero _)
 |k+1,b,rb,hk=>by
  rw[kT]
  by_cases e:b=a
  .subst e
   rw[if_neg (by simp)]
   simp only[decide_true,true_iff]
   exact(r9 h rb).1 (.refl b)
  .rw[if_pos ⟨by omega,by omega⟩]
   by_cases hz:b=0
   .subst hz
    rw[Hv h]
    have hl:kT (fZ beh ahd n) k a (-1)=false:=by
     have:¬ (-1:Int)=a:=by omega
     cases k with
     |zero=>simp[kT,this]
     |succ k=>simp[kT,this]
    rw[hl, <- r9 h rb]
    refine⟨fun e=>Bool.noConfusion e,fun ha=>?_⟩
    exact absurd (ha.zero (El h).lq rfl).symm e
   .obtain⟨p1,p2,p3⟩:=Ii h rb hz
    rw[p1,PR p2 oG, <- r9 h p2, <- r9 h rb]
    refine⟨.up,fun ha=>?_⟩
    rcases ha.inv with e'|ha
    .exact absurd e'.symm e
    .exact ha
end
def Cg(beh ahd:Nat->List Int)(n:Nat)(a b:Nat):Bool:=
 (bu beh n (-1)).getD a false&&((bu beh n (-1)).getD b false&&kT (fZ beh ahd n) (n+1) a b)
theorem abz{beh ahd:Nat->List Int}{n:Nat}(h:tW beh ahd n){a b:Nat}:Cg beh ahd n a b=true↔cg beh n a/\cg beh n b/\zZ beh a b:=by
 unfold Cg
 rw[Bool.and_eq_true,Bool.and_eq_true]
 show cg beh n a/\cg beh n b/\_↔_
 refine and_congr_right fun _=>and_congr_right fun rb=>?_
 have:=xx h rb
 have:=xu h
 exact PR h rb oG
end Go.Argus
section
open Go Go.Abs Go.Proofs Go.Argus
namespace Go.Proofs.Tryz.K
set_option maxRecDepth 10000
theorem On(n:Nat)(b:Int):replD n [I b]=(List.replicate n b).map I:=by
 unfold replD
 induction n with
 |zero=>rfl
 |succ n ih=>rw[List.replicate_succ,List.replicate_succ,List.flatten_cons,List.map_cons,ih];rfl
theorem Lh{n:Nat}{x:Int}(lZ:n<=100000):OCall prog 94 [I n,I x] ((List.replicate n x).map I) n 3:=by
 refine tf mixed U0 (by rw[ak7];rfl) (.cons (Tr.s _) (.cons (Tr.s _) .nil)) (.map fun _=>.s _) ?_
 rw[ak8,ak9]
 refine ws ?_;refine c7 ?_
 refine ab (aq ?_)
 have cM:((n:Nat):Int).toNat=n:=Int.toNat_natCast n
 refine J0 ?_
 refine gB (yO rfl rfl V.h V.h) ak ⟨by omega,rfl,by omega,by rw[b3];omega,V.h⟩ ?_
 refine bJ ?_
 refine ab (aJ (aE (l:=[(1,I x),(5,.rs 0 0 n)]) (ml:=[(0,.cells ((List.replicate n (0:Int)).map I) 3)]) ⟨rfl,?_,trivial⟩ ⟨?_,trivial⟩) (aC (aq ?_)))
 .exact congrArg (fun k=>D.rs 0 0 k) cM
 .exact congrArg (fun c=>some (Row.cells c 3)) ((congrArg (fun k=>replD k [I 0]) cM).trans (On n 0))
 refine bT ?_;refine zF ?_;refine J0 ?_
 refine ab (bM (fun s=>Ghost prog s ⟨ax [(5,.rs 0 0 n)],aX [(0,.cells ((List.replicate n x).map I) 3)],1⟩) (eX (α:=Nat)
  (fun k=>⟨ax [(1,I x),(5,.rs 0 0 n),(10,I n),(11,I k)],aX [(0,.cells ((List.replicate k x++List.replicate (n - k) 0).map I) 3)],1⟩)
  (fun k=>k<=n) (fun k=>n - k) 0 (aE eH eH) oG ?_) ?_)
 .intro k hk
  refine bB ?_
  refine ab ⟨_,rfl,fun h=>?_,fun h=>?_⟩
  .have aj:k<n:=by simpa using h
   have pS:=Ec (x:=x) (y:=0) aj
   have hl:(List.replicate k x++List.replicate (n - k) (0:Int)).length=n:=by simp;omega
   refine ws ?_;refine iF ?_
   refine ab (eO ?_)
   refine cL ?_;refine J0 ?_;refine eI ?_;refine ww ?_
   refine ab ?_
   refine cr ?_
   refine ab (aK (k+1) (aE eH ⟨?_,trivial⟩) oG oG)
   rw[<- pS,List.map_set];rfl
  .have aZ:¬ k<n:=by simpa using h
   have:k=n:=by omega
   subst this
   refine aE eH ⟨?_,trivial⟩
   rw[Nat.sub_self,List.replicate_zero,List.append_nil];rfl
 rintro s hg
 refine⟨_,hg,ag ?_⟩
 refine bT ?_;refine bJ ?_
 refine ab (ap rfl ⟨0,rfl,rfl⟩)
set_option maxHeartbeats 1000000 in
theorem rH{f:az}{beh ahd:List (List Int)}{c:D}(hc:Tr c)(gk:c.one=true){n:Nat}(hn:beh.length=n)(nV:ahd.length=n)(pZ:f.blocks.length=n)(lZ:n<=1200)(hg:tW (aQ beh) (aQ ahd) n)(cR:∀ b,(aQ beh b).length<=100000)(rG:∀ b,(aQ ahd b).length<=100000):
 PCall prog 60 [.pt (dp f beh ahd c)] (aw (fZ (aQ beh) (aQ ahd) n)):=by
 have lk:=hg.pos
 have Au:=Au (f:=f) (beh:=beh) (ahd:=ahd) hc gk hn pZ lk oG hg.to cR
 refine aY mixed U1 (by rw[ak'];rfl) (.cons (D0 hc) .nil) (cN _) ?_
 rw[ala,alb]
 refine ws ?_;refine c7 ?_
 refine ab (aq ?_)
 have Li:=Mu (beh:=aQ beh) (ahd:=aQ ahd) (n:=n)
 have Wq:fZ (aQ beh) (aQ ahd) n=(xS (aQ beh) (aQ ahd) n).set 0 (-1):=rfl
 have Lj:=yW hg
 have nL:=xu hg
 have lY:plL (aQ beh) n=zb (bU (aQ beh) n) n:=rfl
 obtain⟨T,hT⟩:=yI hg.to lk
 have zK:=fun F k out=>G9 (beh:=aQ beh) (ahd:=aQ ahd) (n:=n) hg (F:=F) (k:=k) (out:=out)
 have sD:=fun F k out=>aab (beh:=aQ beh) (ahd:=aQ ahd) (n:=n) hg (F:=F) (k:=k) (out:=out)
 rw[Wq]
 clear Wq
 generalize xS (aQ beh) (aQ ahd) n=F at Li ⊢
 have zK:=zK F
 have sD:=sD F
 generalize bU (aQ beh) n=O at Au Lj nL lY hT zK sD
 refine uC ?_
 refine zi Au rfl (by repeat' (first|exact trivial|exact rfl|refine And.intro ?_ ?_)) ?_
 refine bJ ?_
 have cM:((f.blocks.length:Nat):Int).toNat=n:=pZ
 refine ab (aJ (nh (i:=0) (e:=3) (cs:=O.map I) (l:=[(0,.pt (dp f beh ahd c)),(3,aw O)]) (ml:=[]) rfl ⟨rfl,?_,trivial⟩ trivial) (aq ?_))
 .exact mh (by rw[c3];simp)
 refine uC ?_;refine uB ?_;refine J6 ?_;refine dG ?_
 refine gB (yO rfl rfl V.h V.h) ak ⟨by omega,rfl,by omega,by rw[b3];omega,V.h⟩ ?_
 refine bJ ?_
 refine ab (aJ (aE (l:=[(0,.pt (dp f beh ahd c)),(3,aw O),(4,.rs 1 0 n)]) (ml:=[(1,.cells ((rI O n 0).map I) 3)]) ⟨rfl,rfl,?_,trivial⟩ ⟨?_,trivial⟩) (aC (aq ?_)))
 .exact congrArg (fun k=>D.rs 1 0 k) cM
 .exact congrArg (fun c=>some (Row.cells c 3)) ((congrArg (fun k=>replD k [I 0]) cM).trans (On n 0))
 refine tN ?_;refine J0 ?_
 refine ab (bM (fun s=>Ghost prog s ⟨ax [(0,.pt (dp f beh ahd c)),(3,aw O),(4,.rs 1 0 n)],aX [(1,.cells ((zb O n).map I) 3)],2⟩) (eX (α:=Nat)
  (fun k=>⟨ax [(0,.pt (dp f beh ahd c)),(3,aw O),(4,.rs 1 0 n),(23,aw O),(24,I O.length),(25,I k)],aX [(1,.cells ((rI O n k).map I) 3)],2⟩)
  (fun k=>k<=O.length) (fun k=>O.length - k) 0 (aE eH eH) (Nat.zero_le _) ?_) ?_)
 .intro k hk
  clear Au zK sD
  have Wr:=Eg (ord:=O) (n:=n) k
  refine bB ?_
  refine ab ⟨_,rfl,fun h=>?_,fun h=>?_⟩
  .have aj:k<O.length:=by simpa using h
   have hx:O[k]? =some O[k]:=List.getElem?_eq_getElem aj
   have CI:=Lj _ (List.getElem_mem aj)
   have aN:rI O n (k+1)=(rI O n k).set (O.getD k 0).toNat k:=rfl
   rw[getD_some hx] at aN
   generalize O[k]=b at hx CI aN
   obtain⟨bn,rfl⟩:=Int.eq_ofNat_of_zero_le CI.1
   have At:bn<n:=CI.2
   rw[Int.toNat_natCast] at aN
   refine ws ?_;refine gM ?_;refine J3 ?_;refine J3 ?_
   refine ab (eO ?_)
   refine cL ?_;refine J0 ?_;refine eI ?_;refine ww ?_
   refine ab ?_
   refine cr ?_
   refine ab (aK (k+1) (aE eH ⟨?_,trivial⟩) oG oG)
   rw[aN,List.map_set];rfl
  .have aZ:¬ k<O.length:=by simpa using h
   have:k=O.length:=by omega
   subst this
   exact aE eH eH
 have Cf:(zb O n).length=n:=MX
 rw[<- lY] at Cf ⊢
 clear lY
 generalize plL (aQ beh) n=PL at Cf zK sD ⊢
 rintro s hg0
 refine⟨_,hg0.trans (nh (i:=1) (e:=3) (cs:=PL.map I) (l:=[(0,.pt (dp f beh ahd c)),(3,aw O),(4,aw PL)]) (ml:=[]) rfl ⟨rfl,rfl,?_,trivial⟩ trivial),aq ?_⟩
 .exact(mh (by rw[c3];simp[Cf])).trans (by rw[aw,Cf])
 have Lh:OCall prog 94 [I f.blocks.length,I (-1)] ((List.replicate n (-1)).map I) n 3:=by rw[pZ];exact Lh oG
 clear Au
 refine uC ?_;refine uB ?_;refine J6 ?_;refine dG ?_
 refine zi Lh rfl (by repeat' (first|exact trivial|exact rfl|refine And.intro ?_ ?_)) ?_
 refine bJ ?_
 refine ab (aJ (aE (l:=[(0,.pt (dp f beh ahd c)),(3,aw O),(4,aw PL),(7,.rs 2 0 n)]) (ml:=[(2,.cells ((List.replicate n (-1)).map I) 3)]) ⟨rfl,rfl,rfl,?_,trivial⟩ eH) (aq ?_))
 .exact congrArg (fun k=>D.rs 2 0 k) (by simp)
 have F4:(List.replicate n (-1:Int))[0]? =some (-1):=by simp[lk]
 refine bT ?_;refine eI ?_;refine ww ?_
 refine ab (aJ (aE (l:=[(0,.pt (dp f beh ahd c)),(3,aw O),(4,aw PL),(7,.rs 2 0 n)]) (ml:=[(2,.cells ((kx n).map I) 3)]) eH ⟨?_,trivial⟩) (aC (aq ?_)))
 .unfold kx;rw[List.map_set];rfl
 clear F4
 refine J1 ?_
 refine ab (bM (fun s=>Ghost prog s ⟨ax [(7,.rs 2 0 n)],aX [(2,.cells (F.map I) 3)],3⟩/\F.length=n) (w0 (α:=Nat×List Int×Bool)
  (fun s=>⟨ax [(0,.pt (dp f beh ahd c)),(3,aw O),(4,aw PL),(7,.rs 2 0 n),(8,B s.2.2)],aX [(2,.cells (s.2.1.map I) 3)],3⟩)
  (fun s=>s.2.1.length=n/\(s.2.2=true->zL (aQ beh) (aQ ahd) n F s.1 s.2.1)/\(s.2.2=false->s.2.1=F)) (fun s=>2*s.1+if s.2.2=true then 1 else 0) (n*n+2,kx n,true)
  (aE eH eH) ⟨by simp[kx],fun _=>Li,fun h=>by cases h⟩ ?_) ?_)
 .clear Li
  rintro⟨k,out,ch⟩ ⟨U2,wB,vO⟩
  dsimp only at U2 wB vO ⊢
  refine J2 ?_
  refine ab ⟨_,rfl,fun h0=>?_,fun h=>?_⟩
  .have hS:=wB h0
   obtain⟨yj,eW,pj⟩:=zK _ _ hS
   obtain⟨_,sD⟩:=sD _ _ hS
   subst hT
   refine ws ?_;refine J1 ?_
   refine ab (aq ?_)
   have atN:T.length+1<=n:=by simpa using nL
   have U3:(0::T).length=T.length+1:=rfl
   refine j4 ?_
   refine aF (wZ rfl V.h V.h rfl rfl rfl) ak ⟨V.h,by omega,by omega,by omega⟩ ?_
   refine iL ?_;refine J0 ?_
   simp only[List.tail_cons] at sD
   refine ab (eX (α:=Nat)
    (fun j=>⟨ax [(0,.pt (dp f beh ahd c)),(3,aw (0::T)),(4,aw PL),(7,.rs 2 0 n),(8,B ((T.take j).foldl (iZ PL (aQ ahd)) (out,false)).2),(46,aw T),(47,I T.length),(48,I j)],aX [(2,.cells (((T.take j).foldl (iZ PL (aQ ahd)) (out,false)).1.map I) 3)],3⟩)
    (fun j=>j<=T.length) (fun j=>T.length - j) 0 (aE ⟨rfl,rfl,rfl,rfl,rfl,?_,?_,rfl,trivial⟩ eH) (Nat.zero_le _) ?_)
   .have e:((((0:Int)::T).length:Int) - 1).toNat=T.length:=by rw[U3];omega
    show D.sl (List.take (((((0:Int)::T).length:Int) - 1).toNat*1) (List.map I T)) ((((0:Int)::T).length:Int) - 1).toNat=aw T
    rw[e,Nat.mul_one,aw,List.take_of_length_le (by simp)]
   .exact congrArg I (by rw[U3];omega)
   intro j hj
   have bH:∀ b,T[j]? =some b->(T.take (j+1)).foldl (iZ PL (aQ ahd)) (out,false)=iZ PL (aQ ahd) ((T.take j).foldl (iZ PL (aQ ahd)) (out,false)) b:=fun b hb=>mf (f:=iZ PL (aQ ahd)) hb
   have gf:j=T.length->(T.take j).foldl (iZ PL (aQ ahd)) (out,false)=pG PL (aQ ahd) T out:=fun e=>by rw[e,List.take_length];rfl
   obtain⟨VV,pl,hV⟩:=sD j hj
   generalize (T.take j).foldl (iZ PL (aQ ahd)) (out,false)=s at bH gf hV
   obtain⟨o,fl⟩:=s
   dsimp only at hV ⊢
   obtain⟨Lk,C0,Ws,U4,kC⟩:=hV
   refine bB ?_
   refine ab ⟨_,rfl,fun h=>?_,fun h=>?_⟩
   .have aj:j<T.length:=by simpa using h
    have Wt:T[j]? =some T[j]:=List.getElem?_eq_getElem aj
    have Ll:=Lj T[j] (by simp)
    generalize T[j]=b at Wt Ll
    obtain⟨bn,rfl⟩:=Int.eq_ofNat_of_zero_le Ll.1
    have At:bn<n:=Ll.2
    have aN:=bH _ Wt
    have C':iZ PL (aQ ahd) (o,fl) (bn:Int)=if cv o bn=lQ PL o (aQ ahd bn) then(o,fl) else(o.set bn (lQ PL o (aQ ahd bn)),true):=rfl
    rw[C'] at aN
    clear C'
    refine ws ?_;refine o4 ?_;refine J3 ?_;refine er ?_;refine J3 ?_
    have Da:ahd[bn]? =some (aQ ahd bn):=Ht oG
    have Aa:=A6 hg bn
    have bj:=rG bn
    have F1:=fun a=>(hg.Lm bn a).1
    refine ab (aC (aq ?_))
    generalize aQ ahd bn=l at Da Aa F1 aN bj
    have gj:∀ i,(l.take i).foldl (ky PL o) (-1)= -1\/∃ q:Nat,(l.take i).foldl (ky PL o) (-1)=q/\VV q:=fun i=>by
     exact U4 (l.take i) fun a h=>Aa a (List.mem_of_mem_take h)
    refine uC ?_;refine uB ?_;refine aG ?_;refine gM ?_;refine iL ?_;refine J0 ?_
    refine ab (bM (fun s=>Ghost prog s ⟨ax [(0,.pt (dp f beh ahd c)),(3,aw (0::T)),(4,aw PL),(7,.rs 2 0 n),(8,B fl),(10,I bn),(11,I (lQ PL o l)),(46,aw T),(47,I T.length),(48,I j)],aX [(2,.cells (o.map I) 3)],3⟩) (eX (α:=Nat)
     (fun i=>⟨ax [(0,.pt (dp f beh ahd c)),(3,aw (0::T)),(4,aw PL),(7,.rs 2 0 n),(8,B fl),(10,I bn),(11,I ((l.take i).foldl (ky PL o) (-1))),(46,aw T),(47,I T.length),(48,I j),(58,aw l),(59,I l.length),(60,I i)],aX [(2,.cells (o.map I) 3)],3⟩)
     (fun i=>i<=l.length) (fun i=>l.length - i) 0 (aE eH eH) (Nat.zero_le _) ?_) ?_)
    .intro i hi
     have lj:∀ a,l[i]? =some a->(l.take (i+1)).foldl (ky PL o) (-1)=ky PL o ((l.take i).foldl (ky PL o) (-1)) a:=fun a ha=>mf ha
     have rz:i=l.length->(l.take i).foldl (ky PL o) (-1)=lQ PL o l:=fun e=>by rw[e,List.take_length];rfl
     have gj:=gj i
     generalize (l.take i).foldl (ky PL o) (-1)=nx at gj lj rz
     refine bB ?_
     refine ab ⟨_,rfl,fun h=>?_,fun h=>?_⟩
     .have jZ:i<l.length:=by simpa using h
      have Ln:l[i]? =some l[i]:=List.getElem?_eq_getElem jZ
      have Lo:=List.getElem_mem jZ
      generalize l[i]=a at Ln Lo
      have uy:=F1 a Lo
      have lj:=lj a Ln
      obtain⟨an,rfl⟩:=Int.eq_ofNat_of_zero_le uy.1
      have Wu:an<n:=uy.2.1
      refine ws ?_;refine o4 ?_;refine J3 ?_
      refine ab (aC (ag ?_))
      have Ax:o[an]? =some (cv o an):=by
       have:=List.getElem?_eq_getElem (show an<o.length by omega)
       rw[this];simp[cv,List.getD_eq_getElem?_getD,this]
      have kd:=gn (f:=I) Ax
      have C':ky PL o nx (an:Int)=if cv o an= -1 then nx else if nx= -1 then(an:Int) else sE PL o (2*PL.length) nx an:=rfl
      rw[C'] at lj
      clear C'
      have Lq:=Ws an
      generalize cv o an=v at Ax kd lj Lq
      refine cL ?_;refine eI ?_;refine p9 ?_;refine J8 ?_
      refine ab (bp rfl (fun h=>n5 (tw ?_)) fun h=>b8 (aC (ag ?_)))
      .have hv:v= -1:=by simpa using h
       rw[if_pos hv] at lj
       refine cr ?_
       refine ab (aK (i+1) (aE ⟨rfl,rfl,rfl,rfl,rfl,rfl,?_,rfl,rfl,rfl,rfl,rfl,rfl,trivial⟩ eH) oG oG)
       rw[lj];rfl
      .have hv:¬ v= -1:=by simpa using h
       have va:=Lq hv
       rw[if_neg hv] at lj
       clear Lq kd Ax
       refine J0 ?_;refine J8 ?_
       refine ab (bp rfl (fun h=>aC (ag ?_)) fun h=>Xq ?_)
       .have hx:nx= -1:=by simpa using h
        rw[if_pos hx] at lj
        refine iF ?_
        refine ab (n5 (tw ?_))
        refine cr ?_
        refine ab (aK (i+1) (aE ⟨rfl,rfl,rfl,rfl,rfl,rfl,?_,rfl,rfl,rfl,rfl,rfl,rfl,trivial⟩ eH) oG oG)
        rw[lj];rfl
       .have hx:¬ nx= -1:=by simpa using h
        rw[if_neg hx] at lj
        obtain⟨q,rfl,vq⟩:=gj.resolve_left hx
        have lj:(l.take (i+1)).foldl (ky PL o) (-1)=sE PL o (2*n) q an:=by rw[lj,Cf]
        have hvq:=C0 q vq
        have Db:=C0 an va
        refine w0 (α:=Nat×Nat×Nat)
         (fun s=>⟨ax [(0,.pt (dp f beh ahd c)),(3,aw (0::T)),(4,aw PL),(7,.rs 2 0 n),(8,B fl),(10,I bn),(11,I s.2.1),(13,I s.2.2),(46,aw T),(47,I T.length),(48,I j),(58,aw l),(59,I l.length),(60,I i)],aX [(2,.cells (o.map I) 3)],3⟩)
         (fun s=>VV s.2.1/\VV s.2.2/\pl s.2.1+pl s.2.2<s.1/\(l.take (i+1)).foldl (ky PL o) (-1)=sE PL o s.1 s.2.1 s.2.2) (fun s=>s.1) (2*n,q,an)
         (aE eH eH) ⟨vq,va,by dsimp only;omega,lj⟩ ?_
        clear vq va hvq Db lj hv hx Ln Lo uy Wu
        rintro⟨k,x,a⟩ ⟨vx,va,rC,fR⟩
        dsimp only at vx va rC fR ⊢
        refine gL ?_;refine jC ?_
        refine ab ⟨_,rfl,fun h=>?_,fun h=>?_⟩
        .have aA:¬ (x:Int)=a:=by simpa using h
         obtain⟨k,rfl⟩:∃ k',k=k'+1:=⟨k - 1,by omega⟩
         rw[sE,if_neg aA] at fR
         have hxn:=C0 x vx
         have Wu:=C0 a va
         have kC:=kC x a vx va oG
         have hpx:PL[x]? =some (kH PL x):=by
          have:=List.getElem?_eq_getElem (show x<PL.length by omega)
          rw[this];simp[kH,List.getD_eq_getElem?_getD,this]
         have FU:PL[a]? =some (kH PL a):=by
          have:=List.getElem?_eq_getElem (show a<PL.length by omega)
          rw[this];simp[kH,List.getD_eq_getElem?_getD,this]
         have n1:o[x]? =some (cv o x):=by
          have:=List.getElem?_eq_getElem (show x<o.length by omega)
          rw[this];simp[cv,List.getD_eq_getElem?_getD,this]
         have Ax:o[a]? =some (cv o a):=by
          have:=List.getElem?_eq_getElem (show a<o.length by omega)
          rw[this];simp[cv,List.getD_eq_getElem?_getD,this]
         generalize kH PL x=px at hpx fR kC
         generalize kH PL a=pa at FU fR kC
         generalize cv o x=ox at n1 fR kC
         generalize cv o a=oa at Ax fR kC
         refine dP YZ ?_
         refine fc ?_;refine fc ?_;refine xR ?_
         refine bc (by simp[apartT]) (al rfl (fun h=>eO ?_) fun h=>eO ?_)
         .have ru:pa<px:=by simpa using h
          rw[if_pos ru] at fR kC
          obtain⟨y,rfl,vy,hy⟩:=kC
          have kd:=gn (f:=I) n1
          refine cL ?_;refine eI ?_;refine p9 ?_;refine J3 ?_
          refine ab (aK (k,y,a) (aE eH eH) ⟨vy,va,by dsimp only;omega,fR⟩ (Nat.lt_succ_self _))
         .have ru:¬ pa<px:=by simpa using h
          rw[if_neg ru] at fR kC
          obtain⟨y,rfl,vy,hy⟩:=kC
          have kd:=gn (f:=I) Ax
          refine cL ?_;refine eI ?_;refine p9 ?_;refine J3 ?_
          refine ab (aK (k,x,y) (aE eH eH) ⟨vx,vy,by dsimp only;omega,fR⟩ (Nat.lt_succ_self _))
        .have he:(x:Int)=a:=by simpa using h
         have hr:(l.take (i+1)).foldl (ky PL o) (-1)=x:=by
          rw[fR]
          cases k with
          |zero=>rfl
          |succ k=>rw[sE,if_pos he]
         refine cr ?_
         refine ab (aK (i+1) (aE ⟨rfl,rfl,rfl,rfl,rfl,rfl,?_,rfl,rfl,rfl,rfl,rfl,rfl,trivial⟩ eH) oG oG)
         rw[hr];rfl
     .have aZ:¬ i<l.length:=by simpa using h
      have:=rz oG
      subst this
      exact ao eH
    rintro s ue
    refine⟨_,ue,ag ?_⟩
    have U5:o[bn]? =some (cv o bn):=by
     have:=List.getElem?_eq_getElem (show bn<o.length by omega)
     rw[this];simp[cv,List.getD_eq_getElem?_getD,this]
    have kd:=gn (f:=I) U5
    generalize cv o bn=v at U5 kd aN
    generalize lQ PL o l=q at aN
    refine cL ?_;refine eI ?_;refine p9 ?_;refine J0 ?_;refine jC ?_
    refine ab (al rfl (fun h=>eO ?_) fun h=>cx ?_)
    .have aA:¬ v=q:=by simpa using h
     rw[if_neg aA] at aN
     refine cL ?_;refine J0 ?_;refine eI ?_;refine ww ?_;refine J1 ?_
     refine ab ?_
     refine cr ?_
     refine ab (aK (j+1) (aE ⟨rfl,rfl,rfl,rfl,?_,rfl,rfl,rfl,trivial⟩ ⟨?_,trivial⟩) oG oG)
     .rw[aN];rfl
     .rw[aN,List.map_set];rfl
    .have aA:v=q:=by simpa using h
     rw[if_pos aA] at aN
     refine cr ?_
     refine ab (aK (j+1) (aE ⟨rfl,rfl,rfl,rfl,?_,rfl,rfl,rfl,trivial⟩ ⟨?_,trivial⟩) oG oG)
     .rw[aN];rfl
     .rw[aN];rfl
   .have aZ:¬ j<T.length:=by simpa using h
    have hl:=gf oG
    rw[List.tail_cons, <- hl] at eW pj
    dsimp only at eW pj
    have hL:True->o.length=n:=fun _=>Lk
    clear U4 kC bH gf C0 Ws sD
    cases fl with
    |true=>exact aK (k - 1,o,true) (aE eH eH) ⟨Lk,fun _=>eW rfl,fun h=>by cases h⟩ (by dsimp only;rw[h0];simp;omega)
    |false=>exact aK (0,o,false) (aE eH eH) ⟨Lk,fun h=>Bool.noConfusion h,fun _=>(pj rfl).1⟩ (by dsimp only;rw[h0];simp)
  .have:=vO h
   subst this
   exact⟨aE eH eH,U2⟩
 rintro s ⟨Lf,Wv⟩
 refine⟨_,Lf,aq ?_⟩
 have F4:F[0]? =some (F[0]'oG):=List.getElem?_eq_getElem oG
 refine bT ?_;refine eI ?_;refine ww ?_
 refine ab (aJ (nh (i:=2) (e:=3) (cs:=(F.set 0 (-1)).map I) (l:=[(7,aw (F.set 0 (-1)))]) (ml:=[]) ?_ ⟨?_,trivial⟩ trivial) (ag ?_))
 .rw[List.map_set];rfl
 .exact(mh (by rw[c3];simp[Wv])).trans (by rw[aw,List.length_set,Wv])
 refine j4 ?_;refine fJ ?_
 refine ab (ap rfl rfl)
end Go.Proofs.Tryz.K
end
