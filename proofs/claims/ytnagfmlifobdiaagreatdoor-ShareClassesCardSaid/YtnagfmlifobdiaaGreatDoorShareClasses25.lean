/- Part 25. -/
import Derived.Test.YtnagfmlifobdiaaGreatDoorShareClasses24
set_option linter.all false
set_option maxHeartbeats 0
set_option maxRecDepth 10000
section
open Go Go.Proofs List
namespace Go.Abs
open Go.Proofs.Tryz
def tF{c:List (List Int)}{n:Int}:aH prog 51 [cr c,I n] (I (atR c n)):=by
 unfold atR;refine nB (fo f51).he (.cons (nC _) db) λM=>?_;have hlen:=(M (cr c) oS).sl.1
 have O:∀ x∈c,x.length<=9223372036854775807:=λx hx=>by
  have:=((M (cr c) oS).sl.2 (aU x) (mem_map_of_mem hx)).sl.1;unfold maxLen at this;omega
 unfold maxLen at hlen;refine bx (fo f51) (.cons (nC _) db) (Tr.s _) ?_;refine ws (SS ?_);refine af (aG (aA (SS ?_)))
 refine af (cw (λs=>(∃ nx,aP prog s ⟨aD [],λ_=>none,nx⟩)/\∀ (j:Nat) y,c[j]? =some y->(y.any λi=>i==n)=false) (cT (α:=Nat) (λk=>⟨aD [(0,cr c),(1,I n),(5,I k)],λ_=>none,0⟩)
  (λk=>k<=c.length/\∀ j y,j<k->c[j]? =some y->(y.any λi=>i==n)=false) (λk=>c.length - k) 0 (au eH) ⟨oG,λj y hj=>by omega⟩ ?_) ?_)
 .rintro k ⟨hk,C⟩;refine aQ ?_;refine af ⟨_,rfl,λh=>?_,λh=>?_⟩
  .have ao:k<c.length:=o2 h
   let⟨x,hx⟩:=o3 c k ao
   have xL:=O x (bD hx);refine aA (SS ?_)
   refine af (cT (α:=Nat) (λi=>⟨aD [(0,cr c),(1,I n),(5,I k),(6,I i)],λ_=>none,0⟩)
    (λi=>i<=x.length/\∀ j y,j<i->x[j]? =some y->y≠n) (λi=>x.length - i) 0 (au eH) ⟨oG,λj y hj=>by omega⟩ ?_)
   rintro i ⟨hi,J⟩;refine ek ?_;refine af ⟨_,rfl,λh=>?_,λh=>?_⟩
   .have X:i<x.length:=o2 h
    let⟨v,hv⟩:=o3 x i X
    refine ws (aX ?_);refine af (aB rfl (λhp=>al ?_) λhp=>cB ?_)
    .have he:v=n:=o2 hp
     subst he;refine ag ?_;refine af (bj (bP (bP (aY (aC rfl ?_)))));rw[yj hx (ajt hv) C];rfl
    .have he:v≠n:=o2 hp
     show aE _ _ _ _ _ _ _ _ _;refine ax ?_;refine af (aW (i+1) (au eH) ⟨oG,λj y hj hy=>?_⟩ oG);by_cases e:j=i
     .subst e;rw[hv] at hy;cases hy;exact he
     .exact J j y oG hy
   .have U:¬ i<x.length:=o2 h
    show aE _ _ _ _ _ _ _ _ _;refine ax ?_;refine af (aW (k+1) (au eH) ⟨oG,λj y hj hy=>?_⟩ oG);by_cases e:j=k
    .subst e;rw[hx] at hy;cases hy;rw[Bool.eq_false_iff];intro hc;have:n∈x:=o2 hc
     let⟨q,hq⟩:=cV this;exact J q n (by have:=(bQ.1 hq).1;omega) hq rfl
    .exact C j y oG hy
  .have U:¬ k<c.length:=o2 h
   exact⟨⟨0,au aa⟩,λj y hy=>C j y (by have:=(bQ.1 hy).1;omega) hy⟩
 .rintro s ⟨⟨nx,hg⟩,C⟩;refine⟨_,hg,al ?_⟩;refine SS ?_;refine af (aC rfl ?_);rw[Bf C];rfl
def Zy{P:Program}{f:FuncId}{args C:List D}{r:D}(hc:aH P f C r)(hl:C.length=args.length)(h:∀ (k:Nat) (d d':D),args[k]? =some d->C[k]? =some d'->Wk d d')(ht:∀ a∈args,Tr a):aH P f args r:=by
 refine⟨hc.1,ht,λF w vs M hR=>hc.2.2 F w vs M ⟨by rw[hR.1,hl],λk d' v J hv=>?_⟩⟩;have hk:k<args.length:=by have:=(bQ.1 J).1;omega
 exact h k args[k] d' (aO hk) J F _ w v (hR.2 k args[k] v (aO hk) hv)
def akB(l:List az):M0 l []=(dK l).2:=by
 unfold M0;by_cases h:(dK l).2=0
 .rw[ba h,h];rfl
 .rw[ai h]
def yv(n k:Nat):Int:=if n<k then(n:Int) else -1
def ajv{κ:Type}[DecidableEq κ]{ks:List κ}{a k:Nat}(hk:k<ie ks a)(ha:a<=ks.length):∃ h t,ju (bT ks) a k=h::t/\h<a/\(bT ks).getD h 0=k:=by
 let⟨j,hj⟩:=akG (ks:=ks.take a) (n:=k) hk;have M:j<(bT (ks.take a)).length:=(bQ.1 hj).1;have C:j<a:=by rw[Fo,length_take] at M;omega
 have J:(bT ks).getD j 0=k:=by
  rw[<- aba,getElem?_take,ba C] at hj;exact mW hj
 have hm:j∈ju (bT ks) a k:=mem_filter.2 ⟨mem_range.2 C,beq_iff_eq.2 J⟩;cases hc:ju (bT ks) a k with
 |nil=>rw[hc] at hm;cases hm
 |cons h t=>
  have:h∈ju (bT ks) a k:=by rw[hc];exact mem_cons_self ..
  have:=mem_filter.1 this;exact⟨h,t,rfl,mem_range.1 this.1,o2 this.2⟩
def ae1{l:List az}(C:Gl l):aH prog 46 [bS l,.z] (I (dK l).2):=by
 have h:=EE (p:=[]) C oS;rw[akB] at h;refine Zy h rfl (λk d d' h1 h2=>?_) (.cons (kV l) (.cons .z .nil))
 match k with
 |0=>simp at h1 h2;subst h1 h2;exact λ_ _ _ _ h=>h
 |1=>simp at h1 h2;subst h1 h2;exact DV
 |k+2=>simp at h1
def Ko{l:List az}(hF:Gl l):aH prog 17 [bS l] (.bu [pI l,I (dK l).2]):=by
 have EE:=ae1 hF
 have bE:Tr (pI l):=by
  unfold pI;split
  .exact nC _
  .exact .z
 refine bx (fo f17) (.cons (kV l) .nil) (.bu (.cons bE db)) ?_;refine ws (ag ?_);apply er;have hD:pI l=if(dK l).2=0 then cr (Ht l) else .z:=rfl
 have cu:(dK l).2=0->lF l:=FQ;generalize (dK l).2=e at*
 refine ax ?_;refine af (aG (al (ag ?_)));refine af (cM rfl (λh=>aG (al ?_)) λh=>cI (al ?_))
 .have h:e≠0:=o2 h
  rw[ai h] at hD;rw[hD];refine ax ?_;exact af (de (fB rfl rfl rfl))
 have h:e=0:=o2 h
 rw[ba h] at hD;have hL:=cu h;subst h;rw[hD];clear cu hD bE EE;have O7:=O7 hL;obtain⟨J,RI⟩:∃ J:List (List Bool),J=(range l.length).map λa=>(range l.length).map λb=>pK l a b:=⟨_,rfl⟩
 have pr:J.length=l.length:=by rw[RI];simp
 have X:Hs l.length (pK l)=.sl (J.map lA) J.length:=by rw[pr,RI];simp[Hs]
 rw[X] at O7;refine ax ?_;refine af (aA ?_);clear O7;refine SS ?_;refine af ⟨_,.oY _ _ _ 6 43 rfl,aG (aA ?_)⟩;refine SS ?_;let⟨ks,iD,rZ⟩:=abU (WG l);rw[pJ] at iD;have rZ:AX l=bT ks:=rZ;have zB:=hL.len;have P7:Ht l=CY (bT ks) (cm ks).length:=by rw[Ht,rZ,GG]
 have nS:∀ {h a:Nat},h<l.length->a<l.length->∃ O8:List Bool,J[h]? =some O8/\O8[a]? =some (!((bT ks).getD h 0==(bT ks).getD a 0)):=λ{h a} hh ha=>by
  refine⟨(range l.length).map λb=>pK l h b,by rw[RI];simp[hh],?_⟩;rw[getElem?_map,getElem?_range ha];show some (pK l h a)=_;rw[pK,rZ]
 rw[P7];clear P7 RI X;rw[<- iD] at pr nS;have gu:l.length=ks.length:=iD.symm
 refine af (cw (λs=>∃ j m nx ρ,aP prog s ⟨aD [(6,.rs j 0 (ie ks ks.length))],m,nx⟩/\eW m nx j (ie ks ks.length) 43 3 ρ (λk=>(a7 (ju (bT ks) ks.length k)).map I)) (cT (α:=Nat×Nat×Mem×Nat)
  (λs=>⟨aD [(0,bS l),(5,.sl (J.map lA) J.length),(6,.rs s.2.1 0 (ie ks s.1)),(7,I s.1)],s.2.2.1,s.2.2.2⟩)
  (λs=>s.1<=ks.length/\∃ ρ,eW s.2.2.1 s.2.2.2 s.2.1 (ie ks s.1) 43 3 ρ (λk=>(a7 (ju (bT ks) s.1 k)).map I)) (λs=>ks.length - s.1) (0,0,_,1)
  (au eH) ⟨Nat.zero_le _,λ_=>0,eW.nil rfl oM⟩ ?_) ?_)
 .rintro⟨i,j,m,nx⟩ ⟨hi,ρ,C⟩;dsimp only at hi C ⊢;refine aQ ?_;refine af ⟨_,rfl,λh=>?_,λh=>?_⟩
  .have gh:i<ks.length:=by
    have:i<l.length:=o2 h
    omega
   clear h;let⟨c1,sf⟩:=aek gh;have nV:=aej (clq:=bT ks) (i:=i) rfl;have Ut:=aaH (bT ks) i ((bT ks).getD i 0);have DR:∀ k,ie ks i<=k->ju (bT ks) i k=[]:=λk hk=>abT hi hk;have aeS:∀ k,k<ie ks i->∃ h t,ju (bT ks) i k=h::t/\h<i/\(bT ks).getD h 0=k:=λk hk=>ajv hk hi;have avx:ie ks i<=1000:=by have:=BI (ks.take i);simp[ie] at this ⊢;omega
   have nS:=λ(h:Nat) (hh:h<ks.length)=>nS hh gh;generalize hn:(bT ks).getD i 0=n at*
   generalize hc:ie ks i=c at*
   generalize ju (bT ks) i=L at*
   have cW:=C.mY;have aF:=C.row;have tC:(jL ρ (λk=>(a7 (L k)).map I) c).length=c:=by simp
   refine ws (SS ?_);refine af (aG (aA (SS ?_)))
   refine af (cw (λs=>aP prog s ⟨aD [(0,bS l),(5,.sl (J.map lA) J.length),(6,.rs j 0 c),(7,I i),(8,I (yv n c))],m,nx⟩) (cT (α:=Nat)
    (λk=>⟨aD [(0,bS l),(5,.sl (J.map lA) J.length),(6,.rs j 0 c),(7,I i),(8,I (yv n k)),(9,I k)],m,nx⟩)
    (λk=>k<=c) (λk=>c - k) 0 (au eH) (Nat.zero_le _) ?_) ?_)
   .intro k hk;refine aQ ?_;refine af ⟨_,rfl,λh=>?_,λh=>?_⟩
    .have En:k<c:=o2 h
     clear h;let⟨hd,tl,U,hdi,hdc⟩:=aeS k En;let⟨O8,tg,qW⟩:=nS hd oG;rw[hdc] at qW;have M:(a7 (L k)).map I≠[]:=by rw[U];simp
     have fJ:=C.rR k En M;let⟨cs,kd⟩:=Bi (ρ:=ρ) (L:=λk=>(a7 (L k)).map I) En;rw[sU M] at kd;have F8:(a7 (L k)).map I=I hd::(a7 tl).map I:=by rw[U];rfl
     have avm:((a7 (L k)).map I).length=tl.length+1:=by rw[U];simp
     rw[avm] at kd;rw[F8] at fJ;refine ws (bh ?_);refine aI (MM rfl rfl fJ V.h V.h) ak ⟨V.h,oG,oG⟩ (aI (fh rfl fJ rfl V.h) ak (fj V.h V.h rfl) (cz ?_));refine af (aB rfl (λhp=>kU ?_) λhp=>cB ?_)
     .have e:k=n:=o2 hp
      have h1:yv n (k+1)=k:=by rw[yv,ba oG];omega
      refine ag ?_;apply af;show aE _ _ _ _ _ _ _ _ _;refine ax ?_;refine af (aW (k+1) (au ⟨rfl,rfl,rfl,rfl,?_,rfl,aa⟩) oG oG);exact congrArg I h1.symm
     .have e:¬ k=n:=o2 hp
      have h1:yv n (k+1)=yv n k:=by
       unfold yv;have:n<k+1↔n<k:=by omega
       simp[this]
      show aE _ _ _ _ _ _ _ _ _;refine ax ?_;refine af (aW (k+1) (au ⟨rfl,rfl,rfl,rfl,?_,rfl,aa⟩) oG oG);exact congrArg I h1.symm
    .have bt:¬ k<c:=o2 h
     have:k=c:=by omega
     subst this;exact au eH
   .intro s hg;refine⟨_,hg,al ?_⟩;clear hg;by_cases e:n=c
    .rw[ba e] at sf;subst e;have wv:yv n n= -1:=by rw[yv,ai oG]
     rw[wv];refine ag ?_;refine af (DC (kU ?_));refine aQ ?_;refine eT (eQ rfl (ay oG (ay oG aF)) rfl V.h V.h (fZ l3 rfl) rfl) ak ⟨V.h,rfl,cd,oC,c0,cD,(by rw[Ez];first|omega|(simp;omega)),da⟩ (SS ?_);apply af;show aE _ _ _ _ _ _ _ _ _;refine ax ?_;have hLn:=DR n (bY _);refine af (aW (i+1,nx+2,up (up (up (up m nx (some (.cells [I i] 3))) (nx+1) (some (.cells [.rs nx 0 1] 43))) j none) (nx+2) (some (.cells (jL ρ (λk=>(a7 (L k)).map I) n++[.rs nx 0 1]) 43)),nx+3) (vf ⟨rfl,rfl,?_,rfl,aa⟩ rfl) ⟨oM,up ρ n nx,?_⟩ oM)
     .exact congrArg (λx=>D.rs (nx+2) 0 x) sf.symm
     dsimp only;rw[nV,sf,hLn];refine C.push oS (bY _) oG oG oG oG l3 ?_ λq hq qY=>?_
     .rw[ay oG (ay oG (ay oG l3))];rfl
     .exact ay oG (ay qY (ay oG (ay oG rfl)))
    .rw[ai e] at sf;have O:n<c:=by omega
     have wv:yv n c=n:=by rw[yv,ba O]
     rw[wv];let⟨hd,tl,U,_,_⟩:=aeS n O;have M:(a7 (L n)).map I≠[]:=by rw[U];simp
     have Hq:(a7 (L n)).length<=i:=o2 Ut
     let⟨cs,kd⟩:=Bi (ρ:=ρ) (L:=λk=>(a7 (L k)).map I) O;have Bz:jc (ρ n) ((a7 (L n)).map I)=.rs (ρ n) 0 (a7 (L n)).length:=by rw[sU M,length_map]
     rw[Bz] at kd;have fJ:=C.rR n O M;have Kk:=C.lt n O M;have Kl:=C.ne n O M;have rO:decide ((n:Int)<0)=false:=decide_eq_false oG;refine ag ?_;refine af (Gf (kU ?_));clear rO;refine aX ?_;refine ag ?_;apply af;show aE _ _ _ _ _ _ _ _ _;refine ax ?_;refine af (aW (i+1,j,up (up (up (up m nx (some (.cells [I i] 3))) (ρ n) none) (nx+1) (some (.cells ((a7 (L n)).map I++[I i]) 3))) j (some (.cells ((jL ρ (λk=>(a7 (L k)).map I) c).set n (.rs (nx+1) 0 ((a7 (L n)).length+1))) 43)),nx+2) (au ⟨rfl,rfl,?_,rfl,aa⟩) ⟨oM,up ρ n (nx+1),?_⟩ oM)
     .exact congrArg (λx=>D.rs j 0 x) sf.symm
     dsimp only;rw[nV,sf];refine C.EC O oS oG oG ?_ ?_ (λq hq qY qd=>?_)
     .have e:((a7 (L n)++[(i:Int)]).map I).length=(a7 (L n)).length+1:=by simp
      rw[e];exact aw _ _ _
     .rw[map_append];exact ay oG l3
     .have:=qd M;exact ay oG (ay oG (ay oG (ay oG rfl)))
  .have bt:¬ i<l.length:=o2 h
   have:i=ks.length:=by omega
   subst this;exact⟨j,m,nx,ρ,au eH,C⟩
 .rintro s ⟨j,m,nx,ρ,hg,C⟩;have wq:ie ks ks.length=(cm ks).length:=by rw[ie,take_length]
  rw[wq] at hg C;have qf:¬ ∃ i,i<(cm ks).length/\(a7 (ju (bT ks) ks.length i)).map I≠[]/\ρ i=j:=λ⟨i,h1,h2,h3⟩=>C.ne i h1 h2 h3;refine⟨_,hg.trans (HW (l:=[(6,.rs j 0 (cm ks).length)]) (ml:=[]) (λr=>∃ i,i<(cm ks).length/\(a7 (ju (bT ks) ks.length i)).map I≠[]/\ρ i=r) C (λ_=>.map) c3 (λi h1 h2=>⟨i,h1,h2,rfl⟩) qf ⟨rfl,aa⟩ (λx hx=>?_) aa (λx hx=>by cases hx)),aA ?_⟩
  .simp at hx;subst hx;exact .rs qf
  refine ax ?_;refine af (br (cH [(j,_,43)] ⟨EB,aa⟩ (l:=[(2,cr (CY (bT ks) (cm ks).length)),(3,I 0)]) ⟨?_,rfl,aa⟩) (fB rfl rfl rfl));show sub (dq j _ (prog.cellsOf 43)) (D.rs j 0 (cm ks).length)=_;rw[lS (by rw[ly];simp),Lv,aeN,Fo]
section
def vB(c:List (List Int))(n:Nat)(x:List Int):Bool:=decide (0<x.length)&&(decide (n=0)||decide ((c.getD (n - 1) []).headD 0<x.headD 0))
def rI(N:Nat)(c:List (List Int))(n:Nat)(x:List Int)(k:Nat):Bool:=match x[k]? with
 |none=>true
 |some i=>decide (0<=i)&&(decide (i<N)&&((decide (k=0)||decide (x.getD (k - 1) 0<i))&&(atR c i==(n:Int))))
def pR(N:Nat)(c:List (List Int))(n:Nat):Bool:=match c[n]? with
 |none=>true
 |some x=>vB c n x&&(range x.length).all (rI N c n x)
def xY(c:List (List Int))(p q:List Nat)(m:Nat):Bool:=atR c (p.getD m 0:Nat)==atR c (q.getD m 0:Nat)
def yW(sn:List Nat)(ca:List (List Nat))(c:List (List Int))(x:List Int)(k:Nat):Bool:=
 sn.getD (x.headD 0).toNat 0==sn.getD (x.getD k 0).toNat 0&&(range (ca.getD (x.headD 0).toNat []).length).all (xY c (ca.getD (x.headD 0).toNat []) (ca.getD (x.getD k 0).toNat []))
def wM(sn:List Nat)(ca:List (List Nat))(c:List (List Int))(x:List Int):Bool:=(range (x.length - 1)).all λk=>yW sn ca c x (k+1)
def rE(c:List (List Int)):Nat:=(c.map length).sum
def uT(sn:List Nat)(ca:List (List Nat))(c:List (List Int)):Bool:=
 (range c.length).all (pR ca.length c)&&(decide (rE c=ca.length)&&c.all (wM sn ca c))
variable{c:List (List Int)}{n:Nat}{x:List Int}{i:Int}
def aes(hx:c[n]? =some x)(hi:i∈x)(h:∀ j y,j<n->c[j]? =some y->i∉y):atR c i=n:=
 yj hx (o2 hi) λj y hj hy=>by
  rw[any_eq_false];intro z hz;rw[beq_iff_eq];rintro rfl;exact h j y hj hy hz
def arb(hx:c[n]? =some x)(hi:i∈x)(h:atR c i=n):∀ j y,j<n->c[j]? =some y->i∉y:=λj y hj hy hm=>by
 unfold atR rQ at h;cases hf:c.findIdx? (λx=>x.any λi'=>i'==i) with
 |none=>rw[findIdx?_eq_none_iff] at hf;exact absurd (hf y (bD hy)) (by rw[Bool.not_eq_false];exact any_eq_true.2 ⟨i,hm,oS⟩)
 |some k=>
  rw[hf] at h;have h:(k:Int)=n:=h;let⟨hk,hp,hq⟩:=findIdx?_eq_some_iff_getElem.1 hf;have:=hq j oG;have C:=(bQ.1 hy).1
  have e:c[j]=y:=by
   have:=aO C;rw[hy] at this;exact(Option.some.inj this).symm
  rw[e] at this;exact this (any_eq_true.2 ⟨i,hm,oS⟩)
def Yd:jv (entries (c.take n)) i=true↔∃ j y,j<n/\c[j]? =some y/\i∈y:=by
 rw[VN];constructor
 .rintro⟨k,hk⟩;let⟨x,hx,hi⟩:=GD.1 hk;rw[getElem?_take] at hx;split at hx
  .exact⟨k,x,oN,hx,hi⟩
  .cases hx
 .rintro⟨j,y,hj,hy,hi⟩;exact⟨j,GD.2 ⟨y,by rw[getElem?_take,ba hj];exact hy,hi⟩⟩
def arc(h:∀ k i,k<x.length->x[k+1]? =some i->x.getD k 0<i):∀ {a b:Nat} {u v:Int},a<b->x[a]? =some u->x[b]? =some v->u<v:=by
 intro a b u v M ha hb
 induction b generalizing v with
 |zero=>omega
 |succ b ih=>
  have J:=(bQ.1 hb).1;let⟨w,C⟩:=o3 x b oG
  have h1:=h b v oG hb;rw[mW C] at h1;by_cases e:a=b
  .subst e;rw[ha] at C;cases C;exact h1
  .have:=ih oG C;omega
variable{N:Nat}
def au9:qE N c n=pR N c n:=by
 unfold qE pR;cases hx:c[n]? with
 |none=>rfl
 |some x=>
  dsimp only;rw[Bool.eq_iff_iff,aJ,aJ,bK,bK];constructor
  .rintro⟨h1,h2⟩
   have C:∀ (k:Nat) (i:Int),x[k]? =some i->jv (entries (c.take n)++(x.take k).map λj=>(j,n)) i=false/\0<=i/\i<N/\(k=0\/x.getD (k - 1) 0<i):=λk i hi=>by
    have:=h2 k (mem_range.2 (bQ.1 hi).1);rw[wl,hi] at this;simpa using this
   refine⟨?_,λk hk=>?_⟩
   .unfold BM at h1;cases x with
    |nil=>cases h1
    |cons a x=>
     unfold Ae at h1;unfold vB;simp at h1 ⊢;by_cases e:n=0
     .exact .inl e
     .rw[ai e] at h1;exact .inr h1
   .unfold rI;cases hi:x[k]? with
    |none=>rfl
    |some i=>
     let⟨J,e2,e3,e4⟩:=C k i hi
     have:atR c i=n:=aes hx (bD hi) λj y hj hy hm=>by
      have:jv (entries (c.take n)) i=true:=Yd.2 ⟨j,y,hj,hy,hm⟩;unfold jv at J this;rw[any_append,this] at J;cases J
     simp[e2,e3,this];exact e4
  .rintro⟨h1,h2⟩
   have C:∀ (k:Nat) (i:Int),x[k]? =some i->0<=i/\i<N/\(k=0\/x.getD (k - 1) 0<i)/\atR c i=n:=λk i hi=>by
    have:=h2 k (mem_range.2 (bQ.1 hi).1);rw[rI,hi] at this;simpa using this
   refine⟨?_,λk hk=>?_⟩
   .unfold vB at h1;unfold BM;cases x with
    |nil=>simp at h1
    |cons a x=>
     unfold Ae;simp at h1 ⊢;by_cases e:n=0
     .rw[ba e];have:=(C 0 a rfl).1;omega
     .rw[ai e];rcases h1 with h1|h1
      .exact absurd h1 e
      .exact h1
   .unfold wl;cases hi:x[k]? with
    |none=>rfl
    |some i=>
     let⟨e2,e3,e4,e5⟩:=C k i hi;have O:=arb hx (bD hi) e5
     have:jv (entries (c.take n)++(x.take k).map λj=>(j,n)) i=false:=by
      rw[Bool.eq_false_iff];intro h;rw[jv,any_append,Bool.or_eq_true] at h;rcases h with h|h
      .let⟨j,y,hj,hy,hm⟩:=Yd.1 h;exact O j y hj hy hm
      .simp only[any_map,any_eq_true,Function.comp_apply,beq_iff_eq] at h;obtain⟨j,hj,rfl⟩:=h;let⟨q,hq⟩:=cV hj
       have M:q<k:=by
        have:=(bQ.1 hq).1;rw[length_take] at this;omega
       rw[getElem?_take,ba M] at hq;have:=arc (λk i hk hi=>by rcases(C (k+1) i hi).2.2.1 with h|h;(cases h);exact h) M hq hi;omega
     dsimp only;rw[this,decide_eq_true e2,decide_eq_true e3];simpa using e4
def Yi(c:List (List Int)):(entries c).length=rE c:=by
 rw[entries,rE,length_flatMap]
 have:∀ (l:List (List Int)) (k:Nat),((l.zipIdx k).map λx=>(x.1.map λi=>(i,x.2)).length)=l.map length:=by
  intro l
  induction l with
  |nil=>intro k;rfl
  |cons x l ih=>intro k;rw[zipIdx_cons,map_cons,map_cons,ih];simp
 rw[this]
def au'(h:WE N c)(hl:(entries c).length=N){t:Nat}(ht:t<N):atR c (t:Int)=(gH (entries c) t:Nat):=by
 let⟨n,hn⟩:=ajF h hl ht;rw[VO h.nodup hn];let⟨x,hx,hi⟩:=GD.1 hn;refine aes hx hi λj y hj hy hm=>?_;have h2:=VO h.nodup (GD.2 ⟨y,hy,hm⟩);rw[VO h.nodup hn] at h2;omega
def apD{sn:List Nat}{ca:List (List Nat)}(X:JD ca)(hlen:adw sn ca):uT sn ca c=tE sn ca c:=by
 unfold uT tE
 have U:(range c.length).all (pR ca.length c)=(range c.length).all (qE ca.length c):=by
  congr 1;funext n;exact au9.symm
 rw[U,Yi];rcases Bool.eq_false_or_eq_true ((range c.length).all (qE ca.length c)) with h1|h1
 case inr=>rw[h1];rfl
 by_cases h2:rE c=ca.length
 case neg=>rw[decide_eq_false h2];simp
 rw[h1,decide_eq_true h2,Bool.true_and,Bool.true_and,Bool.true_and,Bool.true_and];have hr:=S' h1 c.length (bY _);rw[take_length] at hr
 have hP:WE ca.length c:=⟨hr.1,hr.2,λx hx e=>by
  let⟨n,hn⟩:=cV hx;have hr:=bK.1 h1 n (mem_range.2 (bQ.1 hn).1);rw[qE,hn,e] at hr
  simp[BM] at hr⟩
 have wv:∀ {t:Nat},t<ca.length->atR c (t:Int)=(gH (entries c) t:Nat):=λht=>au' hP (by rw[Yi];exact h2) ht
 have O:∀ x∈c,∀ i∈x,0<=i/\i<ca.length:=λx hx i hi=>by
  let⟨n,hn⟩:=cV hx;exact hr.2 (i,n) (GD.2 ⟨x,hn,hi⟩)
 rw[Bool.eq_iff_iff,bK,bK];refine forall_congr' λx=>forall_congr' λhx=>?_;have xV:=hP.ne x hx
 obtain⟨a,C,rfl⟩:∃ a C,x=a::C:=by
  cases x with
  |nil=>exact absurd rfl xV
  |cons a C=>exact⟨a,C,rfl⟩
 have O:=O _ hx;have ha:=O a (mem_cons_self ..);rw[wM,yw,bK,bK]
 have key:∀ i:Int,0<=i/\i<ca.length->((sn.getD a.toNat 0==sn.getD i.toNat 0&&(range (ca.getD a.toNat []).length).all (xY c (ca.getD a.toNat []) (ca.getD i.toNat [])))=true↔CW sn ca (entries c) a i=true):=λi hi=>by
  unfold CW;simp only[aJ,beq_iff_eq,decide_eq_true_eq];constructor
  .rintro⟨g1,g2⟩;have gu:=hlen a.toNat i.toNat oG oG g1;refine⟨g1.symm,?_⟩;refine ext_getElem (by rw[length_map,length_map,gu]) λm M J=>?_;rw[length_map] at M J;have g:=bK.1 g2 m (mem_range.2 J);rw[xY,beq_iff_eq,wv (X _ _ (bD (fx (d:=0) J))),wv (X _ _ (bD (fx (d:=0) M)))] at g;have U:=fx (d:=0) M;have e2:=fx (d:=0) J;rw[aO M] at U;rw[aO J] at e2;simp only[getElem_map];rw[Option.some.inj U,Option.some.inj e2];omega
  .rintro⟨g1,g2⟩;refine⟨g1.symm,bK.2 λm hm=>?_⟩;have J:=mem_range.1 hm;have gu:=congrArg length g2;rw[length_map,length_map] at gu;have M:m<(ca.getD i.toNat []).length:=by omega
   rw[xY,beq_iff_eq,wv (X _ _ (bD (fx (d:=0) J))),wv (X _ _ (bD (fx (d:=0) M)))];have:=congrArg (λz:List Nat=>z[m]?) g2;simp only[getElem?_map,fx (d:=0) M,fx (d:=0) J,Option.map_some,bg] at this;omega
 constructor
 .intro h i hi;have hi:i∈C:=o2 hi
  let⟨k,hk⟩:=cV hi;have iD:=(bQ.1 hk).1;have:=h k (mem_range.2 (o2 iD));unfold yW at this;have e:(a::C).getD (k+1) 0=i:=mW (o2 hk);rw[e] at this;exact(key i (O i (mem_cons_of_mem _ hi))).1 this
 .intro h k hk;have iD:k<C.length:=o2 (mem_range.1 hk)
  unfold yW;have hg:(a::C)[k+1]? =some C[k]:=by simp[iD]
  rw[mW hg];have hm:C[k]∈C:=eh _;exact(key _ (O _ (mem_cons_of_mem _ hm))).2 (h _ (o2 hm))
end
section
variable{c:List (List Int)}{k:Nat}{x:List Int}
def Z3{c:List (List Int)}{k:Nat}{x:List Int}(h:c[k]? =some x):rE (c.take (k+1))=rE (c.take k)+x.length:=by
 unfold rE;rw[List.take_add_one,h];simp
def anS(h:∀ x∈c,x.length<=100000)(k:Nat):rE (c.take k)<=k*100000:=by
 induction k with
 |zero=>simp[rE]
 |succ k ih=>
  cases hx:c[k]? with
  |none=>
   have e:c.take (k+1)=c.take k:=by rw[take_add_one,hx];simp
   rw[e];exact Nat.le_trans ih (Nat.mul_le_mul_right _ (Nat.le_succ k))
  |some x=>
   rw[Z3 hx,Nat.succ_mul];exact Nat.add_le_add ih (h x (bD hx))
def apr{l:List az}(h:(dK l).2=0):Ac l c=uT (dS l) (bC l) c:=by
 have C:=FQ h;rw[Ac,ba h,apD C.B6 C.Ny]
variable{ca:List (List Nat)}
def anT{sn:List Nat}(hk:k<c.length)(h:pR ca.length c k=false):uT sn ca c=false:=by
 unfold uT
 have:(range c.length).all (pR ca.length c)=false:=by
  rw[all_eq_false];exact⟨k,mem_range.2 hk,by simp[h]⟩
 rw[this];rfl
variable{sn:List Nat}
def akT{c:List (List Int)}(h:rE c≠ca.length):uT sn ca c=false:=by
 rw[uT,decide_eq_false h];simp
def alM{sn:List Nat}{ca:List (List Nat)}(hx:x∈c)(h:wM sn ca c x=false):uT sn ca c=false:=by
 unfold uT
 have:c.all (wM sn ca c)=false:=by
  rw[all_eq_false];exact⟨x,hx,by simp[h]⟩
 rw[this];simp
def alN{N:Nat}{n:Nat}(h:c[n]? =some x)(hk:k<x.length)(he:rI N c n x k=false):pR N c n=false:=by
 rw[pR,h]
 have:(range x.length).all (rI N c n x)=false:=by
  rw[all_eq_false];exact⟨k,mem_range.2 hk,by simp[he]⟩
 dsimp only;rw[this];simp
def ajw(hk:k+1<x.length)(h:yW sn ca c x (k+1)=false):wM sn ca c x=false:=by
 rw[wM,all_eq_false];exact⟨k,mem_range.2 oG,by simp[h]⟩
end
def Kq{l:List az}{c:List (List Int)}(hF:Gl l)(wo:c.length<=100000)(me:∀ x∈c,x.length<=100000):aH prog 19 [bS l,cr c] (.bu [B (Ac l c),I (dK l).2]):=by
 have EE:=ae1 hF;have cC:=anS me;refine bx (fo f19) (.cons (kV l) (.cons (nC c) .nil)) (.bu (.cons (.s _) db)) ?_;refine ws (ag ?_);apply er;have hD:∀ e,(dK l).2=e->e≠0->Ac l c=false:=λe h h0=>by rw[Ac,ai (by rw[h];exact h0)]
 have cu:(dK l).2=0->lF l/\Ac l c=uT (dS l) (bC l) c:=λh=>⟨FQ h,apr h⟩
 have hD:=hD _ rfl;generalize (dK l).2=e at*
 refine ax ?_;refine af (aG (al (ag ?_)));refine af (cM rfl (λh=>aG (al ?_)) λh=>cI (al ?_))
 .have h:e≠0:=o2 h
  rw[hD h];refine ax ?_;exact af (de (fB rfl rfl rfl))
 have h:e=0:=o2 h
 let⟨C,hR⟩:=cu h;subst h;rw[hR];obtain⟨rv,CD⟩:∃ rv,rv=uT (dS l) (bC l) c:=⟨_,rfl⟩
 rw[<- CD];clear cu hD EE hR;have aF:=λ(k:Nat) (hk:k<c.length) (h:pR (bC l).length c k=false)=>CD.trans (anT (sn:=dS l) hk h);rw[pJ] at aF;have azu:=C.len;refine SS ?_;refine af (aG (aA (SS ?_)))
 refine af (cw (λs=>aP prog s ⟨aD [(0,bS l),(1,cr c),(7,I (rE c))],λ_=>none,0⟩/\∀ j,j<c.length->pR l.length c j=true) (cT (α:=Nat)
  (λk=>⟨aD [(0,bS l),(1,cr c),(7,I (rE (c.take k))),(8,I k)],λ_=>none,0⟩)
  (λk=>k<=c.length/\∀ j,j<k->pR l.length c j=true) (λk=>c.length - k) 0 (au eH) ⟨Nat.zero_le _,λj hj=>by omega⟩ ?_) ?_)
 .rintro k ⟨hk,O⟩;refine aQ ?_;refine af ⟨_,rfl,λh=>?_,λh=>?_⟩
  .have ao:k<c.length:=o2 h
   clear h;let⟨x,hx⟩:=o3 c k ao
   have xL:=me x (bD hx);have gM:=aF k ao;have Pg:=Z3 hx;have zu:=cC k;have xX:vB c k x=false->pR l.length c k=false:=λh=>by rw[pR,hx];dsimp only;rw[h];rfl
   refine fS (λs=>vB c k x=true/\aP prog s ⟨aD [(0,bS l),(1,cr c),(7,I (rE (c.take k))),(8,I k)],λ_=>none,0⟩) (c6 gw ?_) ?_
   .by_cases xV:x.length=0
    .have iy:((x.length:Int)==0)=true:=by simp[xV]
     refine cJ ?_;refine J41 ?_;refine J28 ?_;refine ax ?_;(iterate 4 refine z λ_ _=>?_);refine aQ ?_;(iterate 4 refine z λ_ _=>?_);refine SS ?_;refine bJ bM (DC (al ?_));cases gM (xX (by unfold vB;simp[xV]));refine ag ?_;exact af (bj (aY (bP (aY (fB rfl rfl rfl)))))
    .have iy:((x.length:Int)==0)=false:=o2 xV
     let⟨h0,tw⟩:=o3 x 0 oG
     have kP:x.headD 0=h0:=by cases x<;>simp at tw ⊢;exact tw
     cases k with
     |zero=>
      have X:vB c 0 x=true:=by unfold vB;simp;omega
      refine cJ ?_;refine J41 ?_;refine J28 ?_;(iterate 14 refine z λ_ _=>?_);refine ag ?_;refine bJ bM (Gf (cB ?_));exact⟨X,au eH⟩
     |succ k'=>
      let⟨y,hy⟩:=o3 c k' oG
      have AY:=O k' oG;rw[pR,hy] at AY;simp[aJ] at AY;have Hz:0<y.length:=by have:=AY.1;unfold vB at this;simp at this;omega
      let⟨g0,R9⟩:=o3 y 0 Hz
      have Pj:y.headD 0=g0:=by cases y<;>simp at R9 ⊢;exact R9
      have X:vB c (k'+1) x=decide (g0<h0):=by
       rw[vB,Nat.add_sub_cancel,mW hy,Pj,kP];simp;omega
      have uu:(((k'+1:Nat):Int) - 1=(k':Int))/\ -9223372036854775808<=(k':Int)/\(k':Int)<=9223372036854775807:=by omega
      have rP:decide ((0:Int)<((k'+1:Nat):Int))=true:=by simp
      refine aX ?_;refine J28 ?_;refine bh ?_;refine cF rfl rfl (IF (i:=0) rfl rfl dJ c3 R9) (λhc=>⟨(by repeat' (first|exact trivial|exact hc|exact rfl|refine And.intro ?_ ?_)),(IG dI R9)⟩) ?_;refine bh ?_;refine cF rfl rfl (IF (i:=0) rfl rfl dJ c3 tw) (λhc=>⟨(by repeat' (first|exact trivial|exact hc|exact rfl|refine And.intro ?_ ?_)),(IG dI tw)⟩) ?_;refine aQ ?_;refine bJ bM (aB rfl (λhp=>al ?_) λhp=>cB ?_)
      .cases gM (xX (by rw[X];simpa using hp));refine ag ?_;exact af (bj (aY (bP (aY (fB rfl rfl rfl)))))
      .exact⟨by rw[X];simpa using hp,au eH⟩
   .rintro s ⟨X,hg⟩;refine⟨_,hg,aA ?_⟩;clear hg xX;refine SS ?_
    have sV:(∀ m,m<x.length->rI l.length c k x m=true)->∀ j,j<k+1->pR l.length c j=true:=λh j hj=>by
     by_cases e:j=k
     .subst e;rw[pR,hx];dsimp only;rw[X,Bool.true_and,bK];exact λm hm=>h m (mem_range.1 hm)
     .exact O j oG
    generalize AZ:rE (c.take k)=sk at*
    have azQ:sk<=10000000000:=by
     have:k*100000<=100000*100000:=Nat.mul_le_mul_right _ oG;omega
    refine af (cT (α:=Nat)
     (λi=>⟨aD [(0,bS l),(1,cr c),(7,I (sk+i:Nat)),(8,I k),(9,I i)],λ_=>none,0⟩)
     (λi=>i<=x.length/\∀ m,m<i->rI l.length c k x m=true) (λi=>x.length - i) 0 (au eH) ⟨Nat.zero_le _,λm hm=>by omega⟩ ?_)
    rintro i ⟨hi,U⟩;refine ek ?_;refine af ⟨_,rfl,λh=>?_,λh=>?_⟩
    .have gh:i<x.length:=o2 h
     clear h;let⟨v,hv⟩:=o3 x i gh
     have J:rI l.length c k x i=(decide (0<=v)&&(decide (v<(l.length:Nat))&&((decide (i=0)||decide (x.getD (i - 1) 0<v))&&(atR c v==(k:Int))))):=by rw[rI,hv]
     have M:rI l.length c k x i=false->rv=false:=λh=>gM (alN hx gh h)
     have gZ:rI l.length c k x i=true->∀ m,m<i+1->rI l.length c k x m=true:=λh m hm=>by
      by_cases e:m=i
      .subst e;exact h
      .exact U m oG
     have tF:=tF (c:=c) (n:=v);refine fS (λs=>rI l.length c k x i=true/\aP prog s ⟨aD [(0,bS l),(1,cr c),(7,I (sk+i:Nat)),(8,I k),(9,I i)],λ_=>none,0⟩) (c6 gw ?_) ?_
     .by_cases h0:v<0
      .have rO:decide (v<0)=true:=decide_eq_true h0;refine ek ?_;refine J82 ?_;refine aX ?_;refine bh ?_;refine J41 ?_;refine J28 ?_;refine cz ?_;(iterate 2 refine z λ_ _=>?_);refine ek ?_;(iterate 2 refine z λ_ _=>?_);refine aX ?_;refine ax ?_;refine J45 ?_;refine SS ?_;refine bJ bM (DC (al ?_));cases M (by rw[J,decide_eq_false oG];rfl);refine ag ?_;exact af (bj (aY (bP (bP (aY (fB rfl rfl rfl))))))
      have rO:decide (v<0)=false:=decide_eq_false h0;by_cases hN:(l.length:Int)<=v
      .have xy:decide ((l.length:Int)<=v)=true:=decide_eq_true hN;refine ek ?_;refine J82 ?_;refine cJ ?_;refine ag ?_;refine ae4 ?_;refine ax ?_;refine J41 ?_;refine J28 ?_;refine cz ?_;(iterate 2 refine z λ_ _=>?_);refine ek ?_;(iterate 2 refine z λ_ _=>?_);refine aX ?_;refine ax ?_;refine J45 ?_;refine SS ?_;refine bJ bM (DC (al ?_));cases M (by rw[J,decide_eq_true oG,decide_eq_false oG];rfl);refine ag ?_;exact af (bj (aY (bP (bP (aY (fB rfl rfl rfl))))))
      have xy:decide ((l.length:Int)<=v)=false:=decide_eq_false hN;rw[decide_eq_true (show 0<=v by omega),decide_eq_true (show v<(l.length:Nat) by omega),Bool.true_and,Bool.true_and] at J;cases i with
      |zero=>
       have J:rI l.length c k x 0=(atR c v==(k:Int)):=by rw[J];rfl
       generalize atR c v=av at*
       refine ek ?_;refine J82 ?_;refine cJ ?_;refine ag ?_;refine ae4 ?_;refine ax ?_;refine J41 ?_;refine J28 ?_;(iterate 16 refine z λ_ _=>?_);refine aX ?_;refine aQ ?_;refine J45 ?_;refine SS ?_;refine bJ bM (aB rfl (λhp=>al ?_) λhp=>cB ?_)
       .have e:=M (by rw[J];simpa using hp);refine ag ?_;exact af (bj (aY (bP (bP (aY (fB rfl rfl (congrArg (λb=>D.bu [B b,I 0]) e.symm)))))))
       .exact⟨by rw[J];simpa using hp,au eH⟩
      |succ i'=>
       let⟨w,hw⟩:=o3 x i' oG
       have J:rI l.length c k x (i'+1)=(decide (w<v)&&(atR c v==(k:Int))):=by rw[J,Nat.add_sub_cancel,mW hw];simp
       have uu:(((i'+1:Nat):Int) - 1=(i':Int))/\ -9223372036854775808<=(i':Int)/\(i':Int)<=9223372036854775807:=by omega
       have rP:decide ((0:Int)<((i'+1:Nat):Int))=true:=by simp
       generalize atR c v=av at*
       refine ek ?_;refine J82 ?_;refine cJ ?_;refine ag ?_;refine ae4 ?_;refine SS ?_;clear xy;by_cases hwv:v<=w
       .have xy:decide (v<=w)=true:=decide_eq_true hwv;refine ax ?_;refine J28 ?_;refine aX ?_;refine cz ?_;refine ae4 ?_;refine aX ?_;refine aQ ?_;refine J45 ?_;refine SS ?_;refine bJ bM (DC (al ?_));cases M (by rw[J,decide_eq_false oG];rfl);refine ag ?_;exact af (bj (aY (bP (bP (aY (fB rfl rfl rfl))))))
       .have xy:decide (v<=w)=false:=decide_eq_false hwv;refine ax ?_;refine J28 ?_;refine aX ?_;refine cz ?_;refine ae4 ?_;refine aX ?_;refine aQ ?_;refine J45 ?_;refine SS ?_;refine bJ bM (aB rfl (λhp=>al ?_) λhp=>cB ?_)
        .cases M (by rw[J,decide_eq_true oG];simpa using hp);refine ag ?_;exact af (bj (aY (bP (bP (aY (fB rfl rfl rfl))))))
        .exact⟨by rw[J,decide_eq_true oG];simpa using hp,au eH⟩
     .rintro s ⟨hm,hg⟩;refine⟨_,hg,kU ?_⟩;clear hg;refine ax ?_;apply af;show aE _ _ _ _ _ _ _ _ _;refine ax ?_;exact af (aW (i+1) (au eH) ⟨oG,gZ hm⟩ oG)
    .have bt:¬ i<x.length:=o2 h
     have:i=x.length:=by omega
     subst this;show aE _ _ _ _ _ _ _ _ _;refine ax ?_;refine af (aW (k+1) (au ⟨rfl,rfl,?_,rfl,aa⟩) ⟨oG,sV λm hm=>U m hm⟩ oG);rw[Pg];rfl
  .have bt:¬ k<c.length:=o2 h
   have:k=c.length:=by omega
   subst this;rw[take_length];exact⟨au eH,O⟩
 .rintro s ⟨hg,O⟩;refine⟨_,hg,aG (al ?_)⟩;clear hg aF;refine aQ ?_;refine af (cM rfl (λhp=>aG (al ?_)) λhp=>cI (aG (aA ?_)))
  .cases CD.trans (akT (c:=c) (by rw[pJ];intro e;rw[e] at hp;simp at hp));refine ag ?_;exact af (de (fB rfl rfl rfl))
  have aw4:rE c=l.length:=by
   have:(rE c:Int)=l.length:=o2 hp
   omega
  clear hp cC
  have cR:∀ {k:Nat} {x:List Int},c[k]? =some x->0<x.length/\∀ (i:Nat) v,x[i]? =some v->∃ p:Nat,v=p/\p<l.length:=fun {k x} hx=>by
   have h:=O k (bQ.1 hx).1;rw[pR,hx] at h;simp only[aJ] at h;refine⟨by have:=h.1;unfold vB at this;simp at this;omega,λi v hv=>?_⟩;have:=bK.1 h.2 i (mem_range.2 (bQ.1 hv).1);rw[rI,hv] at this;simp only[aJ,decide_eq_true_eq] at this;exact⟨v.toNat,oG,oG⟩
  have avn:=λ(x:List Int) (hx:x∈c) (h:wM (dS l) (bC l) c x=false)=>CD.trans (alM (sn:=dS l) (ca:=bC l) hx h);refine SS ?_
  refine af (cw (λs=>(∃ nx,aP prog s ⟨aD [],λ_=>none,nx⟩)/\∀ (j:Nat) y,c[j]? =some y->wM (dS l) (bC l) c y=true) (cT (α:=Nat×Nat)
   (λs=>⟨aD [(0,bS l),(1,cr c),(10,I s.1)],λ_=>none,s.2⟩)
   (λs=>s.1<=c.length/\∀ j y,j<s.1->c[j]? =some y->wM (dS l) (bC l) c y=true) (λs=>c.length - s.1) (0,0) (au eH) ⟨Nat.zero_le _,λj y hj=>by omega⟩ ?_) ?_)
  .rintro⟨k,nx⟩ ⟨hk,yZ⟩;dsimp only at hk yZ ⊢;refine aQ ?_;refine af ⟨_,rfl,λh=>?_,λh=>?_⟩
   .have ao:k<c.length:=o2 h
    clear h;let⟨x,hx⟩:=o3 c k ao
    have xL:=me x (bD hx);let⟨xV,Hw⟩:=cR hx;have gM:=avn x (bD hx);let⟨v0,Pf⟩:=o3 x 0 xV
    obtain⟨p0,rfl,hp0⟩:=Hw 0 v0 Pf;have kP:x.headD 0=(p0:Int):=by cases x<;>simp at Pf ⊢;exact Pf
    let⟨f,hf⟩:=o3 l p0 hp0
    have qb:=bD hf;refine aA (SS ?_)
    refine af (cT (α:=Nat×Nat)
     (λs=>⟨aD [(0,bS l),(1,cr c),(10,I k),(11,I (s.1+1:Nat))],λ_=>none,s.2⟩)
     (λs=>s.1+1<=x.length/\∀ m,m<s.1->yW (dS l) (bC l) c x (m+1)=true) (λs=>x.length - s.1) (0,nx) (au eH) ⟨oM,λm hm=>by omega⟩ ?_)
    rintro⟨i,nz⟩ ⟨hi,U⟩;dsimp only at hi U ⊢;refine ek ?_;refine af ⟨_,rfl,λh=>?_,λh=>?_⟩
    .have gh:i+1<x.length:=by
      have:((i+1:Nat):Int)<x.length:=o2 h
      omega
     clear h;let⟨v1,hv1⟩:=o3 x (i+1) gh
     obtain⟨p1,rfl,iE⟩:=Hw (i+1) v1 hv1;let⟨g,hg⟩:=o3 l p1 iE
     have Xl:=bD hg
     have uH:yW (dS l) (bC l) c x (i+1)=(vZ f g&&(range (cU f.blocks).length).all (xY c ((cU f.blocks).map (eN l)) ((cU g.blocks).map (eN l)))):=by
      rw[yW,kP,mW hv1,eU,eU,FT hf,FT hg,length_map];congr 1;rw[Bool.eq_iff_iff,beq_iff_eq];exact Sy C hf hg
     have M:yW (dS l) (bC l) c x (i+1)=false->rv=false:=λh=>gM (ajw gh h)
     have gZ:yW (dS l) (bC l) c x (i+1)=true->∀ m,m<i+1->yW (dS l) (bC l) c x (m+1)=true:=λh m hm=>by
      by_cases e:m=i
      .subst e;exact h
      .exact U m oG
     refine aA (bh ?_);refine aI (IF (i:=0) rfl rfl dJ c3 Pf) aM (IG dI Pf) (bh ?_);refine af ⟨_,gd (i:=nz) (cs:=aL f) (e:=48) l3 (l:=[(0,bS l),(1,cr c),(10,I k),(11,I (i+1:Nat)),(12,.pt (aL f))]) ⟨rfl,rfl,rfl,rfl,mV,aa⟩,aA ?_⟩;refine aX ?_;refine ax ?_;refine af ⟨_,gd (i:=nz+1) (cs:=aL g) (e:=48) l3 (l:=[(0,bS l),(1,cr c),(10,I k),(11,I (i+1:Nat)),(12,.pt (aL f)),(13,.pt (aL g))]) ⟨rfl,rfl,rfl,rfl,rfl,mV,aa⟩,aG (al ?_)⟩;have zE:=zE (C.sd f qb) (C.sd g Xl);have Ts:=λ(h:vZ f g=true)=>C.Ny p0 p1 (by rw[pJ];exact hp0) (by rw[pJ];exact iE) ((Sy C hf hg).2 h);rw[FT hf,FT hg,length_map,length_map] at Ts;generalize vZ f g=o at*
     refine aQ ?_;refine af (cM rfl (λhp=>aG (al ?_)) λhp=>cI (al ?_))
     .have ho:o=false:=o2 hp
      cases M (by rw[uH,ho];rfl);refine ag ?_;exact af (de (bP (bP (aY (fB rfl rfl rfl)))))
     have ho:o=true:=o2 hp
     subst ho;clear hp zE;have gu:=Ts rfl;rw[Bool.true_and] at uH;have Gm:f.blocks.length<=1000000:=by have:=(yR (Abs.checked (C.sd f qb))).mh;omega
     have Xk:g.blocks.length<=1000000:=by have:=(yR (Abs.checked (C.sd g Xl))).mh;omega
     have JF:=oO Gm;have JG:=oO Xk;have oO:=JF;refine ax ?_;apply er;clear oO;have oO:=JG;refine ax ?_;refine af (aA ?_);clear oO JF JG;have wz:=λs hs=>C.known qb (s:=s) hs;have Cy:=λs hs=>C.known Xl (s:=s) hs;have azX:(cU f.blocks).length<=1000000:=Nat.le_trans (zL f.blocks) Gm;generalize cU f.blocks=xs at*
     generalize cU g.blocks=ys at*
     refine SS ?_
     refine af (cT (α:=Nat)
      (λm=>⟨aD [(0,bS l),(1,cr c),(10,I k),(11,I (i+1:Nat)),(14,fT xs),(15,fT ys),(16,I m)],λ_=>none,nz+1+1⟩)
      (λm=>m<=xs.length/\∀ q,q<m->xY c (xs.map (eN l)) (ys.map (eN l)) q=true) (λm=>xs.length - m) 0 (au eH) ⟨Nat.zero_le _,λq hq=>by omega⟩ ?_)
     rintro m ⟨hm,nv⟩;refine aQ ?_;refine af ⟨_,rfl,λh=>?_,λh=>?_⟩
     .have pr:m<xs.length:=o2 h
      clear h;let⟨a,ha⟩:=o3 xs m pr
      let⟨b,hb⟩:=o3 ys m oG
      have GL:=ss (l:=l) (s:=a);have GM:=ss (l:=l) (s:=b);rw[Lz C.nodup (wz a (bD ha))] at GL;rw[Lz C.nodup (Cy b (bD hb))] at GM
      have jj:xY c (xs.map (eN l)) (ys.map (eN l)) m=(atR c (eN l a:Nat)==atR c (eN l b:Nat)):=by
       rw[xY,mW (x:=eN l a) (by simp[ha]),mW (x:=eN l b) (by simp[hb])]
      have aw5:=tF (c:=c) (n:=(eN l a:Nat));have aw6:=tF (c:=c) (n:=(eN l b:Nat));generalize eN l a=p at*
      generalize eN l b=q at*
      generalize atR c (p:Nat)=ap at*
      generalize atR c (q:Nat)=aq at*
      apply c6 (fp [(6,12),(7,12),(6,13),(7,13)]);have ss:=GL;have tF:=aw5;refine cJ ?_;clear ss tF;have ss:=GM;have tF:=aw6;refine aX ?_;refine bJ bM (aB rfl (λhp=>al ?_) λhp=>cB ?_)
      .have Gm:xY c (xs.map (eN l)) (ys.map (eN l)) m=false:=by rw[jj];simpa using hp
       have:(range xs.length).all (xY c (xs.map (eN l)) (ys.map (eN l)))=false:=by
        rw[all_eq_false];exact⟨m,mem_range.2 pr,by simp[Gm]⟩
       cases M (uH.trans this);refine ag ?_;exact af (bj (bP (bP (bP (aY (fB rfl rfl rfl))))))
      .have ao:xY c (xs.map (eN l)) (ys.map (eN l)) m=true:=by rw[jj];simpa using hp
       show aE _ _ _ _ _ _ _ _ _;refine ax ?_;refine af (aW (m+1) (au eH) ⟨oG,λr hr=>?_⟩ oG);by_cases e:r=m
       .subst e;exact ao
       .exact nv r oG
     .have bt:¬ m<xs.length:=o2 h
      have eM:=uH.trans (bK.2 λr hr=>nv r (by have:=mem_range.1 hr;omega));show aE _ _ _ _ _ _ _ _ _;refine ax ?_;exact af (aW (i+1,_) (au eH) ⟨oM,gZ eM⟩ oM)
    .have bt:¬ i+1<x.length:=by
      have:¬ ((i+1:Nat):Int)<x.length:=o2 h
      omega
     have Xe:wM (dS l) (bC l) c x=true:=by
      rw[wM,bK];exact λm hm=>U m (by have:=mem_range.1 hm;omega)
     show aE _ _ _ _ _ _ _ _ _;refine ax ?_;refine af (aW (k+1,_) (au eH) ⟨oM,λj y hj hy=>?_⟩ oM);by_cases e:j=k
     .subst e;rw[hx] at hy;cases hy;exact Xe
     .exact yZ j y (by dsimp only at hj;omega) hy
   .have bt:¬ k<c.length:=o2 h
    exact⟨⟨nx,au aa⟩,λj y hy=>yZ j y (by have:=(bQ.1 hy).1;omega) hy⟩
  .rintro s ⟨⟨nx,hg⟩,yZ⟩
   have hr:uT (dS l) (bC l) c=true:=by
    rw[uT,pJ,bK.2 λk hk=>O k (mem_range.1 hk),decide_eq_true aw4,Bool.true_and,Bool.true_and,bK];intro x hx;let⟨j,hj⟩:=cV hx;exact yZ j x hj
   cases CD.trans hr;refine⟨_,hg,al ?_⟩;refine ag ?_;exact af (fB rfl rfl rfl)
def ao4{l:List az}(h:vY l=true)(hs:∀ f∈l,0<=f.result):Gl l:=by
 have hl:=aaI h;rw[vY,aJ,bK] at h;have J:∀ f∈l,vX f=true:=h.1
 have C:∀ f∈l,∀ b∈f.blocks,xB b=true:=λf hf=>by
  have:=J f hf;unfold vX at this;simp[aJ,bK] at this;exact this.2.2
 refine⟨λf hf=>⟨hs f hf,?_,λs M=>?_,λb hb=>⟨?_,λw O=>?_⟩⟩,λf hf b hb=>?_,oG⟩
 .have:=J f hf;unfold vX GH at this;simp[aJ,Bool.not_eq_true',Bool.or_eq_false_iff,decide_eq_false_iff_not] at this;have:=this.1.2.2.2.2;unfold maxLen;omega
 .have:=J f hf;unfold vX at this;simp[aJ,bK] at this;have:=this.2.1 s M;unfold DX at this;simp at this;unfold maxLen;omega
 .have:=C f hf b hb;unfold xB DW at this;simp[aJ,Bool.not_eq_true',Bool.or_eq_false_iff,decide_eq_false_iff_not] at this;have:=this.1.2.2.2.1;unfold maxLen;omega
 .have:=C f hf b hb;unfold xB at this;simp[aJ,bK] at this;have:=this.2.2 w O;unfold GJ at this;simp at this;unfold maxLen;omega
 .have:=C f hf b hb;unfold xB DW at this;simp[aJ,Bool.not_eq_true',Bool.or_eq_false_iff,decide_eq_false_iff_not] at this;have:=this.1.2.1;omega
def aw7:aH prog 20 [.z,.z] (B true):=by
 refine Zy (aeY (l:=[])) rfl (λk d d' h1 h2=>?_) (.cons .z (.cons .z .nil))
 match k with
 |0=>simp at h1 h2;subst h1 h2;exact DV
 |1=>simp at h1 h2;subst h1 h2;exact DV
 |k+2=>simp at h1
def k3{l:List az}{c:List (List Int)}(hs:∀ f∈l,0<=f.result):aH prog 3 [bS l,cr c] (B true):=by
 have O9:=O9 (l:=l);have Rn:=Rn (c:=c);refine bx (fo f3) (.cons (kV l) (.cons (nC c) .nil)) (Tr.s _) ?_;have C:=aaI (l:=l);have tq:=λ(h:vY l=true)=>ao4 h hs;have X:=alR (c:=c);generalize vY l=fw at*
 generalize B4 c=ls at*
 refine ws (SS ?_);refine af (aG (al (cJ ?_)));refine af (cM rfl (λh=>aG (al ?_)) λh=>cI (al ?_))
 .refine cl Ks ?_;refine SS ?_;exact af (de (aC rfl rfl))
 have hb:fw=true/\ls=true:=by
  revert h;cases fw<;>cases ls<;>simp
 obtain⟨rfl,rfl⟩:=hb;clear h O9 Rn;have C:=C rfl;have J:=tq rfl;let⟨wo,M⟩:=X rfl;have Ja:=Ja (l:=l) oG;have Ko:=Ko J;have Ki:=Ki (l:=l) (c:=c) oG oG λx hx=>by have:=M x hx;omega
 have Kq:=Kq (c:=c) J oG λx hx=>by have:=M x hx;omega
 have Kn:aH prog 20 [pI l,pI l] (B true):=by
  unfold pI;split
  .exact aeY
  .exact aw7
 have bE:Tr (pI l):=by
  unfold pI;split
  .exact nC _
  .exact .z
 have U:(∃ x,pI l=cr x)\/pI l=.z:=by
  unfold pI;split
  .exact .inl ⟨_,rfl⟩
  .exact .inr rfl
 generalize Ac l c=cc at*
 generalize (dK l).2=e at*
 generalize pI l=O at*
 have iy:(e==e)=true:=by simp
 have fin:∀ {O:D},True:=λ{_}=>trivial;rcases U with⟨x,rfl⟩|rfl
 .cases cc
  .refine SS ?_;refine cl Ja ?_;refine bh ?_;refine er (SS ?_);refine cl Ko ?_;refine bh ?_;refine er (ag ?_);refine cl Ki ?_;refine bh ?_;refine er (ag ?_);refine cl Kq ?_;refine bh ?_;refine er (cl Ks ?_);refine ax ?_;refine gc Kn ?_;refine aX ?_;refine cJ ?_;exact af (aC rfl rfl)
  .refine SS ?_;refine cl Ja ?_;refine bh ?_;refine er (SS ?_);refine cl Ko ?_;refine bh ?_;refine er (ag ?_);refine cl Ki ?_;refine bh ?_;refine er (ag ?_);refine cl Kq ?_;refine bh ?_;refine er (cl Ks ?_);refine ax ?_;refine gc Kn ?_;refine aX ?_;refine cJ ?_;exact af (aC rfl rfl)
 .cases cc
  .refine SS ?_;refine cl Ja ?_;refine bh ?_;refine er (SS ?_);refine cl Ko ?_;refine bh ?_;refine er (ag ?_);refine cl Ki ?_;refine bh ?_;refine er (ag ?_);refine cl Kq ?_;refine bh ?_;refine er (cl Ks ?_);refine ax ?_;refine gc Kn ?_;refine aX ?_;refine cJ ?_;exact af (aC rfl rfl)
  .refine SS ?_;refine cl Ja ?_;refine bh ?_;refine er (SS ?_);refine cl Ko ?_;refine bh ?_;refine er (ag ?_);refine cl Ki ?_;refine bh ?_;refine er (ag ?_);refine cl Kq ?_;refine bh ?_;refine er (cl Ks ?_);refine ax ?_;refine gc Kn ?_;refine aX ?_;refine cJ ?_;exact af (aC rfl rfl)
end Go.Abs
end
