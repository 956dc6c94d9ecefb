/- Part 23. -/
import Derived.Test.YtnagfmlifobdiaaGreatDoorShareApart12
set_option linter.all false
set_option maxHeartbeats 0
set_option maxRecDepth 10000
section
open Go Go.Proofs List
namespace Go.Abs
open Go.Proofs.Tryz
def ads(a b:Int):Int:=oR .andNot .u64 a b
def ND(w:List Int)(m:Nat):List Int:=w.set (m / 64) (ads (w.getD (m / 64) 0) (IntKind.u64.wrap (1*2 ^ (min (m % 64) 64))))
def Jk(w:List Int)(n:Int):List Int:=if 0<=n then ND w n.toNat else w
def BP(w v:List Int):Nat->List Int
 |0=>w
 |k+1=>(BP w v k).set k (EI ((BP w v k).getD k 0) (v.getD k 0))
def atB(w v:List Int):List Int:=BP w v 19
@[simp] theorem azm (w : List Int) (m : Nat) : (ND w m).length = w.length := by simp [ND]
@[simp] theorem azn (w : List Int) (n : Int) : (Jk w n).length = w.length := by unfold Jk; split <;> simp
@[simp] theorem YP (w v : List Int) : ∀ k, (BP w v k).length = w.length
 |0=>rfl
 |k+1=>by simp[BP,YP w v k]
@[simp] theorem azo (w v : List Int) : (atB w v).length = w.length := YP w v 19
def mR(x:End):List Int:=if x.kind≠3/\x.kind≠4 then [x.to] else []
def tH(x:End):List Int:=if x.kind=2\/x.kind=8 then mR x++[x.ei] else mR x
def iP(x:End)(k:Nat):List Int:=tH x++(x.aK.take k).map (·.to)
def gE(x:End):List Int:=if 0<=x.others then iP x x.aK.length++[x.others] else iP x x.aK.length
def amn{x:End}{k:Nat}{w:jf}(h:x.aK[k]? =some w):iP x (k+1)=iP x k++[w.to]:=by
 unfold iP;rw[List.take_add_one,h,List.map_append,List.append_assoc];rfl
def RT(x:End):(tH x).length<=2:=by unfold tH mR;repeat' split<;>simp
def Lh(x:End):(gE x).length<=x.aK.length+3:=by
 have:=RT x;unfold gE iP;split<;>simp<;>omega
end Go.Abs
end
namespace Go.Abs
open List
open Go.Proofs.Tryz
open Go
section
def tbV(v:BitVec 64)(i:Nat):(IntKind.u64.wrap (v.toNat:Int)).toNat.testBit i=v.getLsbD i:=by
 rw[wrap_u64 v.isLt,eU,BitVec.testBit_toNat]
def Pz{a:Int}(ha:fH a)(i:Nat):(BitVec.ofInt 64 a).getLsbD i=a.toNat.testBit i:=by
 obtain⟨n,rfl⟩:=jy ha.1;have h:=ha.2;rw[<- BitVec.testBit_toNat,BitVec.toNat_ofInt];congr 1;omega
def atA{a b:Int}(ha:fH a)(hb:fH b)(i:Nat):(EI a b).toNat.testBit i=(a.toNat.testBit i||b.toNat.testBit i):=by
 have:EI a b=IntKind.u64.wrap (((BitVec.ofInt 64 a||| BitVec.ofInt 64 b).toNat:Nat):Int):=rfl;rw[this,tbV,BitVec.getLsbD_or,Pz ha,Pz hb]
def ab9{a b:Int}(ha:fH a)(hb:fH b)(i:Nat):(uv a b).toNat.testBit i=(a.toNat.testBit i&&b.toNat.testBit i):=by
 have:uv a b=IntKind.u64.wrap (((BitVec.ofInt 64 a&&& BitVec.ofInt 64 b).toNat:Nat):Int):=rfl;rw[this,tbV,BitVec.getLsbD_and,Pz ha,Pz hb]
def QJ(v:BitVec 64):fH (IntKind.u64.wrap (v.toNat:Int)):=by
 rw[wrap_u64 v.isLt];have:=v.isLt;unfold fH;omega
def ais(a b:Int):fH (ads a b):=QJ (BitVec.ofInt 64 a&&& ~~~ BitVec.ofInt 64 b)
def akx(a b:Int):fH (EI a b):=QJ (BitVec.ofInt 64 a||| BitVec.ofInt 64 b)
variable{k:Nat}
def aol(hk:k<64):IntKind.u64.wrap (1*2 ^ (min k 64))=((2 ^ k:Nat):Int):=by
 have h1:min k 64=k:=by omega
 have h2:(2:Nat) ^ k<2 ^ 64:=Nat.pow_lt_pow_right oG hk;rw[h1,Int.one_mul, <- wrap_u64 h2]
 norm_cast
def fM(w:List Int)(r:Nat):Bool:=(w.getD (r / 64) 0).toNat.testBit (r % 64)
def jx(w:List Int):Prop:=∀ u∈w,fH u
variable{w:List Int}
def jx.get(h:jx w)(i:Nat):fH (w.getD i 0):=by
 rw[dU];cases hx:w[i]? with
 |none=>exact⟨oS,oS⟩
 |some u=>exact h u (bD hx)
def amL(hk:k<64):fH ((2 ^ k:Nat):Int):=by
 have h2:(2:Nat) ^ k<2 ^ 64:=Nat.pow_lt_pow_right oG hk;generalize (2:Nat) ^ k=z at h2;unfold fH;omega
def CR(h:jx w)(m:Nat):nM w m=fM w m:=by
 have hu:=h.get (m / 64);unfold nM fM;generalize w.getD (m / 64) 0=u at hu;have hk:min (m % 64) 64=m % 64:=by omega
 rw[hk];obtain⟨n,rfl⟩:=jy hu.1
 have e:((n:Int).fdiv (2 ^ (m % 64)))=((n / 2 ^ (m % 64):Nat):Int):=by
  rw[Int.fdiv_eq_ediv_of_nonneg _ (Int.le_of_lt (Int.pow_pos oG)),Int.natCast_ediv,Int.natCast_pow];rfl
 rw[e];have hd:n / 2 ^ (m % 64)<=n:=Nat.div_le_self _ _
 have hq:fH ((n / 2 ^ (m % 64):Nat):Int):=by
  have:=hu.2;revert hd;generalize n / 2 ^ (m % 64)=z;intro hd;unfold fH;omega
 have h1:fH 1:=by unfold fH;omega
 have hb:∀ i,(uv ((n / 2 ^ (m % 64):Nat):Int) 1).toNat.testBit i=(n.testBit (m % 64)&&decide (i=0)):=λi=>by
  rw[ab9 hq h1,eU];by_cases hi:i=0
  .subst hi;simp[Nat.testBit_eq_decide_div_mod_eq]
  .have:(1:Int).toNat.testBit i=false:=by
    show Nat.testBit 1 i=false;cases i with
    |zero=>omega
    |succ j=>simp[Nat.testBit_succ]
   rw[this];simp[hi]
 have hp:fH (uv ((n / 2 ^ (m % 64):Nat):Int) 1):=QJ (BitVec.ofInt 64 _&&& BitVec.ofInt 64 1);generalize uv ((n / 2 ^ (m % 64):Nat):Int) 1=z at hb hp;obtain⟨q,rfl⟩:=jy hp.1;simp[eU] at hb ⊢;cases hn:n.testBit (m % 64) with
 |false=>
  have:q=0:=Nat.eq_of_testBit_eq λi=>by rw[hb i,hn];simp
  subst this;rfl
 |true=>
  have:q=1:=Nat.eq_of_testBit_eq λi=>by
   rw[hb i,hn];cases i with
   |zero=>simp
   |succ j=>simp[Nat.testBit_succ]
  subst this;rfl
variable{i:Nat}{u:Int}
def aa0(hi:i<w.length)(r:Nat):fM (w.set i u) r=if r / 64=i then u.toNat.testBit (r % 64) else fM w r:=by
 unfold fM;simp[dU,getElem?_set];split
 .rename_i h;subst h;simp[hi]
 .rename_i h;rw[ai λe=>h e.symm]
def Rg(h:jx w){m:Nat}(hm:m / 64<w.length)(r:Nat):fM (BK w m) r=(fM w r||decide (r=m)):=by
 have hk:m % 64<64:=by omega
 rw[BK,aol hk,aa0 hm];split
 .rename_i e;rw[atA (h.get _) (amL hk),eU,Nat.testBit_two_pow,fM,e];congr 1;apply decide_eq_decide.2;omega
 .rename_i e;have:¬ r=m:=λh=>e (by rw[h]);simp[this]
def jx.set(h:jx w)(hu:fH u):jx (w.set i u):=λx hx=>by
 rcases mem_or_eq_of_mem_set hx with h1|h1
 .exact h x h1
 .subst h1;exact hu
def jx.less(h:jx w)(m:Nat):jx (ND w m):=h.set (ais _ _)
def jx.Jk(h:jx w)(n:Int):jx (Jk w n):=by
 unfold Abs.Jk;split
 .exact h.less _
 .exact h
def jx.BP{v:List Int}(h:jx w):∀ k,jx (BP w v k)
 |0=>h
 |k+1=>(jx.BP h k).set (akx _ _)
def YM{w v:List Int}(h:jx w)(hv:jx v)(hl:w.length=v.length)(he:∀ r,fM w r=fM v r):w=v:=by
 apply ext_getElem hl;intro i h1 h2;have C:w.getD i 0=w[i]:=by simp[dU,aO h1]
 have e2:v.getD i 0=v[i]:=by simp[dU,aO h2]
 have a:=h w[i] oS;have b:=hv v[i] oS
 have:w[i].toNat=v[i].toNat:=Nat.eq_of_testBit_eq λk=>by
  by_cases hk:k<64
  .have:=he (i*64+k);unfold fM at this;rw[show(i*64+k) / 64=i by omega,show(i*64+k) % 64=k by omega,C,e2] at this;exact this
  .have h2:2 ^ 64<=2 ^ k:=Nat.pow_le_pow_right oG oG;unfold fH at a b;rw[Nat.testBit_lt_two_pow oG,Nat.testBit_lt_two_pow oG]
 unfold fH at a b;omega
def amI(n r:Nat):fM (replicate n 0) r=false:=by
 rw[fM,dU,getElem?_replicate];split<;>simp
end
end Go.Abs
section
open Go Go.Proofs List
namespace Go.Abs
open Go.Proofs.Tryz
def cP(f:az)(h:D):List D:=[S f.name,B f.iter,I f.args,U8 f.result,jW f.aj,jW f.a6,fT f.signals,dz f.blocks,h]
@[simp] theorem azq (f : az) (h : D) : (cP f h).length = 9 := rfl
def Aq{h:D}(ht:Tr h)(f:az):∀ d∈cP f h,Tr d:=.cons (.s _) (.cons (.s _) (.cons (.s _) (.cons (.s _) (.cons (qq _) (.cons (qq _) (.cons (rA _) (.cons (QG _) (.cons ht .nil))))))))
def bZ(f:az)(r k:Int):Bool:=if k=119 then dc f.aj r==1 else if k=114 then dc f.aj r==2 else if k=105 then dc f.aj r==3 else fU f.aj r
def L2{s:ByteArray}{k:Nat}(h:k<s.size):((s.data.toList.getD (k:Int).toNat 0).toNat:Int)∈dO s/\(dO s)[k]? =some ((s.data.toList.getD (k:Int).toNat 0).toNat:Int):=by
 have h1:k<s.data.toList.length:=s0 h
 have h2:(dO s)[k]? =some ((s.data.toList.getD (k:Int).toNat 0).toNat:Int):=by
  simp[dO,aO h1,dU]
 exact⟨bD h2,h2⟩
def jN{n a b:Int}:aH prog 188 [I n,I a,I b] (B (eg n a b)):=by
 refine bx (fo f188) (.cons (.s _) (.cons (.s _) fp)) (Tr.s _) ?_;refine ws (SS ?_);refine er (aX ?_);refine af (aC (d:=.s (.bool _)) rfl ?_);unfold eg;by_cases h:a<=n<;>simp[h]
def D4{s:ByteArray}(hs:s.size<=maxLen):aH prog 187 [S s] (B (kZ s)):=by
 unfold maxLen at hs;refine bx (fo f187) fp (Tr.s _) ?_;refine ws (SS ?_);refine af (aG (aA (SS ?_)))
 refine af (cw (λst=>aP prog st ⟨aD [(0,S s)],λ_=>none,0⟩/\∀ (j:Nat) y,(dO s)[j]? =some y->yq y=false) (cT (α:=Nat) (λk=>⟨aD [(0,S s),(3,I k)],λ_=>none,0⟩)
  (λk=>k<=s.size/\∀ j y,j<k->(dO s)[j]? =some y->yq y=false) (λk=>s.size - k) 0 (au eH) ⟨oG,λj y hj=>by omega⟩ ?_) ?_)
 .rintro k ⟨hk,hinv⟩;refine aQ ?_;refine af ⟨_,rfl,λh=>?_,λh=>?_⟩
  .have ao:k<s.size:=s0 h
   let⟨hm,hx⟩:=L2 ao;generalize hz:s.data.toList.getD (k:Int).toNat 0=z at hm hx;refine ws (cJ ?_);refine ag ?_;refine af (aB rfl (λhp=>?_) λhp=>?_)
   .refine ws (SS ?_);refine af (bj (bP (aY (aC (d:=B false) rfl ?_))));have h1:(dO s).any yq=true:=any_eq_true.2 ⟨_,hm,by rw[hz] at hp;revert hp;simp[yq]⟩;rw[kZ,h1];simp
   .refine cB (ax ?_);refine af (aW (k+1) (au eH) ⟨oG,λj y hj hy=>?_⟩ oG);by_cases e:j=k
    .subst e;rw[hx] at hy;cases hy;rw[hz] at hp;revert hp;simp[yq]
    .exact hinv j y oG hy
  .have J:¬ k<s.size:=s0 h
   exact⟨au eH,λj y hy=>hinv j y (by have:=(bQ.1 hy).1;simp[dO] at this;omega) hy⟩
 .rintro st ⟨hg,C⟩;refine⟨_,hg,al ?_⟩;have jN:=jN (n:=s.size) (a:=1) (b:=120);refine aQ ?_;refine af (aC (d:=.s (.bool _)) rfl ?_)
  have h1:(dO s).any yq=false:=any_eq_false.2 λx hx=>by
   let⟨j,hj⟩:=cV hx;rw[C j x hj];simp
  rw[kZ,h1];simp
def rT{s:ByteArray}(hs:s.size<=maxLen):aH prog 189 [S s] (B (isName s)):=by
 unfold maxLen at hs;refine bx (fo f189) fp (Tr.s _) ?_;refine ws (SS ?_);refine af (aG (aA (SS ?_)))
 refine af (cw (λst=>aP prog st ⟨aD [(0,S s)],λ_=>none,0⟩/\∀ (j:Nat) y,(dO s)[j]? =some y->yr y=false) (cT (α:=Nat) (λk=>⟨aD [(0,S s),(3,I k)],λ_=>none,0⟩)
  (λk=>k<=s.size/\∀ j y,j<k->(dO s)[j]? =some y->yr y=false) (λk=>s.size - k) 0 (au eH) ⟨oG,λj y hj=>by omega⟩ ?_) ?_)
 .rintro k ⟨hk,hinv⟩;refine aQ ?_;refine af ⟨_,rfl,λh=>?_,λh=>?_⟩
  .have ao:k<s.size:=s0 h
   let⟨hm,hx⟩:=L2 ao;generalize hz:s.data.toList.getD (k:Int).toNat 0=z at hm hx;refine ws (aX ?_);refine aX ?_;refine aQ ?_;refine af (aB rfl (λhp=>?_) λhp=>?_)
   .refine ws (SS ?_);refine af (bj (bP (aY (aC (d:=B false) rfl ?_))));have h1:(dO s).any yr=true:=any_eq_true.2 ⟨_,hm,by rw[hz] at hp;revert hp;simp[yr]⟩;rw[isName,h1];simp
   .refine cB (ax ?_);refine af (aW (k+1) (au eH) ⟨oG,λj y hj hy=>?_⟩ oG);by_cases e:j=k
    .subst e;rw[hx] at hy;cases hy;rw[hz] at hp;revert hp;simp[yr]
    .exact hinv j y oG hy
  .have J:¬ k<s.size:=s0 h
   exact⟨au eH,λj y hy=>hinv j y (by have:=(bQ.1 hy).1;simp[dO] at this;omega) hy⟩
 .rintro st ⟨hg,C⟩;refine⟨_,hg,al ?_⟩;have jN:=jN (n:=s.size) (a:=1) (b:=12);refine aQ ?_;refine af (aC (d:=.s (.bool _)) rfl ?_)
  have h1:(dO s).any yr=false:=any_eq_false.2 λx hx=>by
   let⟨j,hj⟩:=cV hx;rw[C j x hj];simp
  rw[isName,h1];simp
def Al{f:az}{hd:D}(h:hd.one=true):(cP f hd).all D.one=true:=by
 simp only[cP,all_cons,all_nil,h,Bool.and_true];rfl
section
variable{f:az}{hd:D}(ht:Tr hd)(dN:hd.one=true)
include ht dN
def ku{b:Int}(hn:f.blocks.length<=1200):aH prog 138 [.agg (cP f hd),I b] (B (cS f b)):=by
 refine bx (fo f138) (.cons (.agg (Aq ht f)) fp) (Tr.s _) ?_;refine aA (ag ?_);refine af (br (cH [(0,cP f hd,206)] eH (l:=[(1,I b),(2,.pt (cP f hd))]) eH) (al ?_));have jN:=jN (n:=b) (a:=0) (b:=(f.blocks.length:Int) - 1);refine cJ ?_;exact af (aC rfl rfl)
def cL{r k:Int}:aH prog 191 [.agg (cP f hd),I r,U8 k] (B (bZ f r k)):=by
 refine bx (fo f191) (.cons (.agg (Aq ht f)) (.cons (.s _) fp)) (Tr.s _) ?_;refine aA (ag ?_);refine af (br (cH [(0,cP f hd,206)] eH (l:=[(1,I r),(2,U8 k),(3,.pt (cP f hd))]) eH) (aG (al ?_)));refine cJ ?_;refine ag ?_;refine af (cM rfl (λh=>?_) λh=>cI (al ?_))
 .refine aG (al (SS ?_));refine af (de (aC (d:=.s (.bool _)) rfl ?_))
  have h0:dc f.aj r=0:=QC λhh=>by
   by_cases h1:r<0<;>simp[h1] at h<;>omega
  simp[bZ,fU,h0]
 .have hr:0<=r/\r<f.aj.length:=by
   by_cases h1:r<0<;>simp[h1] at h;omega
  obtain⟨n,rfl⟩:=jy hr.1;have hx:f.aj[n]? =some f.aj[n]:=aO oG;have hk:=yu hx;have hi:bZ f n k=if k=119 then f.aj[n]==1 else if k=114 then f.aj[n]==2 else if k=105 then f.aj[n]==3 else f.aj[n]==1||f.aj[n]==2:=by simp[bZ,fU,hk]
  rw[hi];generalize f.aj[n]=v at hx;clear h hi hk;refine ek ?_;refine af (aG (al (SS ?_)));refine af (rj (al (ag ?_)));refine af (aB rfl (λh0=>?_) λh0=>?_)
  .have h0:k=119:=s0 h0
   refine ws (ax ?_);refine af (bj (cA (aY (aC (d:=.s (.bool _)) rfl ?_))));simp[h0]
  have h0:¬ k=119:=s0 h0
  refine ws (ag ?_);refine af (aB rfl (λh1=>?_) λh1=>?_)
  .have h1:k=114:=s0 h1
   refine ws (ax ?_);refine af (bj (cA (aY (aC (d:=.s (.bool _)) rfl ?_))));simp[h1]
  have h1:¬ k=114:=s0 h1
  refine ws (ag ?_);refine af (aB rfl (λh2=>?_) λh2=>?_)
  .have h2:k=105:=s0 h2
   refine ws (ax ?_);refine af (bj (cA (aY (aC (d:=.s (.bool _)) rfl ?_))));simp[h2]
  have h2:¬ k=105:=s0 h2
  refine qw (al (ek ?_));refine af (aC (d:=.s (.bool _)) rfl ?_);rw[ai h0,ai h1,ai h2];by_cases C:v=1<;>simp[C]
end
def nJ(f:az)(a b:Int):Bool:=fU f.aj a&&(fU f.aj b&&dc f.aj a==dc f.aj b)
section
variable{f:az}{hd:D}(ht:Tr hd)(dN:hd.one=true)
include ht dN
def D5{a b:Int}:aH prog 192 [.agg (cP f hd),I a,I b] (B (nJ f a b)):=by
 have hi:∀ r,bZ f r 118=fU f.aj r:=λr=>rfl;have C:=cL (f:=f) ht dN (r:=a) (k:=118);have J:=cL (f:=f) ht dN (r:=b) (k:=118);rw[hi] at C J;refine bx (fo f192) (.cons (.agg (Aq ht f)) (.cons (.s _) fp)) (Tr.s _) ?_;refine aA (ag ?_);refine af (br (cH [(0,cP f hd,206)] eH (l:=[(1,I a),(2,I b),(3,.pt (cP f hd))]) eH) (c6 iO ?_))
 have X:∀ r,fU f.aj r=true->∃ (n:Nat) (x:Int),r=n/\f.aj[n]? =some x/\dc f.aj r=x:=λr h=>by
  let⟨h1,h2⟩:=nE h;obtain⟨n,rfl⟩:=jy h1;have hx:f.aj[n]? =some f.aj[n]:=aO oG;exact⟨n,_,rfl,hx,yu hx⟩
 unfold nJ;cases M:fU f.aj a with
 |false=>
  rw[M] at C;have cL:=C;refine bh ?_;have cL:=J
  (iterate 2 refine z λ_ _=>?_);refine ag ?_;(iterate 13 refine z λ_ _=>?_);refine ag ?_
  exact bJ bM (aC rfl rfl)
 |true=>
  rw[M] at C;cases U:fU f.aj b with
  |false=>
   rw[U] at J;have cL:=C;refine bh ?_;have cL:=J;refine aQ ?_;(iterate 13 refine z λ_ _=>?_);refine ag ?_;exact bJ bM (aC rfl rfl)
  |true=>
   rw[U] at J;obtain⟨n,x,rfl,hx,e1⟩:=X a M;obtain⟨m,y,rfl,hy,e2⟩:=X b U;rw[e1,e2];have cL:=C;refine bh ?_;have cL:=J;refine aX ?_;refine aX ?_;refine SS ?_;exact bJ bM (aC rfl rfl)
def zp{l:List Int}:aH prog 193 [.agg (cP f hd),aU l] (B (jC f.aj l)):=by
 have C:∀ a∈[D.agg (cP f hd),aU l],Tr a:=.cons (.agg (Aq ht f)) (.cons (dP _) .nil);refine nB (fo f193).he C λM=>?_;have hlen:=(M (aU l) oS).sl.1;unfold maxLen at hlen;refine bx (fo f193) C (Tr.s _) ?_;refine aA (ag ?_);refine af (br (cH [(0,cP f hd,206)] eH (l:=[(1,aU l),(2,.pt (cP f hd))]) eH) (aG (aA ?_)));refine SS ?_
 refine af (cw (λs=>aP prog s ⟨aD [],λ_=>none,1⟩/\∀ (j:Nat) y,l[j]? =some y->fU f.aj y=true) (cT (α:=Nat) (λk=>⟨aD [(1,aU l),(2,.pt (cP f hd)),(5,I k)],λ_=>none,1⟩)
  (λk=>k<=l.length/\∀ j y,j<k->l[j]? =some y->fU f.aj y=true) (λk=>l.length - k) 0 (au eH) ⟨oG,λj y hj=>by omega⟩ ?_) ?_)
 .rintro k ⟨hk,hinv⟩;refine aQ ?_;refine af ⟨_,rfl,λh=>?_,λh=>?_⟩
  .have ao:k<l.length:=s0 h
   have hx:l[k]? =some l[k]:=by simp[ao]
   generalize l[k]=x at hx;have cL:aH prog 191 [.agg (cP f hd),I x,U8 118] (B (fU f.aj x)):=cL (f:=f) ht dN (r:=x) (k:=118);refine c6 iO (ek ?_);refine bJ bM (al ?_);refine ag ?_;refine af (aB rfl (λhp=>?_) λhp=>?_)
   .refine ws (SS ?_);refine af (bj (bP (aY (aC (d:=B false) rfl ?_))));have:jC f.aj l=false:=all_eq_false.2 ⟨x,bD hx,s0 hp⟩;rw[this]
   .refine cB (ax ?_);refine af (aW (k+1) (au eH) ⟨oG,λj y hj hy=>?_⟩ oG);by_cases e:j=k
    .subst e;rw[hx] at hy;cases hy;simpa using hp
    .exact hinv j y oG hy
  .have U:¬ k<l.length:=s0 h
   exact⟨.forget _ _ _ _ λ_=>.inr rfl,λj y hy=>hinv j y (by have:=(bQ.1 hy).1;omega) hy⟩
 .rintro s ⟨hg,J⟩;refine⟨_,hg,al ?_⟩;refine SS ?_;refine af (aC (d:=B true) rfl ?_)
  have:jC f.aj l=true:=bK.2 λx hx=>by
   let⟨j,hj⟩:=cV hx;exact J j x hj
  rw[this]
def N8{n r:Int}(hl:f.a6.length<=60)(hs:∀ k∈f.a6,k=1\/k=2):aH prog 194 [.agg (cP f hd),I n,I r] (B (pT f.aj f.a6 r n)):=by
 have jN:=jN (n:=n) (a:=0) (b:=(f.a6.length:Int) - 1);have U:aH prog 191 [.agg (cP f hd),I r,U8 118] (B (fU f.aj r)):=cL (f:=f) ht dN (r:=r) (k:=118);refine bx (fo f194) (.cons (.agg (Aq ht f)) (.cons (.s _) fp)) (Tr.s _) ?_;refine aA (ag ?_);refine af (br (cH [(0,cP f hd,206)] eH (l:=[(1,I n),(2,I r),(3,.pt (cP f hd))]) eH) (c6 iO ?_));unfold pT;have cL:=U;cases J:eg n 0 (f.a6.length - 1) with
 |false=>
  rw[J] at jN;refine cJ ?_;(iterate 3 refine z λ_ _=>?_);refine ag ?_;(iterate 13 refine z λ_ _=>?_);refine ag ?_;exact bJ bM (aC rfl rfl)
 |true=>
  rw[J] at jN;have h0:=kC.1 J;obtain⟨m,rfl⟩:=jy h0.1;have hx:f.a6[m]? =some f.a6[m]:=aO oG;have X:=yu hx;have C:=hs _ (bD hx);rw[X];generalize f.a6[m]=x at hx C;cases hv:fU f.aj r with
  |false=>
   rw[hv] at cL;refine aX ?_;refine aQ ?_;(iterate 13 refine z λ_ _=>?_);refine ag ?_;refine bJ bM (aC (d:=.s (.bool _)) rfl ?_)
   have:(dc f.aj r==x)=false:=by
    unfold fU at hv;rcases C with rfl|rfl<;>simp at hv ⊢<;>simp[hv]
   rw[this];rfl
  |true=>
   rw[hv] at cL;let⟨h1,h2⟩:=nE hv;obtain⟨i,rfl⟩:=jy h1;have hy:f.aj[i]? =some f.aj[i]:=aO oG;have M:=yu hy;rw[M];generalize f.aj[i]=y at hy;refine aX ?_;refine aX ?_;refine aX ?_;refine SS ?_;refine bJ bM (aC (d:=.s (.bool _)) rfl ?_);show B (x==y)=B (y==x);rw[Bool.beq_comm]
end
def nq:List Int->Int->List Int
 |[],n=>[n]
 |x::l,n=>if x<n then x::nq l n else if x=n then x::l else n::x::l
def ab5{n:Int}:∀ {l:List Int} {k:Nat},k<=l.length->(∀ j y,j<k->l[j]? =some y->y<n)->(∀ y,l[k]? =some y->¬ y<n)->
 nq l n=if l[k]? =some n then l else l.take k++n::l.drop k
 |[],k,hk,_,_=>by
  have:k=0:=s0 hk
  subst this;simp[nq]
 |x::l,0,_,_,h=>by
  have h0:¬ x<n:=h x rfl;by_cases e:x=n
  .subst e;simp[nq]
  .simp[nq,h0,e]
 |x::l,k+1,hk,h1,h2=>by
  have h0:x<n:=h1 0 x oG rfl;have ih:=ab5 (n:=n) (l:=l) (k:=k) (s0 hk) (λj y hj hy=>h1 (j+1) y oG (s0 hy)) (λy hy=>h2 y (s0 hy));simp[nq,bi h0,ih,getElem?_cons_succ];split<;>simp
def Ri{n x:Int}:∀ {l:List Int},x∈nq l n↔x∈l\/x=n
 |[]=>by simp[nq]
 |y::l=>by
  unfold nq;split
  .rw[mem_cons,Ri (l:=l),mem_cons];exact or_assoc.symm
  .split
   .rename_i e;subst e;simp only[mem_cons];constructor
    .exact .inl
    .rintro(h|h)
     .exact h
     .exact .inl h
   .simp[mem_cons];constructor
    .rintro(h|h)
     .exact .inr h
     .exact .inl h
    .rintro(h|h)
     .exact .inr h
     .exact .inl h
def ZO{n:Int}:∀ {l:List Int},l.Pairwise (·<·)->(nq l n).Pairwise (·<·)
 |[],_=>by simp[nq]
 |y::l,h=>by
  rw[pairwise_cons] at h;unfold nq;split
  .rename_i hy;refine pairwise_cons.2 ⟨λz hz=>?_,ZO h.2⟩;rcases Ri.1 hz with hz|rfl
   .exact h.1 z hz
   .exact hy
  .split
   .exact pairwise_cons.2 h
   .refine pairwise_cons.2 ⟨λz hz=>?_,pairwise_cons.2 h⟩;rcases mem_cons.1 hz with rfl|hz
    .omega
    .have:=h.1 z hz;omega
def ZP{n:Int}:∀ {l:List Int},(nq l n).length<=l.length+1
 |[]=>by simp[nq]
 |y::l=>by
  have:=ZP (n:=n) (l:=l);unfold nq;split
  .simp;omega
  .split<;>simp
def xg(l:List Int):List Int:=l.foldl nq []
def HZ:∀ {l z:List Int},z.Pairwise (·<·)->(l.foldl nq z).Pairwise (·<·)/\(∀ x,x∈l.foldl nq z↔x∈z\/x∈l)/\(l.foldl nq z).length<=z.length+l.length
 |[],z,h=>⟨h,λx=>by simp,oS⟩
 |y::l,z,h=>by
  let⟨h1,h2,C⟩:=HZ (l:=l) (ZO (n:=y) h);have:=ZP (n:=y) (l:=z);refine⟨h1,λx=>?_,by simp[length_cons,foldl_cons];omega⟩;rw[foldl_cons,h2,Ri,mem_cons,or_assoc]
def aa1:∀ {l z:List Int},l.Pairwise (·<·)->z.Pairwise (·<·)->(∀ x,x∈l↔x∈z)->l=z
 |[],[],_,_,_=>rfl
 |[],y::z,_,_,h=>by have:=(h y).2 oS;simp at this
 |y::l,[],_,_,h=>by have:=(h y).1 oS;simp at this
 |x::l,y::z,hl,hz,h=>by
  rw[pairwise_cons] at hl hz
  have e:x=y:=by
   have h1:=(h x).1 oS;have h2:=(h y).2 oS;rcases mem_cons.1 h1 with h1|h1
   .exact h1
   .rcases mem_cons.1 h2 with h2|h2
    .exact h2.symm
    .have:=hl.1 y h2;have:=hz.1 x h1;omega
  subst e;rw[aa1 hl.2 hz.2 λw=>⟨λC=>?_,λC=>?_⟩]
  .rcases mem_cons.1 ((h w).1 (by simp[C])) with e|e
   .have:=hl.1 w C;omega
   .exact e
  .rcases mem_cons.1 ((h w).2 (by simp[C])) with e|e
   .have:=hz.1 w C;omega
   .exact e
def ug(x:End):List Int:=xg (gE x)
def Yy{x:End}{t:Int}:t∈ug x↔t∈gE x:=by
 rw[ug,xg,(HZ (l:=gE x) (z:=[]) .nil).2.1];simp
def aj8(x:End):(ug x).length<=x.aK.length+3:=by
 have:=(HZ (l:=gE x) (z:=[]) .nil).2.2;have:=Lh x;unfold ug xg;simp at*;omega
def Iu(bs:List bI)(L:Nat->List Int)(b:Nat):Nat->List Int:=match bs[b]? with
 |none=>L
 |some x=>(ug x.fin).foldl (ir b) L
def o4(bs:List bI)(k:Nat):Nat->List Int:=(range k).foldl (Iu bs) λ_=>[]
def np(x:cq)(c:Int):cq:=if c=116 then { x with to:=0 } else if c=97 then { x with a:=0 } else if c=98 then { x with b:=0 } else if c=110 then { x with n:=0 } else if c=108 then { x with args:=[] } else x
def om(x:cq):Bool:=bm x.to 0&&(bm x.a 0&&(bm x.b 0&&(bm x.n 0&&lW x)))
def cO(x:cq)(fs:List Int):Bool:=om (fs.foldl np x)
def oB(f:az)(x:cq):Bool:=
 if bf [30,31,32,33,34] x.op then cO x [116,97,98]&&(bZ f x.to 119&&(bZ f x.a 119&&bZ f x.b 119))
 else if x.op=35 then cO x [97,98]&&(bZ f x.a 114&&bZ f x.b 118)
 else if x.op=36 then cO x [116,97]&&(bZ f x.to 118&&bZ f x.a 114)
 else if x.op=37 then cO x [116,97,98]&&(bZ f x.to 118&&(bZ f x.a 114&&bZ f x.b 119))
 else if x.op=38 then cO x [97,98,108]&&(bZ f x.a 114&&(bZ f x.b 119&&(bm x.args.length 1&&jC f.aj x.args)))
 else false
def fu(f:az)(b C:Int)(x:cq):Bool:=
 if x.op=1 then cO x [116,110]&&(bZ f x.to 119&&eg x.n (-1000000000) 1000000000)
 else if x.op=2 then cO x [116,97]&&nJ f x.to x.a
 else if bf [3,4,6,7] x.op then cO x [116,97,98]&&(bZ f x.to 119&&(bZ f x.a 119&&bZ f x.b 119))
 else if x.op=5 then cO x [116,97,98]&&(bZ f x.to 119&&nJ f x.a x.b)
 else if x.op=8 then cO x [116,97]&&(bZ f x.to 119&&bZ f x.a 119)
 else if x.op=9 then cO x [116,110]&&(bZ f x.to 114&&eg x.n 0 1)
 else if x.op=10 then cO x [116,110,108]&&(bZ f x.to 114&&(eg x.n 0 5&&(eg x.args.length 1 6&&jC f.aj x.args)))
 else if x.op=11 then cO x [116,97,110]&&(bZ f x.to 118&&(bZ f x.a 114&&eg x.n 0 5))
 else if x.op=12 then cO x [97,98,110]&&(bZ f x.a 114&&(bZ f x.b 118&&eg x.n 0 5))
 else if bf [13,14] x.op then cO x [116,97]&&(bZ f x.to 119&&bZ f x.a 114)
 else if x.op=15 then cO x [97]&&bZ f x.a 119
 else if x.op=16 then cO x [97]&&bZ f x.a 105
 else if x.op=17 then cO x [116,110]&&pT f.aj f.a6 x.to x.n
 else if x.op=18 then cO x [97,110]&&pT f.aj f.a6 x.a x.n
 else if x.op=19 then !bm b 0&&(cO x [116,108]&&(bZ f x.to 118&&(bm x.args.length C&&x.args.all (nJ f x.to))))
 else false
def jO(x:End)(c:Int):End:=
 if c=97 then { x with a:=0 } else if c=98 then { x with b:=0 } else if c=116 then { x with to:=0 } else if c=101 then { x with ei:=0 }
 else if c=110 then { x with name:=.empty } else if c=105 then { x with ins:=eR } else if c=108 then { x with args:=[] } else x
def uf(x:End):Bool:=bm x.a 0&&(bm x.b 0&&(bm x.to 0&&(bm x.ei 0&&(x.name.toList==[]&&(bm x.args.length 0&&(bm x.ins.op 0&&om x.ins))))))
def fc(x:End)(fs:List Int):Bool:=(fs.any (·==104)||(bm x.aK.length 0&&bm x.others (-1)))&&uf (fs.foldl jO x)
def jP(f:az)(x:End):Bool:=
 if x.kind=1 then fc x [116]&&cS f x.to
 else if x.kind=2 then fc x [97,116,101]&&(bZ f x.a 119&&(cS f x.to&&cS f x.ei))
 else if x.kind=3 then(if f.iter=true\/f.result=0 then fc x [97]&&bm x.a (-1) else fc x [97]&&(bZ f x.a 118&&bm (dc f.aj x.a) f.result))
 else if x.kind=4 then fc x [110]&&isName x.name
 else if x.kind=5 then fc x [116,105,104]&&(oB f x.ins&&(cS f x.to&&mu f x))
 else if x.kind=6 then fc x [97,116,110,108,104]&&(kZ x.name&&(decide ((x.args.length:Int)<=6)&&(jC f.aj x.args&&((bm x.a (-1)||bZ f x.a 118)&&(cS f x.to&&mu f x)))))
 else if x.kind=7 then fc x [97,116,110,108]&&(kZ x.name&&(decide ((x.args.length:Int)<=6)&&(jC f.aj x.args&&(bZ f x.a 105&&cS f x.to))))
 else if x.kind=8 then fc x [97,98,116,101,104]&&(bZ f x.a 105&&(bZ f x.b 118&&(cS f x.to&&(cS f x.ei&&mu f x))))
 else if x.kind=9 then fc x [97,116]&&(f.iter&&(bZ f x.a 118&&(bm (dc f.aj x.a) f.result&&cS f x.to)))
 else false
def zb(f:az)(r:Int):bZ f r 119=bm (dc f.aj r) 1:=rfl
def DK(f:az)(r:Int):bZ f r 114=bm (dc f.aj r) 2:=rfl
def Jj(f:az)(r:Int):bZ f r 105=bm (dc f.aj r) 3:=rfl
def xj(f:az)(r:Int):bZ f r 118=fU f.aj r:=rfl
def air{f:az}{r n:Int}(hs:∀ k∈f.a6,k=1\/k=2)(h:pT f.aj f.a6 r n=true):fU f.aj r=true:=by
 rw[pT,aJ,kC] at h;let⟨⟨h1,h2⟩,C⟩:=h;obtain⟨k,rfl⟩:=jy h1;have hk:k<f.a6.length:=by omega
 rw[yu (aO hk)] at C;have C:dc f.aj r=f.a6[k]:=s0 C
 have:=hs _ (eh hk);rw[fU,C];rcases this with e|e<;>simp[e]
def aof(f:az)(x:cq):oB f x=((gl ko x.op).isSome&&rC f.aj x ((gl ko x.op).getD CZ)):=by
 let⟨op,to,a,b,n,args⟩:=x;unfold oB;dsimp only;by_cases h0:op=30\/op=31\/op=32\/op=33\/op=34
 .rcases h0 with rfl|rfl|rfl|rfl|rfl<;>
   (simp[bf,gl,ko,find?,rC,og,vr,tK,cO,np,om,zb,bm,lW,eg];grind)
 by_cases C:op=35
 .subst C;simp[bf,gl,ko,find?,rC,og,vr,tK,cO,np,om,zb,DK,xj,bm,lW,eg];grind
 by_cases J:op=36
 .subst J;simp[bf,gl,ko,find?,rC,og,vr,tK,cO,np,om,zb,DK,xj,bm,lW,eg];grind
 by_cases M:op=37
 .subst M;simp[bf,gl,ko,find?,rC,og,vr,tK,cO,np,om,zb,DK,xj,bm,lW,eg];grind
 by_cases U:op=38
 .subst U;simp[bf,gl,ko,find?,rC,og,vr,tK,cO,np,om,zb,DK,xj,bm,lW,eg];grind
 have hn:gl ko op=none:=by
  simp only[gl,ko,Option.map_eq_none_iff,find?_eq_none];simp;omega
 rw[hn,ai (by simp[bf];omega),ai C,ai J,ai M,ai U];rfl
def aog(f:az)(to:Int)(l:List Int)(h:fU f.aj to=true):l.all (nJ f to)= !l.any λr=> !bm (dc f.aj r) (dc f.aj to):=by
 have hk:dc f.aj to=1\/dc f.aj to=2:=by simpa[fU] using h
 rw[not_any_eq_all_not];congr 1;funext r;simp[nJ,h,Bool.true_and,bm,Bool.not_not,fU];grind
def aa2{f:az}{b X:Nat}{x:cq}(hs:∀ k∈f.a6,k=1\/k=2):fu f b X x=kG f b x true X:=by
 have hsv:= @air f;let⟨op,to,a,b',n,args⟩:=x;unfold fu kG;dsimp only;by_cases U:op=16
 .subst U;simp[bf,cO,np,om,Jj,bm,lW];grind
 by_cases M:op=17
 .subst M;simp[bf,cO,np,om,bm,lW];grind
 by_cases C:op=18
 .subst C;simp[bf,cO,np,om,bm,lW];grind
 by_cases J:op=19
 .subst J;cases hv:fU f.aj to with
  |false=>simp[bf,xj,hv]
  |true=>
   rw[aog f to args hv]
   have hb:decide (0<(b:Int))= !decide ((b:Int)=0):=by
    by_cases h:b=0<;>simp[h];omega
   simp[bf,xj,hv,hb,cO,np,om,bm,lW];grind
 rw[ai U,ai M,ai C,ai J,ai U,ai M,ai C,ai J];by_cases hm:op∈[1,2,3,4,5,6,7,8,9,10,11,12,13,14,15]
 .simp[mem_cons,not_mem_nil,or_false] at hm
  rcases hm with rfl|rfl|rfl|rfl|rfl|rfl|rfl|rfl|rfl|rfl|rfl|rfl|rfl|rfl|rfl<;>
   (simp[bf,gl,nI,find?,rC,og,vr,tK,cO,np,om,zb,DK,xj,bm,lW,eg,nJ,fU];grind)
 .have hn:gl nI op=none:=by
   simp[gl,nI,Option.map_eq_none_iff,find?_eq_none];simp at hm ⊢;omega
  simp[mem_cons,not_mem_nil,or_false,not_or] at hm;rw[hn];simp[bf];grind
def RY{f:az}{x:End}(hr:se f=true):jP f x=gD f x:=by
 have ht:=aof f x.ins
 have rY:(f.result=1\/f.result=2)\/f.result=0/\f.iter=false:=by
  simp[se] at hr;grind
 let⟨kind,a,b,to,ei,name,ins,args,aK,others⟩:=x;dsimp only at ht;have hz:∀ y:cq,BB y=(bm y.op 0&&om y):=λy=>by simp[BB,om,bm,lW]
 have h0:om eR=true:=rfl;have he:ByteArray.toList .empty=[]:=by simp
 unfold jP gD fL xc;simp[hz];by_cases h1:kind=1
 .subst h1;simp[fc,jO,uf,bm];grind
 by_cases h2:kind=2
 .subst h2;simp[fc,jO,uf,bm,zb];grind
 by_cases C:kind=3
 .subst C;simp[fc,jO,uf,bm,xj,fU];grind
 by_cases J:kind=4
 .subst J;simp[fc,jO,uf,bm];grind
 by_cases M:kind=5
 .subst M;simp[fc,jO,uf,bm,ht,h0,eR];grind
 by_cases U:kind=6
 .subst U;simp[fc,jO,uf,bm,xj,he];grind
 by_cases X:kind=7
 .subst X;simp[fc,jO,uf,bm,Jj,he];grind
 by_cases h8:kind=8
 .subst h8;simp[fc,jO,uf,bm,Jj,xj];grind
 by_cases h9:kind=9
 .subst h9;simp[fc,jO,uf,bm,xj,fU];grind
 simp[h1,h2,C,J,M,U,X,h8,h9]
def DJ(y:cq)(d:D):List D:=[U8 y.op,I y.to,I y.a,I y.b,I y.n,d]
def adf:Tr .z:=λF β w v h=>by
 rw[h.BX];exact .z
def afa(d:D)(l:List Int):Prop:=d=aU l\/d=.z/\l=[]
def an0{d:D}{l:List Int}(h:afa d l):Tr d:=by
 rcases h with rfl|⟨rfl,_⟩
 .exact dP _
 .exact adf
def aml{y:cq}{d:D}(h:afa d y.args):∀ a∈DJ y d,Tr a:=.cons (.s _) (.cons (.s _) (.cons (.s _) (.cons (.s _) (.cons (.s _) (.cons (an0 h) .nil)))))
def amm{y:cq}{d:D}(h:afa d y.args):(DJ y d).all D.one=true:=by
 rcases h with rfl|⟨rfl,_⟩<;>rfl
def adg{x:cq}{d0:D}{s:ByteArray}(X:afa d0 x.args)(hs:s.size<=8):aH prog 190 [.agg (DJ x d0),S s] (B (cO x (dO s))):=by
 refine bx (fo f190) (.cons (.agg (aml X)) fp) (Tr.s _) ?_;refine aA (di (yM (cs:=DJ x d0) rfl) aM (amm X) (SS ?_));refine af (br (bp (l:=[(1,S s),(2,.rp 0 0)]) (ml:=[(0,.cells (DJ x d0) 54)]) eH eH) (aG (aA ?_)));refine SS ?_
 refine af (cw (λst=>∃ y d,aP prog st ⟨aD [(2,.rp 0 0)],bA [(0,.cells (DJ y d) 54)],1⟩/\(dO s).foldl np x=y/\afa d y.args) (cT (α:=Nat×cq×D) (λq=>⟨aD [(1,S s),(2,.rp 0 0),(5,I q.1)],bA [(0,.cells (DJ q.2.1 q.2.2) 54)],1⟩)
  (λq=>q.1<=s.size/\((dO s).take q.1).foldl np x=q.2.1/\afa q.2.2 q.2.1.args) (λq=>s.size - q.1) (0,x,d0) (bp eH eH) ⟨Nat.zero_le _,rfl,X⟩ ?_) ?_)
 .rintro⟨k,y,d⟩ ⟨hk,hy,hd⟩;dsimp only at hk hy hd ⊢;refine aQ ?_;refine af ⟨_,rfl,λh=>?_,λh=>?_⟩
  .have ao:k<s.size:=s0 h
   let⟨hm,hx⟩:=L2 ao;generalize hz:s.data.toList.getD (k:Int).toNat 0=z at hm hx;have U:((dO s).take (k+1)).foldl np x=np y z.toNat:=by rw[ve hx,hy]
   refine ws (ax ?_);refine af (tN (al (ag ?_)));refine af (aB rfl (λh1=>my ?_) λh1=>al ?_)
   .refine ag ?_;apply af;show aE _ _ _ _ _ _ _ _ _;refine ax ?_;refine af (aW (k+1,{ y with to:=0 },d) (bp eH eH) ⟨oM,?_,hd⟩ oM);rw[hz] at h1;rw[U,np,bi (s0 h1)]
   rw[hz] at h1;have h1:¬ (z.toNat:Int)=116:=s0 h1
   refine ag ?_;refine af (aB rfl (λh2=>my ?_) λh2=>al ?_)
   .refine ag ?_;apply af;show aE _ _ _ _ _ _ _ _ _;refine ax ?_;refine af (aW (k+1,{ y with a:=0 },d) (bp eH eH) ⟨oM,?_,hd⟩ oM);rw[hz] at h2;rw[U,np,ai h1,bi (s0 h2)]
   rw[hz] at h2;have h2:¬ (z.toNat:Int)=97:=s0 h2
   refine ag ?_;refine af (aB rfl (λC=>my ?_) λC=>al ?_)
   .refine ag ?_;apply af;show aE _ _ _ _ _ _ _ _ _;refine ax ?_;refine af (aW (k+1,{ y with b:=0 },d) (bp eH eH) ⟨oM,?_,hd⟩ oM);rw[hz] at C;rw[U,np,ai h1,ai h2,bi (s0 C)]
   rw[hz] at C;have C:¬ (z.toNat:Int)=98:=s0 C
   refine ag ?_;refine af (aB rfl (λJ=>my ?_) λJ=>al ?_)
   .refine ag ?_;apply af;show aE _ _ _ _ _ _ _ _ _;refine ax ?_;refine af (aW (k+1,{ y with n:=0 },d) (bp eH eH) ⟨oM,?_,hd⟩ oM);rw[hz] at J;rw[U,np,ai h1,ai h2,ai C,bi (s0 J)]
   rw[hz] at J;have J:¬ (z.toNat:Int)=110:=s0 J
   refine ag ?_;refine af (aB rfl (λM=>my ?_) λM=>?_)
   .refine ag ?_;apply af;show aE _ _ _ _ _ _ _ _ _;refine ax ?_;refine af (aW (k+1,{ y with args:=[] },.z) (bp eH eH) ⟨oM,?_,.inr ⟨rfl,rfl⟩⟩ oM);rw[hz] at M;rw[U,np,ai h1,ai h2,ai C,ai J,bi (s0 M)]
   rw[hz] at M;have M:¬ (z.toNat:Int)=108:=s0 M
   apply cB;show aE _ _ _ _ _ _ _ _ _;refine ax ?_;refine af (aW (k+1,y,d) (bp eH eH) ⟨oM,?_,hd⟩ oM);rw[U,np,ai h1,ai h2,ai C,ai J,ai M]
  .have bt:¬ k<s.size:=s0 h
   rw[cX (by simp[dO];omega)] at hy;exact⟨y,d,bp eH eH,hy,hd⟩
 .rintro st ⟨y,d,hg,hy,hd⟩;refine⟨_,hg,al ?_⟩;have hl:cO x (dO s)=om y:=by rw[cO,hy]
  rw[hl];have hla:((y.args.length:Int)=0)↔y.args=[]:=⟨λh=>length_eq_zero_iff.1 oG,λh=>by rw[h];rfl⟩
  rcases hd with rfl|⟨rfl,hd⟩
  .refine aX ?_;refine aX ?_;refine ek ?_;refine af (aC (d:=.s (.bool _)) rfl ?_);simp[om,bm,lW];grind
  .refine aX ?_;refine aX ?_;refine ax ?_;refine cF rfl rfl (abm rfl) (λhc=>⟨ak,V.h⟩) (ax ?_);refine af (aC (d:=.s (.bool _)) rfl ?_);simp[om,bm,lW,hd];grind
def c7{x:cq}{s:ByteArray}(hs:s.size<=8):aH prog 190 [.agg (bU x),S s] (B (cO x (dO s))):=adg (d0:=aU x.args) (.inl rfl) hs
def adh(y:End)(C J:D):List D:=[U8 y.kind,I y.a,I y.b,I y.to,I y.ei,S y.name,U8 y.ins.op,I y.ins.to,I y.ins.a,I y.ins.b,I y.ins.n,C,J,nX y.aK,I y.others]
def gI{x:Abs.End}{s:ByteArray}(hs:s.size<=8):aH prog 195 [.agg (bq x),S s] (B (fc x (dO s))):=by
 refine bx (fo f195) (.cons (.agg (oU x)) fp) (Tr.s _) ?_;refine aA (ag ?_);refine af (br (bp (l:=[(1,S s),(2,.rp 0 0)]) (ml:=[(0,.cells (bq x) 57)]) eH eH) (al ?_));refine SS ?_;refine af (aG (aA (SS ?_)))
 refine af (cw (λst=>∃ y C U,aP prog st ⟨aD [(2,.rp 0 0),(5,B ((dO s).any (·==104)))],bA [(0,.cells (adh y C U) 57)],1⟩/\(dO s).foldl jO x=y/\afa C y.ins.args/\afa U y.args) (cT (α:=Nat×Abs.End×D×D) (λq=>⟨aD [(1,S s),(2,.rp 0 0),(5,B (((dO s).take q.1).any (·==104))),(6,I q.1)],bA [(0,.cells (adh q.2.1 q.2.2.1 q.2.2.2) 57)],1⟩)
  (λq=>q.1<=s.size/\((dO s).take q.1).foldl jO x=q.2.1/\afa q.2.2.1 q.2.1.ins.args/\afa q.2.2.2 q.2.1.args) (λq=>s.size - q.1) (0,x,aU x.ins.args,aU x.args) (bp eH eH) ⟨Nat.zero_le _,rfl,.inl rfl,.inl rfl⟩ ?_) ?_)
 .rintro⟨k,y,C,U⟩ ⟨hk,hy,dN,M⟩;dsimp only at hk hy dN M ⊢;refine aQ ?_;refine af ⟨_,rfl,λh=>?_,λh=>?_⟩
  .have ao:k<s.size:=s0 h
   let⟨hm,hx⟩:=L2 ao;generalize hz:s.data.toList.getD (k:Int).toNat 0=z at hm hx;have dF:((dO s).take (k+1)).foldl jO x=jO y z.toNat:=by rw[ve hx,hy]
   have zr:((dO s).take (k+1)).any (·==104)=(((dO s).take k).any (·==104)||(z.toNat:Int)==104):=by rw[take_add_one,hx,any_append];simp
   generalize ((dO s).take k).any (·==104)=hb at zr;refine ws (ax ?_);refine af (tN (al (ag ?_)));refine af (aB rfl (λh0=>my ?_) λh0=>al ?_)
   .refine ag ?_;apply af;show aE _ _ _ _ _ _ _ _ _;refine ax ?_;rw[hz] at h0;have h0:(z.toNat:Int)=97:=s0 h0
    refine af (aW (k+1,{ y with a:=0 },C,U) (bp ⟨rfl,rfl,?_,rfl,aa⟩ eH) ⟨oM,?_,dN,M⟩ oM)
    .show B hb=B (((dO s).take (k+1)).any (·==104));rw[zr,h0];simp
    .rw[dF,jO,bi h0]
   rw[hz] at h0;have h0:¬ (z.toNat:Int)=97:=s0 h0
   refine ag ?_;refine af (aB rfl (λh1=>my ?_) λh1=>al ?_)
   .refine ag ?_;apply af;show aE _ _ _ _ _ _ _ _ _;refine ax ?_;rw[hz] at h1;have h1:(z.toNat:Int)=98:=s0 h1
    refine af (aW (k+1,{ y with b:=0 },C,U) (bp ⟨rfl,rfl,?_,rfl,aa⟩ eH) ⟨oM,?_,dN,M⟩ oM)
    .show B hb=B (((dO s).take (k+1)).any (·==104));rw[zr,h1];simp
    .rw[dF,jO,ai h0,bi h1]
   rw[hz] at h1;have h1:¬ (z.toNat:Int)=98:=s0 h1
   refine ag ?_;refine af (aB rfl (λh2=>my ?_) λh2=>al ?_)
   .refine ag ?_;apply af;show aE _ _ _ _ _ _ _ _ _;refine ax ?_;rw[hz] at h2;have h2:(z.toNat:Int)=116:=s0 h2
    refine af (aW (k+1,{ y with to:=0 },C,U) (bp ⟨rfl,rfl,?_,rfl,aa⟩ eH) ⟨oM,?_,dN,M⟩ oM)
    .show B hb=B (((dO s).take (k+1)).any (·==104));rw[zr,h2];simp
    .rw[dF,jO,ai h0,ai h1,bi h2]
   rw[hz] at h2;have h2:¬ (z.toNat:Int)=116:=s0 h2
   refine ag ?_;refine af (aB rfl (λJ=>my ?_) λJ=>al ?_)
   .refine ag ?_;apply af;show aE _ _ _ _ _ _ _ _ _;refine ax ?_;rw[hz] at J;have J:(z.toNat:Int)=101:=s0 J
    refine af (aW (k+1,{ y with ei:=0 },C,U) (bp ⟨rfl,rfl,?_,rfl,aa⟩ eH) ⟨oM,?_,dN,M⟩ oM)
    .show B hb=B (((dO s).take (k+1)).any (·==104));rw[zr,J];simp
    .rw[dF,jO,ai h0,ai h1,ai h2,bi J]
   rw[hz] at J;have J:¬ (z.toNat:Int)=101:=s0 J
   refine ag ?_;refine af (aB rfl (λX=>my ?_) λX=>al ?_)
   .refine ag ?_;apply af;show aE _ _ _ _ _ _ _ _ _;refine ax ?_;rw[hz] at X;have X:(z.toNat:Int)=110:=s0 X
    refine af (aW (k+1,{ y with name:=.empty },C,U) (bp ⟨rfl,rfl,?_,rfl,aa⟩ eH) ⟨oM,?_,dN,M⟩ oM)
    .show B hb=B (((dO s).take (k+1)).any (·==104));rw[zr,X];simp
    .rw[dF,jO,ai h0,ai h1,ai h2,ai J,bi X]
   rw[hz] at X;have X:¬ (z.toNat:Int)=110:=s0 X
   refine ag ?_;refine af (aB rfl (λh5=>my ?_) λh5=>al ?_)
   .refine ax ?_;apply af;show aE _ _ _ _ _ _ _ _ _;refine ax ?_;rw[hz] at h5;have h5:(z.toNat:Int)=105:=s0 h5
    refine af (aW (k+1,{ y with ins:=eR },.z,U) (bp ⟨rfl,rfl,?_,rfl,aa⟩ eH) ⟨oM,?_,.inr ⟨rfl,rfl⟩,M⟩ oM)
    .show B hb=B (((dO s).take (k+1)).any (·==104));rw[zr,h5];simp
    .rw[dF,jO,ai h0,ai h1,ai h2,ai J,ai X,bi h5]
   rw[hz] at h5;have h5:¬ (z.toNat:Int)=105:=s0 h5
   refine ag ?_;refine af (aB rfl (λh6=>my ?_) λh6=>al ?_)
   .refine ag ?_;apply af;show aE _ _ _ _ _ _ _ _ _;refine ax ?_;rw[hz] at h6;have h6:(z.toNat:Int)=108:=s0 h6
    refine af (aW (k+1,{ y with args:=[] },C,.z) (bp ⟨rfl,rfl,?_,rfl,aa⟩ eH) ⟨oM,?_,dN,.inr ⟨rfl,rfl⟩⟩ oM)
    .show B hb=B (((dO s).take (k+1)).any (·==104));rw[zr,h6];simp
    .rw[dF,jO,ai h0,ai h1,ai h2,ai J,ai X,ai h5,bi h6]
   rw[hz] at h6;have h6:¬ (z.toNat:Int)=108:=s0 h6
   refine ag ?_;refine af (aB rfl (λh8=>my ?_) λh8=>?_)
   .refine SS ?_;apply af;show aE _ _ _ _ _ _ _ _ _;refine ax ?_;rw[hz] at h8;refine af (aW (k+1,y,C,U) (bp ⟨rfl,rfl,?_,rfl,aa⟩ eH) ⟨oM,?_,dN,M⟩ oM)
    .show B true=B (((dO s).take (k+1)).any (·==104));rw[zr,h8];simp
    .rw[dF,jO,ai h0,ai h1,ai h2,ai J,ai X,ai h5,ai h6]
   rw[hz] at h8;apply cB;show aE _ _ _ _ _ _ _ _ _;refine ax ?_;refine af (aW (k+1,y,C,U) (bp ⟨rfl,rfl,?_,rfl,aa⟩ eH) ⟨oM,?_,dN,M⟩ oM)
   .show B hb=B (((dO s).take (k+1)).any (·==104));rw[zr,h8];simp
   .rw[dF,jO,ai h0,ai h1,ai h2,ai J,ai X,ai h5,ai h6]
  .have bt:¬ k<s.size:=s0 h
   rw[cX (by simp[dO];omega)] at hy ⊢;exact⟨y,C,U,bp eH eH,hy,dN,M⟩
 .rintro st ⟨y,C,U,hg,hy,dN,M⟩;refine⟨_,hg,aG (al ?_)⟩
  have hl:fc x (dO s)=(((dO s).any (·==104)||(bm y.aK.length 0&&bm y.others (-1)))&&uf y):=by
   have hw:∀ (l:List Int) (x:Abs.End),(l.foldl jO x).aK=x.aK/\(l.foldl jO x).others=x.others:=λl=>by
    induction l with
    |nil=>exact λ_=>⟨rfl,rfl⟩
    |cons a l ih=>
     intro x
     have:(jO x a).aK=x.aK/\(jO x a).others=x.others:=by
      unfold jO
      repeat' split
      all_goals exact⟨rfl,rfl⟩
     rw[foldl_cons,(ih _).1,(ih _).2,this.1,this.2];exact⟨rfl,rfl⟩
   let⟨h1,h2⟩:=hw (dO s) x;rw[hy] at h1 h2;rw[fc,hy,h1,h2]
  rw[hl];clear hl hy;generalize (dO s).any (·==104)=hb;have c7:aH prog 190 [.agg [U8 y.ins.op,I y.ins.to,I y.ins.a,I y.ins.b,I y.ins.n,C],S ⟨#[]⟩] (B (om y.ins)):=adg (x:=y.ins) dN oC;refine aX ?_;refine aQ ?_;refine af (cM rfl (λh=>?_) λh=>cI (al ?_))
  .refine aG (al (SS ?_));refine af (de (aC (d:=.s (.bool _)) rfl ?_));revert h;simp[bm];grind
  rcases M with rfl|⟨rfl,M⟩
  .refine aX ?_;refine aX ?_;refine aX ?_;refine aX ?_;refine bh ?_;refine af (aC (d:=.s (.bool _)) rfl ?_);revert h;simp[uf,bm];grind
  .refine aX ?_;refine aX ?_;refine cJ ?_;refine cF rfl rfl (abm rfl) (λhc=>⟨ak,V.h⟩) (aX ?_);refine bh ?_;refine af (aC (d:=.s (.bool _)) rfl ?_);revert h;simp[uf,bm,M];grind
def aaR{P:Program}{st:St}{a n:Nat}{ty:TypeId}{cs vs:List D}(ha:st.env a=.pt cs)(hg:bX P ty=true)(hc:P.cellsOf ty=n)(hv:cs.take n=vs)(ht:a8 P ty=true)(hl:n<=cs.length):
 ∃ p,vP P st (.cell a ty)=some (p,.agg vs)/\p:=⟨a8 P ty=true/\n<=cs.length,by simp[vP,ha,mB,hg,if_true,hc,hv],ht,hl⟩
end Go.Abs
end
namespace Go.Abs
open List
section
variable{P:Program}{m:Mem}{bR:List Nat}
end
end Go.Abs
section
open Go Go.Proofs List
namespace Go.Abs
open Go.Proofs.Tryz
set_option maxRecDepth 100000
def r7(x:Abs.End)(l:List Int)(s:St):Prop:=∃ r m nx,r<nx/\m r=some (.cells (l.map I) 3)/\aP prog s ⟨aD [(1,.pt (bq x)),(3,.rs r 0 l.length)],m,nx⟩
def wa{x:Abs.End}(hlen:x.aK.length<=100000):aH prog 137 [.agg (bq x)] (aU (gE x)):=by
 have bE:∀ a∈[D.agg (bq x)],Tr a:=.cons (.agg (oU x)) .nil;refine bx (fo f137) bE (dP _) ?_;refine aA (ag ?_);refine af (br (cH [(0,bq x,57)] eH (l:=[(1,.pt (bq x))]) eH) (aA ?_));refine SS ?_;refine af ⟨_,.oY _ _ _ 3 3 rfl,?_⟩;refine fS (r7 x (mR x)) (al ?_) λs hs=>?_
 .have yes:x.kind≠3/\x.kind≠4->mR x=[x.to]:=λh=>by rw[mR,bi h]
  have no:¬ (x.kind≠3/\x.kind≠4)->mR x=[]:=λh=>by rw[mR,ai h]
  have aF:up (λ_=>(none:Option Row)) 1 (some (.cells [] 3)) 1=some (.cells [] 3):=aw _ _ _;by_cases U:x.kind=3
  .have xx:(x.kind !=3)=false:=by simp[U]
   refine aQ ?_;(iterate 3 refine z λ_ _=>?_);refine SS ?_;refine af (aB rfl (λh=>oH) λh=>bV ?_);rw[no (by simp[U])];exact⟨_,_,_,Nat.lt_succ_self _,aw _ _ _,au eH⟩
  .by_cases C:x.kind=4
   .have xx:(x.kind !=3)=true:=by simp[C]
    have X:(x.kind !=4)=false:=by simp[C]
    refine cJ ?_;refine af (aB rfl (λh=>(by simp[C] at h)) λh=>bV ?_);rw[no (by simp[C])];exact⟨_,_,_,Nat.lt_succ_self _,aw _ _ _,au eH⟩
   .have xx:(x.kind !=3)=true:=by simp[U]
    have X:(x.kind !=4)=true:=by simp[C]
    refine cJ ?_;refine af (aB rfl (λh=>?_) λh=>(by simp[C] at h));refine my (aQ ?_);refine eT (eQ rfl rfl rfl V.h V.h (fZ rfl rfl) rfl) ak ⟨V.h,rfl,cg,oC,db,da,(by rw[b3];first|omega|(simp;omega)),ey⟩ (SS ?_);apply af;rw[yes ⟨U,C⟩];exact⟨_,_,_,Nat.lt_succ_self _,aw _ _ _,au eH⟩
 let⟨r,m,nx,hr,aF,hg⟩:=hs;refine⟨_,hg,fS (r7 x (tH x)) (al ?_) λs hs=>?_⟩
 .have J:tH x=if x.kind=2\/x.kind=8 then mR x++[x.ei] else mR x:=rfl
  have M:(mR x).length<=1:=by unfold mR;split<;>simp
  generalize mR x=l at aF J M;have nv:(l.map I).length=l.length:=by simp
  by_cases h2:x.kind=2\/x.kind=8
  .rw[bi h2] at J;refine cJ ?_;refine af (aB rfl (λh=>my ?_) λh=>(by rcases h2 with h2|h2<;>simp[h2] at h));refine cz ?_;apply af;rw[J];refine⟨_,_,_,Nat.lt_succ_self _,r9.trans (by rw[map_append];rfl),au ⟨rfl,?_,aa⟩⟩;show D.rs _ 0 _=D.rs _ 0 _;rw[length_append];rfl
  .rw[ai h2] at J;refine cJ ?_;refine af (aB rfl (λh=>(by exfalso;apply h2;revert h;by_cases e2:x.kind=2<;>by_cases e8:x.kind=8<;>simp[e2,e8])) λh=>bV ?_);rw[J];exact⟨r,m,nx,hr,aF,au eH⟩
 clear hg hr aF;let⟨r,m,nx,hr,aF,hg⟩:=hs;refine⟨_,hg,fS (r7 x (iP x x.aK.length)) (aA ?_) λs hs=>?_⟩
 .refine SS ?_
  refine af (cT (α:=Nat×Nat×Mem×Nat) (λs=>⟨aD [(1,.pt (bq x)),(3,.rs s.2.1 0 (iP x s.1).length),(4,I s.1)],s.2.2.1,s.2.2.2⟩)
   (λs=>s.1<=x.aK.length/\s.2.1<s.2.2.2/\s.2.2.1 s.2.1=some (.cells ((iP x s.1).map I) 3)) (λs=>x.aK.length - s.1) (0,r,m,nx) (au ⟨rfl,?_,rfl,aa⟩) ⟨Nat.zero_le _,hr,?_⟩ ?_)
  .show D.rs r 0 _=D.rs r 0 _;simp[iP]
  .show m r=_;rw[aF];simp[iP]
  clear hg hr aF;rintro⟨j,r,m,nx⟩ ⟨hj,hr,aF⟩;dsimp only at hj hr aF ⊢;refine bh ?_;refine af ⟨_,rfl,λh=>?_,λh=>?_⟩
  .have cW:j<x.aK.length:=s0 h
   have hy:x.aK[j]? =some x.aK[j]:=aO cW;generalize x.aK[j]=w at hy;have cx:=amn hy;have Ku:(iP x (j+1)).length=(iP x j).length+1:=by rw[cx];simp
   have nv:((iP x j).map I).length=(iP x j).length:=by simp
   have M:(iP x j).length<=2+j:=by have:=RT x;unfold iP;simp;omega
   generalize iP x j=l at aF cx nv Ku M;refine gj (cJ ?_);refine ag ?_;refine af (ax ?_);refine af (aW (j+1,nx+1,_,_) (au ⟨rfl,?_,rfl,aa⟩) ⟨oM,oM,?_⟩ oM)
   .show D.rs _ 0 _=D.rs _ 0 _;rw[Ku]
   .dsimp only;rw[cx,map_append];exact aw _ _ _
  .have bt:¬ j<x.aK.length:=s0 h
   have:j=x.aK.length:=by omega
   subst this;exact⟨r,m,nx,hr,aF,au eH⟩
 clear hg hr aF;let⟨r,m,nx,hr,aF,hg⟩:=hs;refine⟨_,hg,fS (r7 x (gE x)) (al ?_) λs hs=>?_⟩
 .have hd:gE x=if 0<=x.others then iP x x.aK.length++[x.others] else iP x x.aK.length:=rfl
  have M:(iP x x.aK.length).length<=2+x.aK.length:=by have:=RT x;unfold iP;simp;omega
  generalize iP x x.aK.length=l at aF hd M;have nv:(l.map I).length=l.length:=by simp
  refine ax ?_;refine af (aB rfl (λh=>my ?_) λh=>bV ?_)
  .rw[bi (s0 h)] at hd;refine cz ?_;apply af;rw[hd];refine⟨_,_,_,Nat.lt_succ_self _,r9.trans (by rw[map_append];rfl),au ⟨rfl,?_,aa⟩⟩;show D.rs _ 0 _=D.rs _ 0 _;rw[length_append];rfl
  .rw[ai (s0 h)] at hd;rw[hd];exact⟨r,m,nx,hr,aF,au eH⟩
 clear hg hr aF;let⟨r,m,nx,hr,aF,hg⟩:=hs;refine⟨_,hg,aA ?_⟩;refine ag ?_;refine af (br (cH [(r,(gE x).map I,3)] ⟨aF,aa⟩ (l:=[(2,aU (gE x))]) ⟨oi (sz:=1) c3 (by rw[drop_zero,cX oS]),aa⟩) (aC rfl rfl))
def UM{l:List Int}{n:Int}(hl:l.length<=100000):aH prog 198 [aU l,I n] (aU (nq l n)):=by
 refine bx (fo f198) (.cons (dP _) (.cons (.s _) .nil)) (dP _) ?_;refine ws ?_;refine SS ?_;refine af (aA ?_);refine SS ?_
 refine af (cw (λst=>∃ k:Nat,aP prog st ⟨aD [(0,aU l),(1,I n),(5,I k)],λ_=>none,0⟩/\k<=l.length/\(∀ (j:Nat) y,j<k->l[j]? =some y->y<n)/\∀ y,l[k]? =some y->¬ y<n) (LQ (α:=Nat) (λk=>⟨aD [(0,aU l),(1,I n),(5,I k)],λ_=>none,0⟩)
  (λk=>k<=l.length/\∀ (j:Nat) y,j<k->l[j]? =some y->y<n) (λk=>l.length - k) 0 (au eH) ⟨Nat.zero_le _,λj y hj=>by omega⟩ ?_) ?_)
 .rintro k ⟨hk,hinv⟩;by_cases ao:k<l.length
  .have hx:l[k]? =some l[k]:=aO ao;generalize l[k]=y at hx;have rO:decide ((k:Int)<(l.length:Int))=true:=decide_eq_true oG;refine aX ?_;refine ax ?_;refine af ⟨_,rfl,λh=>?_,λh=>?_⟩
   .have hy:y<n:=by simpa using h
    refine gj ?_;refine ax ?_;refine af (aW (k+1) (au eH) ⟨oG,λj M hj hz=>?_⟩ oG);by_cases e:j=k
    .subst e;rw[hx] at hz;cases hz;exact hy
    .exact hinv j M oG hz
   .have hy:¬ y<n:=by simpa using h
    exact⟨k,au eH,hk,hinv,λM hz=>by rw[hx] at hz;cases hz;exact hy⟩
  .have rO:decide ((k:Int)<(l.length:Int))=false:=decide_eq_false oG;refine bh ?_;(iterate 6 refine z λ_ _=>?_);refine SS ?_;refine af ⟨_,rfl,λh=>oH,λh=>?_⟩;exact⟨k,au eH,hk,hinv,λM hz=>by have:=(bQ.1 hz).1;omega⟩
 .rintro st ⟨k,hg,hk,hinv,cx⟩;have X:=ab5 hk hinv cx;refine⟨_,hg,aG (al ?_)⟩;by_cases cR:l[k]? =some n
  .rw[bi cR] at X;have rO:decide ((k:Int)<(l.length:Int))=true:=decide_eq_true (by have:=(bQ.1 cR).1;omega);refine aX ?_;refine ax ?_;refine af (cM rfl (λh=>?_) λh=>(by simp at h));refine aG (al (ag ?_));refine af (de (aC rfl ?_));rw[X];rfl
  rw[ai cR] at X
  have jR:((l.map I).drop ((0:Int).toNat*1)).take (((k:Int) - 0).toNat*1)=(l.take k).map I:=by
   rw[show(0:Int).toNat*1=0 by simp,show((k:Int) - 0).toNat*1=k by omega,List.drop_zero,List.map_take]
  have xT:((l.map I).drop ((k:Int).toNat*1)).take (((l.length:Int) - k).toNat*1)=(l.drop k).map I:=by
   rw[show(k:Int).toNat*1=k by omega, <- List.map_drop,cX (by simp;try omega)]
  have Wl:((l.take k).map I).take (((k:Int) - 0).toNat*1)=(l.take k).map I:=cX (by simp;try omega);have Wm:((l.drop k).map I).take (((l.length:Int) - k).toNat*1)=(l.drop k).map I:=cX (by simp;try omega);have EJ:((l.take k).map I).length=k:=by simp;omega
  have Kd:((l.drop k).map I).length=l.length - k:=by simp
  have U:((l.take k).map I++[I n])++(l.drop k).map I=(l.take k++n::l.drop k).map I:=by simp
  have hlen:(l.take k++n::l.drop k).length=l.length+1:=by simp;omega
  rw[X];generalize l.take k++n::l.drop k=M at U hlen;generalize (l.take k).map I=A at jR Wl EJ U;generalize (l.drop k).map I=C at xT Wm Kd U;by_cases ao:k<l.length
  .have hx:l[k]? =some l[k]:=aO ao;have aR:l[k]≠n:=λe=>cR (by rw[hx,e]);generalize l[k]=y at hx aR;have rO:decide ((k:Int)<(l.length:Int))=true:=decide_eq_true oG;have iy:(y==n)=false:=s0 aR
   refine aX ?_;refine ax ?_;refine af (cM rfl (λh=>oH) λh=>cI (al ?_));refine ax ?_;refine aI (CU (es':=A) rfl dJ c3 rfl rfl jR) aM ⟨dI,oG,oG,oG⟩ ?_;have J:=Wl
   (first|refine eT (eQ rfl rfl rfl dJ c3 (iH J) rfl) aM ⟨dI,rfl,(by first|omega|exact bL rfl|(simp;done)|(simp;omega)),oC,(by first|rfl|(simp;done)|(simp;omega)),(by unfold maxLen;first|omega|(simp;omega)),(by rw[b3];first|omega|(simp;omega)),(by first|(simp;done)|(simp;omega))⟩ ?_|refine eT (eQ rfl rfl rfl dJ c3 (fZ rfl rfl) rfl) aM ⟨dI,rfl,(by first|omega|exact bL rfl|(simp;done)|(simp;omega)),oC,(by first|rfl|(simp;done)|(simp;omega)),(by unfold maxLen;first|omega|(simp;omega)),(by rw[b3];first|omega|(simp;omega)),(by first|(simp;done)|(simp;omega))⟩ ?_|refine di (kX rfl rfl dJ c3 (iH J)) aM ⟨dI,(by first|omega|exact bL rfl|(simp;done)|(simp;omega)),oC,(by unfold maxLen;first|omega|(simp;omega)),(by rw[b3];first|omega|(simp;omega))⟩ ?_|refine di (kX rfl rfl dJ c3 (fZ rfl rfl)) aM ⟨dI,(by first|omega|exact bL rfl|(simp;done)|(simp;omega)),oC,(by unfold maxLen;first|omega|(simp;omega)),(by rw[b3];first|omega|(simp;omega))⟩ ?_)
   refine aI (ki (v:=.s (.int _ _)) rfl) aM aa ?_
   (first|refine di (pz (cs:=[_]) dJ c3 z3 rfl rfl) aM ⟨rfl,oC,dI,oC⟩ ?_|refine di (pz dJ c3 z3 rfl rfl) aM ⟨rfl,oC,dI,oC⟩ ?_)
   (first|refine eT (eQ rfl rfl rfl dJ c3 (iH J) rfl) aM ⟨dI,rfl,(by first|omega|exact bL rfl|(simp;done)|(simp;omega)),oC,(by first|rfl|(simp;done)|(simp;omega)),(by unfold maxLen;first|omega|(simp;omega)),(by rw[b3];first|omega|(simp;omega)),(by first|(simp;done)|(simp;omega))⟩ ?_|refine eT (eQ rfl rfl rfl dJ c3 (fZ rfl rfl) rfl) aM ⟨dI,rfl,(by first|omega|exact bL rfl|(simp;done)|(simp;omega)),oC,(by first|rfl|(simp;done)|(simp;omega)),(by unfold maxLen;first|omega|(simp;omega)),(by rw[b3];first|omega|(simp;omega)),(by first|(simp;done)|(simp;omega))⟩ ?_|refine di (kX rfl rfl dJ c3 (iH J)) aM ⟨dI,(by first|omega|exact bL rfl|(simp;done)|(simp;omega)),oC,(by unfold maxLen;first|omega|(simp;omega)),(by rw[b3];first|omega|(simp;omega))⟩ ?_|refine di (kX rfl rfl dJ c3 (fZ rfl rfl)) aM ⟨dI,(by first|omega|exact bL rfl|(simp;done)|(simp;omega)),oC,(by unfold maxLen;first|omega|(simp;omega)),(by rw[b3];first|omega|(simp;omega))⟩ ?_)
   (first|refine aI (fR (v:=.sl _ _) rfl) aM aa ?_|refine aI (fR (v:=.rs _ _ _) rfl) aM aa ?_|refine aI (fR (v:=.z) rfl) aM aa ?_)
   refine af (aA ?_);refine ax ?_;refine aI (CU (es':=C) rfl dJ c3 rfl rfl xT) aM ⟨dI,oG,oG,oG⟩ ?_;have J:=Wm
   (first|refine eT (eQ rfl rfl rfl dJ c3 (iH J) rfl) aM ⟨dI,rfl,(by first|omega|exact bL rfl|(simp;done)|(simp;omega)),oC,(by first|rfl|(simp;done)|(simp;omega)),(by unfold maxLen;first|omega|(simp;omega)),(by rw[b3];first|omega|(simp;omega)),(by first|(simp;done)|(simp;omega))⟩ ?_|refine eT (eQ rfl rfl rfl dJ c3 (fZ rfl rfl) rfl) aM ⟨dI,rfl,(by first|omega|exact bL rfl|(simp;done)|(simp;omega)),oC,(by first|rfl|(simp;done)|(simp;omega)),(by unfold maxLen;first|omega|(simp;omega)),(by rw[b3];first|omega|(simp;omega)),(by first|(simp;done)|(simp;omega))⟩ ?_|refine di (kX rfl rfl dJ c3 (iH J)) aM ⟨dI,(by first|omega|exact bL rfl|(simp;done)|(simp;omega)),oC,(by unfold maxLen;first|omega|(simp;omega)),(by rw[b3];first|omega|(simp;omega))⟩ ?_|refine di (kX rfl rfl dJ c3 (fZ rfl rfl)) aM ⟨dI,(by first|omega|exact bL rfl|(simp;done)|(simp;omega)),oC,(by unfold maxLen;first|omega|(simp;omega)),(by rw[b3];first|omega|(simp;omega))⟩ ?_)
   (first|refine aI (fR (v:=.sl _ _) rfl) aM aa ?_|refine aI (fR (v:=.rs _ _ _) rfl) aM aa ?_|refine aI (fR (v:=.z) rfl) aM aa ?_)
   refine af (br (cH [(4,M.map I,3)] ⟨by rw[<- U];rfl,aa⟩ (l:=[(4,aU M)]) ⟨?_,aa⟩) (bj (aC rfl rfl)));show xN _ [(4,_,3)] (.rs 4 0 (0+((k:Int) - 0).toNat+1+((l.length:Int) - k).toNat))=_;rw[show 0+((k:Int) - 0).toNat+1+((l.length:Int) - k).toNat=M.length by omega];exact oi (sz:=1) c3 (by rw[drop_zero,cX oS])
  .have rO:decide ((k:Int)<(l.length:Int))=false:=decide_eq_false oG;refine bh ?_;(iterate 6 refine z λ_ _=>?_);refine SS ?_;refine af (cM rfl (λh=>oH) λh=>cI (al ?_));refine ax ?_;refine aI (CU (es':=A) rfl dJ c3 rfl rfl jR) aM ⟨dI,oG,oG,oG⟩ ?_;have J:=Wl
   (first|refine eT (eQ rfl rfl rfl dJ c3 (iH J) rfl) aM ⟨dI,rfl,(by first|omega|exact bL rfl|(simp;done)|(simp;omega)),oC,(by first|rfl|(simp;done)|(simp;omega)),(by unfold maxLen;first|omega|(simp;omega)),(by rw[b3];first|omega|(simp;omega)),(by first|(simp;done)|(simp;omega))⟩ ?_|refine eT (eQ rfl rfl rfl dJ c3 (fZ rfl rfl) rfl) aM ⟨dI,rfl,(by first|omega|exact bL rfl|(simp;done)|(simp;omega)),oC,(by first|rfl|(simp;done)|(simp;omega)),(by unfold maxLen;first|omega|(simp;omega)),(by rw[b3];first|omega|(simp;omega)),(by first|(simp;done)|(simp;omega))⟩ ?_|refine di (kX rfl rfl dJ c3 (iH J)) aM ⟨dI,(by first|omega|exact bL rfl|(simp;done)|(simp;omega)),oC,(by unfold maxLen;first|omega|(simp;omega)),(by rw[b3];first|omega|(simp;omega))⟩ ?_|refine di (kX rfl rfl dJ c3 (fZ rfl rfl)) aM ⟨dI,(by first|omega|exact bL rfl|(simp;done)|(simp;omega)),oC,(by unfold maxLen;first|omega|(simp;omega)),(by rw[b3];first|omega|(simp;omega))⟩ ?_)
   refine aI (ki (v:=.s (.int _ _)) rfl) aM aa ?_
   (first|refine di (pz (cs:=[_]) dJ c3 z3 rfl rfl) aM ⟨rfl,oC,dI,oC⟩ ?_|refine di (pz dJ c3 z3 rfl rfl) aM ⟨rfl,oC,dI,oC⟩ ?_)
   (first|refine eT (eQ rfl rfl rfl dJ c3 (iH J) rfl) aM ⟨dI,rfl,(by first|omega|exact bL rfl|(simp;done)|(simp;omega)),oC,(by first|rfl|(simp;done)|(simp;omega)),(by unfold maxLen;first|omega|(simp;omega)),(by rw[b3];first|omega|(simp;omega)),(by first|(simp;done)|(simp;omega))⟩ ?_|refine eT (eQ rfl rfl rfl dJ c3 (fZ rfl rfl) rfl) aM ⟨dI,rfl,(by first|omega|exact bL rfl|(simp;done)|(simp;omega)),oC,(by first|rfl|(simp;done)|(simp;omega)),(by unfold maxLen;first|omega|(simp;omega)),(by rw[b3];first|omega|(simp;omega)),(by first|(simp;done)|(simp;omega))⟩ ?_|refine di (kX rfl rfl dJ c3 (iH J)) aM ⟨dI,(by first|omega|exact bL rfl|(simp;done)|(simp;omega)),oC,(by unfold maxLen;first|omega|(simp;omega)),(by rw[b3];first|omega|(simp;omega))⟩ ?_|refine di (kX rfl rfl dJ c3 (fZ rfl rfl)) aM ⟨dI,(by first|omega|exact bL rfl|(simp;done)|(simp;omega)),oC,(by unfold maxLen;first|omega|(simp;omega)),(by rw[b3];first|omega|(simp;omega))⟩ ?_)
   (first|refine aI (fR (v:=.sl _ _) rfl) aM aa ?_|refine aI (fR (v:=.rs _ _ _) rfl) aM aa ?_|refine aI (fR (v:=.z) rfl) aM aa ?_)
   refine af (aA ?_);refine ax ?_;refine aI (CU (es':=C) rfl dJ c3 rfl rfl xT) aM ⟨dI,oG,oG,oG⟩ ?_;have J:=Wm
   (first|refine eT (eQ rfl rfl rfl dJ c3 (iH J) rfl) aM ⟨dI,rfl,(by first|omega|exact bL rfl|(simp;done)|(simp;omega)),oC,(by first|rfl|(simp;done)|(simp;omega)),(by unfold maxLen;first|omega|(simp;omega)),(by rw[b3];first|omega|(simp;omega)),(by first|(simp;done)|(simp;omega))⟩ ?_|refine eT (eQ rfl rfl rfl dJ c3 (fZ rfl rfl) rfl) aM ⟨dI,rfl,(by first|omega|exact bL rfl|(simp;done)|(simp;omega)),oC,(by first|rfl|(simp;done)|(simp;omega)),(by unfold maxLen;first|omega|(simp;omega)),(by rw[b3];first|omega|(simp;omega)),(by first|(simp;done)|(simp;omega))⟩ ?_|refine di (kX rfl rfl dJ c3 (iH J)) aM ⟨dI,(by first|omega|exact bL rfl|(simp;done)|(simp;omega)),oC,(by unfold maxLen;first|omega|(simp;omega)),(by rw[b3];first|omega|(simp;omega))⟩ ?_|refine di (kX rfl rfl dJ c3 (fZ rfl rfl)) aM ⟨dI,(by first|omega|exact bL rfl|(simp;done)|(simp;omega)),oC,(by unfold maxLen;first|omega|(simp;omega)),(by rw[b3];first|omega|(simp;omega))⟩ ?_)
   (first|refine aI (fR (v:=.sl _ _) rfl) aM aa ?_|refine aI (fR (v:=.rs _ _ _) rfl) aM aa ?_|refine aI (fR (v:=.z) rfl) aM aa ?_)
   refine af (br (cH [(4,M.map I,3)] ⟨by rw[<- U];rfl,aa⟩ (l:=[(4,aU M)]) ⟨?_,aa⟩) (bj (aC rfl rfl)));show xN _ [(4,_,3)] (.rs 4 0 (0+((k:Int) - 0).toNat+1+((l.length:Int) - k).toNat))=_;rw[show 0+((k:Int) - 0).toNat+1+((l.length:Int) - k).toNat=M.length by omega];exact oi (sz:=1) c3 (by rw[drop_zero,cX oS])
end Go.Abs
end
namespace Go.Abs
open List
open Go.Proofs.Tryz
open Go
section
def zt(w v:List Int):Prop:=∀ r,fM w r=true->fM v r=true
def zt.refl(w:List Int):zt w w:=λ_ h=>h
variable{w:List Int}
def zt.trans{u v:List Int}(h:zt u w)(k:zt w v):zt u v:=λr x=>k r (h r x)
structure gi(w:List Int):Prop where
 len:w.length=20
 all:jx w
def gi.iS(h:gi w)(n:Int):gi (iS w n):=⟨by simp[h.len],XK h.all⟩
def aku{v:List Int}(C:gi w)(hv:gi v)(h:zt w v)(n:Int):zt (iS w n) (iS v n):=by
 unfold Abs.iS;split
 .by_cases hn:n.toNat / 64<20
  .intro r;rw[Rg C.all (by rw[C.len];exact hn),Rg hv.all (by rw[hv.len];exact hn),Bool.or_eq_true,Bool.or_eq_true];exact Or.imp (h r) id
  .unfold BK;rw[List.set_eq_of_length_le (by rw[C.len];omega),List.set_eq_of_length_le (by rw[hv.len];omega)];exact h
 .exact h
def jx.gW{v:List Int}(h:jx w)(hv:jx v):∀ k,jx (gW w v k)
 |0=>h
 |k+1=>(jx.gW h hv k).set (Yr ((jx.gW h hv k).get _)).1
def YI{w v:List Int}(h:jx w)(hv:jx v):∀ k,k<=w.length->∀ r,fM (gW w v k) r=(fM w r&&(fM v r|| !decide (r / 64<k)))
 |0,_,r=>by simp[Abs.gW]
 |k+1,hk,r=>by
  have ih:=YI h hv k oG;rw[Abs.gW,aa0 oP];split
  .rename_i e;have h1:=ih r;have h2:¬ r / 64<k:=by omega
   simp only[h2,decide_false,Bool.not_false,Bool.or_true,Bool.and_true] at h1;unfold fM at h1;rw[e] at h1;rw[ab9 ((jx.gW h hv k).get _) (hv.get _),h1];unfold fM;rw[e];simp
  .rename_i e;rw[ih r];have:decide (r / 64<k)=decide (r / 64<k+1):=decide_eq_decide.2 oG;rw[this]
def Rh{v:List Int}(C:gi w)(hv:gi v)(r:Nat):fM (kL w v) r=(fM w r&&fM v r):=by
 rw[kL,YI C.all hv.all 20 (by rw[C.len];exact bY _)];by_cases hr:r / 64<20
 .simp[hr]
 .have:fM w r=false:=by
   rw[fM,dU,getElem?_eq_none (by rw[C.len];omega)];simp
  simp[this]
def gi.UT{v:List Int}(C:gi w)(hv:gi v):gi (kL w v):=⟨by simp[C.len],C.all.gW hv.all 20⟩
structure aeG(s t:List Int×Bool):Prop where
 l:gi s.1
 r:gi t.1
 sub:zt s.1 t.1
 ok:s.2=true->t.2=true
def YJ{v:List Int}(C:gi w)(hv:gi v)(h:zt w v):∀ (rs:List Int) {a b:Bool},(a=true->b=true)->kW w a rs=true->kW v b rs=true
 |[],_,_,lR,hx=>lR hx
 |r::rs,a,b,lR,hx=>by
  have hx:kW w (a&&nM w r.toNat) rs=true:=hx;refine YJ C hv h rs (a:=a&&nM w r.toNat) (b:=b&&nM v r.toNat) ?_ hx;rw[aJ,aJ,CR C.all,CR hv.all];exact λhh=>⟨lR hh.1,h _ hh.2⟩
def qx{s t:List Int×Bool}(h:aeG s t)(x:cq):aeG (o8 s x) (o8 t x):=by
 refine⟨h.l.iS _,h.r.iS _,aku h.l h.r h.sub _,?_⟩;unfold o8;simp only[aJ,Bool.or_eq_true];rintro⟨a,b⟩;refine⟨YJ h.l h.r h.sub _ h.ok a,b.imp id ?_⟩;rw[CR h.l.all,CR h.r.all];exact h.sub _
variable{α:Type}{f:CS->α->CS}
def Li(hk:∀ s a,s.ch=true->(f s a).ch=true)(hn:∀ s a,(f s a).ch=false->f s a=s):∀ (l:List α) (s:CS),(l.foldl f s).ch=false->l.foldl f s=s/\∀ a∈l,f s a=s
 |[],s,_=>⟨rfl,λa ha=>by simp at ha⟩
 |a::l,s,h=>by
  let⟨h1,h2⟩:=Li hk hn l (f s a) h;have C:f s a=s:=hn s a (by rw[<- h1];exact h);rw[C] at h1 h2;refine⟨by rw[foldl_cons,C];exact h1,λb hb=>?_⟩;rcases mem_cons.1 hb with rfl|hb
  .exact C
  .exact h2 b hb
def ZM(hk:∀ s a,s.ch=true->(f s a).ch=true):∀ (l:List α) (s:CS),s.ch=true->(l.foldl f s).ch=true
 |[],_,h=>h
 |a::l,s,h=>ZM hk l (f s a) (hk s a h)
variable{x:End}
def SC(s:CS)(t:Int)(h:s.ch=true):(dD x w s t).ch=true:=by
 unfold dD;split
 .rfl
 .exact h
def ab'(s:CS)(t:Int)(h:(dD x w s t).ch=false):dD x w s t=s:=by
 unfold dD at h ⊢;split
 .rename_i hc;rw[bi hc] at h;cases h
 .rfl
def amC{bs:List bI}(s:CS)(k:Nat)(h:s.ch=true):(eK bs s k).ch=true:=by
 unfold eK;split
 .exact h
 .split
  .exact ZM SC _ s h
  .exact h
def amD{bs:List bI}(s:CS)(k:Nat)(h:(eK bs s k).ch=false):eK bs s k=s:=by
 unfold eK at h ⊢;split
 .rfl
 .rename_i x hx;rw[hx] at h;simp only at h;split
  .rename_i hr;rw[bi hr] at h;exact(Li SC ab' _ s h).1
  .rfl
structure aeH(bs:List bI)(s:CS):Prop where
 fix:∀ b x,bs[b]? =some x->s.re.getD b false=true->∀ t∈nextR x.fin,s.re.getD t.toNat false=true/\kL (s.wsq.getD t.toNat []) (jb x.fin t (lB x (s.wsq.getD b [])).1)=s.wsq.getD t.toNat []
variable{bs:List bI}{s:CS}
def amE(h:(lU bs s).ch=false):lU bs s=⟨s.wsq,s.re,false⟩/\aeH bs (lU bs s):=by
 let⟨h1,h2⟩:=Li (amC (bs:=bs)) (amD (bs:=bs)) (range bs.length) ⟨s.wsq,s.re,false⟩ h;have e:lU bs s=⟨s.wsq,s.re,false⟩:=h1;refine⟨e,⟨λb x hx hr t ht=>?_⟩⟩;rw[e] at hr ⊢;have C:=h2 b (mem_range.2 (bQ.1 hx).1);have J:(eK bs ⟨s.wsq,s.re,false⟩ b).ch=false:=by rw[C]
 unfold eK at C J;rw[hx] at C J;simp only at C J hr;rw[bi hr] at C J;have U:=(Li SC ab' _ _ J).2 t ht;have M:(dD x.fin (lB x (s.wsq.getD b [])).1 ⟨s.wsq,s.re,false⟩ t).ch=false:=by rw[U]
 unfold dD at M;split at M
 .cases M
 .rename_i hc;have hc:=not_or.1 hc;refine⟨s0 hc.1,Classical.byContradiction λhh=>hc.2 hh⟩
variable{n:Nat}
def ZN{J:CS->Prop}(hb:∀ b∈bs,y9 n b)(C:∀ s,iU n s->J s->J (lU bs s)):∀ (k:Nat) (s:CS),iU n s->J s->uV s<k->iU n (nY bs k s)/\aeH bs (nY bs k s)/\J (nY bs k s)
 |0,s,_,_,h=>absurd h (Nat.not_lt_zero _)
 |k+1,s,hs,hj,h=>by
  let⟨M,U⟩:=HI hb hs;unfold nY;split
  .rename_i hc;apply ZN hb C k _ M (C s hs hj);rw[su,bi hc] at U;omega
  .rename_i hc;exact⟨M,(amE (s0 hc)).2,C s hs hj⟩
def amF{J:CS->Prop}(hb:∀ b∈bs,y9 n b)(h0:∀ s,J s->J ⟨s.wsq,s.re,false⟩)(C:∀ s k,iU n s->J s->J (eK bs s k))(hs:iU n s)(h:J s):J (lU bs s):=by
 unfold lU
 have:∀ (l:List Nat) (s:CS),iU n s->J s->J (l.foldl (eK bs) s):=λl=>by
  induction l with
  |nil=>exact λs _ h=>h
  |cons a l ih=>exact λs hs h=>ih _ (Rb hb hs).1 (C s a hs h)
 exact this _ _ ⟨hs.lw,hs.lr,hs.nA,hs.rg⟩ (h0 s h)
def aoe{J:CS->Prop}(hb:∀ b∈bs,y9 n b){k:Nat}(hs:iU n s)(h:J s)
 (C:∀ x,bs[k]? =some x->s.re.getD k false=true->∀ u,iU n u->J u->∀ t∈nextR x.fin,J (dD x.fin (lB x (s.wsq.getD k [])).1 u t)):J (eK bs s k):=by
 unfold eK;split
 .exact h
 .rename_i x hx;split
  .rename_i hr;have C:=C x hx hr;have M:=(hb x (bD hx)).to;generalize (lB x (s.wsq.getD k [])).1=w at C
   have:∀ (l:List Int),(∀ t∈l,t∈nextR x.fin)->∀ u,iU n u->J u->J (l.foldl (dD x.fin w) u):=λl=>by
    induction l with
    |nil=>exact λ_ u _ h=>h
    |cons a l ih=>exact λhl u hu h=>ih (λt ht=>hl t (by simp[ht])) _ (KX hu (M a (hl a oS))).1 (C u hu h a (hl a oS))
   exact this _ (λ_ h=>h) s hs h
  .exact h
end
section
variable{i:Nat}
def Lj{α:Type}{l:List α}{k:Nat}{x d:α}(hk:k<l.length):(l.set k x).getD i d=if i=k then x else l.getD i d:=by
 rw[dU,getElem?_set,dU];by_cases h:k=i
 .subst h;rw[bi rfl,bi rfl,bi hk];rfl
 .rw[ai h,ai λe=>h e.symm]
def iU.aeC{n:Nat}{s:CS}(h:iU n s){b:Nat}(hb:b<n):gi (s.wsq.getD b []):=by
 have hl:b<s.wsq.length:=by rw[h.lw];exact hb
 have hx:s.wsq[b]? =some s.wsq[b]:=aO hl;rw[getD_some hx];have hm:s.wsq[b]∈s.wsq:=eh _;exact⟨h.nA _ hm,h.rg _ hm⟩
structure Cert where
 any:Bool
 is:List Bool
def jm(R i:Nat):Nat:=if i<R then i else 1200+(i - R)
def dk(R n:Nat)(w:List Int):List Bool:=(range n).map λi=>fM w (jm R i)
def pX(R n:Nat)(w:List Int):Prop:=∀ r,fM w r=true->∃ i,i<n/\r=jm R i
def mE(c:Cert)(r:Int):Cert:=if r= -1 then c else⟨c.any,c.is.set r.toNat true⟩
def Ar(R:Nat)(c:Cert)(x:cq):Cert:=if x.op=18 then mE (mE c (eP x)) ((R:Int)+x.n) else mE c (eP x)
def gL(R:Nat)(l:List cq)(c:Cert):Cert:=l.foldl (Ar R) c
def qH(x:End)(to:Int)(c:Cert):Cert:=if x.to≠to\/(gE x).tail.any (·==to)=true\/x.kind=3\/x.kind=4 then c else mE c (fY x)
def uh(a b:Cert):Cert:=if a.any=true then b else if b.any=true then a else⟨false,zipWith (λx y=>x&&y) a.is b.is⟩
def wB(c:Cert)(rs:List Int):Bool:=rs.all λr=>c.is.getD r.toNat false
def Ic(R n:Nat)(w:List Int):(dk R n w).length=n:=by simp[dk]
def yL{R n:Nat}{w:List Int}(h:i<n):(dk R n w)[i]? =some (fM w (jm R i)):=by simp[dk,h]
def FF{R n:Nat}{w:List Int}(h:¬ i<n):(dk R n w)[i]? =none:=by simp[dk];omega
def aoh{R j:Nat}(hR:R<=1200)(h:jm R i=jm R j):i=j:=by
 unfold jm at h;split at h<;>split at h<;>omega
variable{r:Nat}
def aoi{w:List Int}(h:w.length=20)(hr:¬ r<1280):fM w r=false:=by
 rw[fM,dU,getElem?_eq_none (by rw[h];omega)];simp
section
variable{R n:Nat}(hR:R<=1200)(hn:n<=R+60)
include hR hn
def apk(h:i<n):jm R i<1280:=by unfold jm;split<;>omega
def YK{w:List Int}(C:gi w)(h:i<n)(r:Nat):fM (iS w (jm R i:Nat)) r=(fM w r||decide (r=jm R i)):=by
 have:=apk hR hn h;rw[iS,bi oG,eU,Rg C.all (by rw[C.len];omega)]
def LF{w:List Int}(C:gi w)(h:i<n):(dk R n w).set i true=dk R n (iS w (jm R i:Nat)):=by
 apply ext_getElem?;intro j;rw[getElem?_set];by_cases hj:j<n
 .rw[yL hj,yL hj,YK hR hn C h];by_cases e:i=j
  .subst e;simp[Ic,h]
  .rw[ai e];have:¬ jm R j=jm R i:=λh=>e (aoh hR h).symm;simp[this]
 .rw[FF hj,FF hj];split
  .rw[Ic,ai oG]
  .rfl
def Lk{w:List Int}(J:gi w)(C:pX R n w)(h:i<n):pX R n (iS w (jm R i:Nat)):=λr hr=>by
 rw[YK hR hn J h,Bool.or_eq_true] at hr;rcases hr with hr|hr
 .exact C r hr
 .exact⟨i,h,s0 hr⟩
omit hR hn in
def amG{w v:List Int}(C:gi w)(hv:gi v):zipWith (λx y=>x&&y) (dk R n w) (dk R n v)=dk R n (kL w v):=by
 apply ext_getElem?;intro j;rw[getElem?_zipWith];by_cases hj:j<n
 .rw[yL hj,yL hj,yL hj,Rh C hv]
 .rw[FF hj,FF hj,FF hj]
omit hR hn in
def YL{w v:List Int}(J:gi w)(hv:gi v)(C:pX R n v):pX R n (kL w v):=λr hr=>by
 rw[Rh J hv,aJ] at hr;exact C r hr.2
omit hR hn in
def aoj{w v:List Int}(M:gi w)(hv:gi v)(J:pX R n w)(U:pX R n v)(h:dk R n w=dk R n v):w=v:=by
 refine YM M.all hv.all (by rw[M.len,hv.len]) λr=>?_
 have hb:∀ i,i<n->fM w (jm R i)=fM v (jm R i):=λi hi=>by
  have:=congrArg (λl:List Bool=>l[i]?) h;simpa only[yL hi,bg] using this
 cases C:fM w r with
 |true=>
  obtain⟨i,hi,rfl⟩:=J r C;rw[<- hb i hi,C]
 |false=>
  cases e2:fM v r with
  |false=>rfl
  |true=>
   obtain⟨i,hi,rfl⟩:=U r e2;rw[hb i hi,e2] at C;cases C
end
def zc:List Int:=replicate 20 oA
def Rj:gi zc:=⟨by simp[zc],λu hu=>by rw[eq_of_mem_replicate hu];simp[fH,oA]⟩
def amH(h:r<1280):fM zc r=true:=by
 have h1:zc.getD (r / 64) 0=oA:=by
  rw[zc,dU,getElem?_replicate,bi oG];rfl
 rw[fM,h1];have h2:r % 64<64:=Nat.mod_lt _ oC;have C:oA.toNat=2 ^ 64 - 1:=rfl;rw[C,Nat.testBit_two_pow_sub_one];simpa using h2
def akv{w:List Int}(C:gi w):kL zc w=w:=by
 refine YM (Rj.UT C).all C.all (by rw[(Rj.UT C).len,C.len]) λr=>?_;rw[Rh Rj C];by_cases h:r<1280
 .rw[amH h,Bool.true_and]
 .rw[aoi C.len h,Bool.and_false]
structure D7(R n:Nat)(x:cq):Prop where
 w:eP x= -1\/∃ i:Nat,i<R/\eP x=i
 s:x.op=18->∃ i:Nat,R+i<n/\x.n=i
def ZQ{R n:Nat}(hR:R<=1200)(hn:n<=R+60)(vd:R<=n){w:List Int}{x:cq}(h:D7 R n x)(C:gi w)(M:pX R n w):
 Ar R ⟨false,dk R n w⟩ x=⟨false,dk R n (BA w x)⟩/\gi (BA w x)/\pX R n (BA w x):=by
 have X:∀ {v:List Int},iS v (-1)=v:=λ{v}=>by rw[iS,ai oG]
 have U:∀ {i:Nat},i<R->((i:Nat):Int)=(jm R i:Nat):=λ{i} hi=>by rw[jm,bi hi]
 unfold Ar BA;by_cases J:x.op=18
 .let⟨i,hi,e⟩:=h.s J;have zH:eP x= -1:=by simp[eP,bf,qu,sw,J]
  have hp:nW x.n=(jm R (R+i):Nat):=by rw[e];rw[nW,jm,ai oG];omega
  rw[bi J,bi J,zH,hp];refine⟨?_,C.iS _,Lk hR hn C M hi⟩;unfold mE;rw[bi rfl,ai oG,e, <- LF hR hn C hi];congr 2
 .rw[ai J,ai J];rcases h.w with e|⟨i,hi,e⟩
  .rw[e,X];exact⟨bi rfl,C,M⟩
  .rw[e,U hi];refine⟨?_,C.iS _,Lk hR hn C M oG⟩;rw[mE,ai oG, <- LF hR hn C oG, <- U hi,eU]
def Ie{R n:Nat}(hR:R<=1200)(hn:n<=R+60)(C:R<=n):∀ {l:List cq} (_:∀ x∈l,D7 R n x) {w:List Int} {ok:Bool} (_:gi w) (_:pX R n w),
 gL R l ⟨false,dk R n w⟩=⟨false,dk R n (l.foldl o8 (w,ok)).1⟩/\gi (l.foldl o8 (w,ok)).1/\pX R n (l.foldl o8 (w,ok)).1
 |[],_,w,ok,hw,ho=>⟨rfl,hw,ho⟩
 |x::l,h,w,ok,hw,ho=>by
  let⟨h1,h2,J⟩:=ZQ hR hn C (h x oS) hw ho;rw[gL,foldl_cons,foldl_cons,h1];exact Ie hR hn C (λy hy=>h y (by simp[hy])) h2 J
def count_tail{l:List Int}{a b:Int}(h:a=b):((a::l).count b=1)↔l.any (·==b)=false:=by
 subst h;rw[count_cons_self,any_eq_false];constructor
 .intro h x hx;have h0:l.count a=0:=by omega
  rw[count_eq_zero] at h0;intro e;have:x=a:=s0 e
  subst this;exact h0 hx
 .intro h;have:l.count a=0:=count_eq_zero.2 λhm=>h a hm oS;omega
variable{x:End}
def ZR{R n:Nat}(hR:R<=1200)(hn:n<=R+60)(vd:R<=n)(he:gE x=ep x)(u6:fY x= -1\/∃ i:Nat,i<R/\fY x=i){to:Int}{w:List Int}(J:gi w)(M:pX R n w):
 qH x to ⟨false,dk R n w⟩=⟨false,dk R n (jb x to w)⟩/\gi (jb x to w)/\pX R n (jb x to w):=by
 have aR:∀ {v:List Int},iS v (-1)=v:=λ{v}=>by rw[iS,ai oG]
 have U:FR x to=true↔¬ (x.to≠to\/(gE x).tail.any (·==to)=true\/x.kind=3\/x.kind=4):=by
  rw[FR,aJ,eb,eb,he];unfold ep;by_cases C:x.kind=3\/x.kind=4
  .rw[bi (by simpa[bf] using C)];simp[C]
  .rw[ai (by simpa[bf] using C),tail_cons];generalize ((if bf [2,8] x.kind=true then [x.ei] else [])++(x.aK.map (·.to)++if kQ x=true then [x.others] else []))=l;constructor
   .rintro⟨h1,h2⟩ h;rcases h with h|h|h|h
    .exact h h1
    .have:=(count_tail (l:=l) h1).1 oG;rw[this] at h;cases h
    .exact C (.inl h)
    .exact C (.inr h)
   .intro h;have h1:x.to=to:=Classical.byContradiction λe=>h (.inl e);refine⟨h1,?_⟩;have:=(count_tail (l:=l) h1).2 (Bool.eq_false_iff.2 λe=>h (.inr (.inl e)));omega
 unfold qH jb;by_cases ha:FR x to=true
 .rw[bi ha,ai (U.1 ha)];rcases u6 with e|⟨i,hi,e⟩
  .rw[e,aR];exact⟨bi rfl,J,M⟩
  .have X:((i:Nat):Int)=(jm R i:Nat):=by rw[jm,bi hi]
   rw[e,X];refine⟨?_,J.iS _,Lk hR hn J M oG⟩;rw[mE,ai oG, <- LF hR hn J oG, <- X,eU]
 .rw[ai ha,bi (Classical.byContradiction λh=>ha (U.2 h))];exact⟨rfl,J,M⟩
structure uj(R n N:Nat)(s:CS):Prop where
 ok:iU N s
 yes:∀ k,k<N->s.re.getD k false=true->pX R n (s.wsq.getD k [])
 no:∀ k,k<N->s.re.getD k false=false->s.wsq.getD k []=zc
def dm(R n:Nat)(s:CS)(k:Nat):Cert:=if s.re.getD k false=true then⟨false,dk R n (s.wsq.getD k [])⟩ else⟨true,replicate n false⟩
def GX(x:End)(R n:Nat)(w:List Int)(s:CS)(t:Nat):Cert:=uh (dm R n s t) (qH x t ⟨false,dk R n w⟩)
def aaW{R n N:Nat}(hR:R<=1200)(hn:n<=R+60)(vd:R<=n){s:CS}(hs:uj R n N s){x:End}(he:gE x=ep x)(u6:fY x= -1\/∃ i:Nat,i<R/\fY x=i){t:Nat}(ht:t<N)
 {w:List Int} (hw:gi w) (ho:pX R n w):
 uj R n N (dD x w s t)/\((GX x R n w s t=dm R n s t/\dD x w s t=s)\/((GX x R n w s t).any≠(dm R n s t).any\/(GX x R n w s t).is≠(dm R n s t).is)/\(dD x w s t).ch=true/\
  ∀ k,dm R n (dD x w s t) k=if k=t then GX x R n w s t else dm R n s k):=by
 obtain⟨o1,C,U⟩:=ZR hR hn vd he u6 (to:=(t:Int)) hw ho;have hlw:s.wsq.length=N:=hs.ok.lw;have hlr:s.re.length=N:=hs.ok.lr;have qi:=hs.ok.aeC ht;have M:=(KX (x:=x) (w:=w) (t:=(t:Int)) hs.ok ⟨oG,oG⟩).1;unfold GX;rw[o1];generalize hv:jb x t w=v at C U
 have key:∀ u:List Int,(s.re.getD t false=true->u≠s.wsq.getD t [])->kL (s.wsq.getD t []) v=u->pX R n u->uh (dm R n s t) ⟨false,dk R n v⟩=⟨false,dk R n u⟩->(⟨false,dk R n u⟩:Cert).any≠(dm R n s t).any\/dk R n u≠(dm R n s t).is->
  uj R n N (dD x w s t)/\((uh (dm R n s t) ⟨false,dk R n v⟩=dm R n s t/\dD x w s t=s)\/((uh (dm R n s t) ⟨false,dk R n v⟩).any≠(dm R n s t).any\/(uh (dm R n s t) ⟨false,dk R n v⟩).is≠(dm R n s t).is)/\(dD x w s t).ch=true/\
  ∀ k,dm R n (dD x w s t) k=if k=t then uh (dm R n s t) ⟨false,dk R n v⟩ else dm R n s k):=λu hu hm hou hb aR=>by
  have nV:dD x w s t=⟨s.wsq.set t u,s.re.set t true,true⟩:=by
   unfold dD;rw[eU,hv,hm,bi];cases e:s.re.getD t false with
   |false=>exact .inl rfl
   |true=>exact .inr (hu e)
  rw[nV] at M ⊢;have WA:∀ k,(s.wsq.set t u).getD k []=if k=t then u else s.wsq.getD k []:=λk=>Lj oG
  have X:∀ k,(s.re.set t true).getD k false=if k=t then true else s.re.getD k false:=λk=>Lj oG
  refine⟨⟨M,λk hk h=>?_,λk hk h=>?_⟩,.inr ⟨?_,rfl,λk=>?_⟩⟩
  .rw[WA];rw[X] at h;by_cases e:k=t
   .rw[bi e];exact hou
   .rw[ai e] at h ⊢;exact hs.yes k hk h
  .rw[WA];rw[X] at h;by_cases e:k=t
   .rw[bi e] at h;cases h
   .rw[ai e] at h ⊢;exact hs.no k hk h
  .rw[hb];exact aR
  .rw[hb];unfold dm;rw[WA,X];by_cases e:k=t
   .rw[bi e,bi e,bi e,bi rfl]
   .rw[ai e,ai e,ai e]
 cases J:s.re.getD t false with
 |false=>
  have hc:dm R n s t=⟨true,List.replicate n false⟩:=by unfold dm;rw[J];rfl
  refine key v (λh=>by rw[J] at h;cases h) (by rw[hs.no t ht J,akv C]) U ?_ (.inl ?_)
  .rw[hc];rfl
  .rw[hc];simp
 |true=>
  have hc:dm R n s t=⟨false,dk R n (s.wsq.getD t [])⟩:=by unfold dm;rw[J];rfl
  have hb:uh (dm R n s t) ⟨false,dk R n v⟩=⟨false,dk R n (kL (s.wsq.getD t []) v)⟩:=by
   rw[hc];unfold uh;rw[ai oS,ai oS,amG qi C]
  by_cases hm:kL (s.wsq.getD t []) v=s.wsq.getD t []
  .have nV:dD x w s t=s:=by
    unfold dD;rw[eU,hv,hm,J,ai oS]
   rw[nV,hb,hm,hc];exact⟨hs,.inl ⟨rfl,rfl⟩⟩
  .refine key _ (λ_=>hm) rfl (YL qi C U) hb (.inr λe=>hm ?_);rw[hc] at e;exact aoj (qi.UT C) qi (YL qi C U) (hs.yes t ht J) e
def aaV{R n N:Nat}{s:CS}(h:uj R n N s)(c:Bool):uj R n N ⟨s.wsq,s.re,c⟩:=⟨⟨h.ok.lw,h.ok.lr,h.ok.nA,h.ok.rg⟩,h.yes,h.no⟩
def YA{R n N args:Nat}(hR:R<=1200)(hn:n<=R+60)(vd:R<=n)(U:0<N)(ha:args<=R):uj R n N (nD N args)/\dm R n (nD N args) 0=⟨false,replicate args true++replicate (n - args) false⟩/\
 ∀ k,0<k->k<N->dm R n (nD N args) k=⟨true,replicate n false⟩:=by
 have hA:∀ k,k<=R->gi (lI k)/\pX R n (lI k)/\dk R n (lI k)=replicate k true++replicate (n - k) false:=λk=>by
  induction k with
  |zero=>
   intro _;have hz:∀ r,fM (lI 0) r=false:=amI 20;refine⟨⟨oS,K0 0⟩,(λr hr=>by rw[hz r] at hr;cases hr),?_⟩;apply ext_getElem?;intro j;by_cases hj:j<n
   .rw[yL hj,hz];simp[hj]
   .rw[FF hj];simp;omega
  |succ k ih=>
   intro hk;let⟨h1,h2,J⟩:=ih oG;have jw:((k:Nat):Int)=(jm R k:Nat):=by rw[jm,bi oG]
   have he:lI (k+1)=iS (lI k) (jm R k:Nat):=by rw[<- jw];rfl
   rw[he];refine⟨h1.iS _,Lk hR hn h1 h2 oG,?_⟩;rw[<- LF hR hn h1 oG,J,RP oG]
 let⟨h1,h2,J⟩:=hA args ha;have C:∀ k,(nD N args).wsq.getD k []=if k=0 then lI args else(replicate N zc).getD k []:=λk=>Lj (s0 U)
 have gr:∀ k,(nD N args).re.getD k false=if k=0 then true else(replicate N false).getD k false:=λk=>Lj (s0 U)
 have M:∀ k,k<N->(replicate N zc).getD k []=zc:=λk hk=>by rw[dU,getElem?_replicate,bi hk];rfl
 have X:∀ k,(replicate N false).getD k false=false:=λk=>by
  rw[dU,getElem?_replicate];split<;>rfl
 refine⟨⟨PQ (K0 args),λk hk h=>?_,λk hk h=>?_⟩,?_,λk h0 hk=>?_⟩
 .rw[gr] at h;rw[C];by_cases e:k=0
  .rw[bi e];exact h2
  .rw[ai e,X] at h;cases h
 .rw[gr] at h;rw[C];by_cases e:k=0
  .rw[bi e] at h;cases h
  .rw[ai e];exact M k hk
 .rw[dm,gr,C,bi rfl,bi rfl,bi rfl,J]
 .rw[dm,gr,ai (show ¬ k=0 by omega),X];rfl
end
end Go.Abs
section
open Go Go.Proofs List
namespace Go.Abs
open Go.Proofs.Tryz
def dn(c:Cert):List D:=[B c.any,lA c.is]
@[simp] theorem azj (c : Cert) : (dn c).length = 2 := rfl
def yS(c:Cert):∀ a∈dn c,Tr a:=.cons (.s _) (.cons (.sl (.map λ_=>.s _)) .nil)
def Lg(c:Cert)(r:Int):(mE c r).is.length=c.is.length:=by unfold mE;split<;>simp
def amo(R:Nat)(c:Cert)(x:cq):(Ar R c x).is.length=c.is.length:=by unfold Ar;split<;>simp[Lg]
def HY(R:Nat):∀ (l:List cq) (c:Cert),(gL R l c).is.length=c.is.length
 |[],_=>rfl
 |x::l,c=>by
  rw[gL,foldl_cons];exact(HY R l _).trans (amo R c x)
def Yx(x:End)(to:Int)(c:Cert):(qH x to c).is.length=c.is.length:=by unfold qH;split<;>simp[Lg]
def JO(n:Nat)(r:Int):Prop:=r= -1\/∃ i:Nat,i<n/\r=i
def xE{c:Cert}{rs:List Int}(M:∀ r∈rs,∃ i:Nat,i<c.is.length/\r=i):aH prog 104 [.agg (dn c),aU rs] (B (wB c rs)):=by
 have C:∀ a∈[D.agg (dn c),aU rs],Tr a:=.cons (.agg (yS c)) (.cons (dP _) .nil);refine nB (fo f104).he C λU=>?_;have hlen:=(U (aU rs) oS).sl.1;unfold maxLen at hlen;refine bx (fo f104) C (Tr.s _) ?_;refine aA (ag ?_);refine af (br (cH [(0,dn c,163)] eH (l:=[(1,aU rs),(2,.pt (dn c))]) eH) (aG (aA ?_)));refine SS ?_
 refine af (cw (λs=>aP prog s ⟨aD [],λ_=>none,1⟩/\∀ (j:Nat) y,rs[j]? =some y->c.is.getD y.toNat false=true) (cT (α:=Nat) (λk=>⟨aD [(1,aU rs),(2,.pt (dn c)),(5,I k)],λ_=>none,1⟩)
  (λk=>k<=rs.length/\∀ j y,j<k->rs[j]? =some y->c.is.getD y.toNat false=true) (λk=>rs.length - k) 0 (au eH) ⟨oG,λj y hj=>by omega⟩ ?_) ?_)
 .rintro k ⟨hk,hinv⟩;refine aQ ?_;refine af ⟨_,rfl,λh=>?_,λh=>?_⟩
  .have ao:k<rs.length:=s0 h
   have hx:rs[k]? =some rs[k]:=aO ao;let⟨i,hi,e⟩:=M _ (eh ao);have hy:c.is[i]? =some c.is[i]:=aO hi;rw[e] at hx;clear e
   have hg:∀ y,rs[k]? =some y->c.is.getD y.toNat false=c.is[i]:=λy h=>by
    rw[hx] at h;cases h;rw[eU,getD_some hy]
   generalize c.is[i]=b at hy hg;refine c6 iO (aX ?_);refine bJ bM (aB rfl (λhp=>?_) λhp=>?_)
   .refine ws (SS ?_);refine af (bj (bP (aY (aC (d:=B false) rfl ?_))));have:wB c rs=false:=all_eq_false.2 ⟨_,bD hx,by rw[hg _ hx];simpa using hp⟩;rw[this]
   .refine cB (ax ?_);refine af (aW (k+1) (au eH) ⟨oG,λj y hj hy=>?_⟩ oG);by_cases e:j=k
    .subst e;rw[hg y hy];simpa using hp
    .exact hinv j y oG hy
  .have X:¬ k<rs.length:=s0 h
   exact⟨.forget _ _ _ _ λ_=>.inr rfl,λj y hy=>hinv j y (by have:=(bQ.1 hy).1;omega) hy⟩
 .rintro s ⟨hg,J⟩;refine⟨_,hg,al ?_⟩;refine SS ?_;refine af (aC (d:=B true) rfl ?_)
  have:wB c rs=true:=bK.2 λx hx=>by
   let⟨j,hj⟩:=cV hx;exact J j x hj
  rw[this]
def nr{c:Cert}{r:Int}(hl:c.is.length<=100000)(hr:JO c.is.length r):aH prog 106 [.agg (dn c),I r] (.agg (dn (mE c r))):=by
 refine bx (fo f106) (.cons (.agg (yS c)) fp) (.agg (yS _)) ?_;refine ws (ag ?_);refine af (aG (al ?_));rcases hr with rfl|⟨i,hi,rfl⟩
 .refine ag ?_;refine af (wY ?_);refine aG (al (ag ?_));refine af (de (nG (kz rfl rfl xF pj rfl t163 (bL rfl)) ?_));rfl
 .have iy:((i:Int)== -1)=false:=by simp
  refine ag ?_;refine af (sT (cI (c6 (hD [(2,3),(2,4),(0,5),(1,5)]) ?_)));have J:(c.is.map B).length=c.is.length:=by simp
  have C:(c.is.map B).take (c.is.length*1)=c.is.map B:=cX oS
  refine SS ?_
  refine SS ?_
  refine SS ?_
  refine SS ?_
  refine SS ?_
  (first|refine eT (eQ rfl rfl rfl EK c4 (iH C) rfl) aM ⟨D6,rfl,(by first|omega|exact bL rfl|(simp;done)|(simp;omega)),oC,(by first|rfl|(simp;done)|(simp;omega)),(by unfold maxLen;first|omega|(simp;omega)),(by rw[b4];first|omega|(simp;omega)),(by first|(simp;done)|(simp;omega))⟩ ?_|refine eT (eQ rfl rfl rfl EK c4 (fZ rfl rfl) rfl) aM ⟨D6,rfl,(by first|omega|exact bL rfl|(simp;done)|(simp;omega)),oC,(by first|rfl|(simp;done)|(simp;omega)),(by unfold maxLen;first|omega|(simp;omega)),(by rw[b4];first|omega|(simp;omega)),(by first|(simp;done)|(simp;omega))⟩ ?_|refine di (kX rfl rfl EK c4 (iH C)) aM ⟨D6,(by first|omega|exact bL rfl|(simp;done)|(simp;omega)),oC,(by unfold maxLen;first|omega|(simp;omega)),(by rw[b4];first|omega|(simp;omega))⟩ ?_|refine di (kX rfl rfl EK c4 (fZ rfl rfl)) aM ⟨D6,(by first|omega|exact bL rfl|(simp;done)|(simp;omega)),oC,(by unfold maxLen;first|omega|(simp;omega)),(by rw[b4];first|omega|(simp;omega))⟩ ?_)
  refine aI (Ln aey adj UN rfl rfl) aM ⟨t163,adk⟩ (di (B5 UN) aM t163 (dH (jV rfl rfl rfl rfl) aM (eO t163 pj bk (by rfl)) (bJ bM (al ?_))));refine bh ?_;refine af (aA (ag ?_))
  have e:sub (dq 3 ((c.is.set i true).map B) (prog.cellsOf 4)) (.rs 3 0 (0+c.is.length))=.sl ((c.is.set i true).map B) c.is.length:=by
   rw[c4,Nat.zero_add,w8,drop_zero,cX oS]
  refine af (br (cH [(3,(c.is.set i true).map B,4),(1,[B c.any,.sl ((c.is.set i true).map B) c.is.length],163)] ⟨?_,?_,aa⟩ (l:=[(4,.pt [B c.any,.sl ((c.is.set i true).map B) c.is.length])]) eH) (bj (nG (aaR rfl xF pj rfl t163 (bY _)) ?_)))
  .rw[map_set];rfl
  .exact congrArg (λd=>some (Row.cells [B c.any,d] 163)) e
  rw[mE,ai oG,eU];show _=D.agg [B c.any,.sl _ (c.is.set i true).length];rw[length_set];rfl
def dX{l:List Int}{n c:Int}(h:(n==c)=true)(hm:c∈l):B (n==c)=B (bf l n):=by
 have:bf l n=true:=any_eq_true.2 ⟨c,hm,h⟩;rw[h,this]
def wc{x:cq}:aH prog 107 [.agg (bU x)] (I (eP x)):=by
 refine bx (fo f107) (.cons (.agg (tP x)) .nil) (Tr.s _) ?_;refine aA (ag ?_);refine af (br (cH [(0,bU x,54)] eH (l:=[(1,.pt (bU x))]) eH) (aG (al ?_)));refine ag ?_;refine af (rj ?_)
 have J:eP x=if bf (qu++sw) x.op=true then x.to else -1:=by
  unfold eP;have:bf (qu++sw) x.op=(bf qu x.op||bf sw x.op):=any_append;rw[this];cases bf qu x.op<;>cases bf sw x.op<;>rfl
 refine fS (λs=>aP prog s ⟨aD [(1,.pt (bU x)),(4,U8 x.op),(5,B (bf (qu++sw) x.op))],λ_=>none,1⟩) (al ?_) λs hg=>⟨_,hg,?_⟩
 . (iterate 20 refine ag ?_;refine af (aB rfl (λh=>bV (au ⟨rfl,rfl,dX h oC,aa⟩)) λ_=>al ?_));refine ag ?_;refine af (aB rfl (λh=>bV (au ⟨rfl,rfl,dX h oC,aa⟩)) λWn=>nH ?_);refine ag ?_;refine af (au ⟨rfl,rfl,?_,aa⟩);show D.s (.bool (x.op==37))=_;simp[bf,qu,sw,cons_append,nil_append,any_cons,any_nil,Wn,Bool.false_or,Bool.or_false, *]
 refine aB rfl (λh1=>al ?_) λh1=>qw (al ?_)
 .refine ax ?_;refine af (bj (cA (aY (aC rfl ?_))));rw[J,bi h1];rfl
 .refine SS ?_;refine af (aC rfl ?_);rw[J,ai (by simp[h1])];rfl
def N9{x:Abs.End}:aH prog 143 [.agg (bq x)] (I (fY x)):=by
 have J:∀ a∈[D.agg (bq x)],Tr a:=.cons (.agg (oU x)) .nil;have wc:=wc (x:=x.ins);refine bx (fo f143) J (Tr.s _) ?_;refine aA (ag ?_);refine af (br (cH [(0,bq x,57)] eH (l:=[(1,.pt (bq x))]) eH) (aG (al ?_)));refine ag ?_;refine af (rj (al (ag ?_)));refine af (aB rfl (λh1=>?_) λh1=>?_)
 .have h1:x.kind=5:=s0 h1
  refine ws (aQ ?_);refine af (bj (cA (aY (aC (d:=I (eP x.ins)) rfl ?_))));simp[fY,h1]
 have h1:¬ x.kind=5:=s0 h1
 refine fS (λs=>aP prog s ⟨aD [(1,.pt (bq x)),(4,U8 x.kind),(10,B (bf [6,7] x.kind))],λ_=>none,1⟩) (al ?_) λs hg=>⟨_,hg,?_⟩
 .refine ag ?_;refine af (aB rfl (λh=>bV (au ⟨rfl,rfl,dX h oC,aa⟩)) λe6=>nH ?_);refine ag ?_;refine af (au ⟨rfl,rfl,?_,aa⟩);show D.s (.bool (x.kind==7))=_;simp[bf,e6]
 refine aB rfl (λh2=>?_) λh2=>?_
 .refine ws (ax ?_);refine af (bj (cA (aY (aC (d:=I x.a) rfl ?_))));simp[fY,h1,h2]
 refine ws (ag ?_);refine af (aB rfl (λC=>?_) λC=>?_)
 .have C:x.kind=8:=s0 C
  refine ws (ax ?_);refine af (bj (cA (aY (aC (d:=I x.b) rfl ?_))));simp[fY,h2,C];simp[bf]
 have C:¬ x.kind=8:=s0 C
 refine qw (al (SS ?_));refine af (aC (d:=I (-1)) rfl ?_);simp[fY,h1,h2,C]
def Ca{x:cq}(hx:x.op=10\/x.op=38->x.args.length<=1000):aH prog 105 [.agg (bU x)] (aU (dE x)):=by
 have bE:∀ a∈[D.agg (bU x)],Tr a:=.cons (.agg (tP x)) .nil;refine bx (fo f105) bE (dP _) ?_;refine aA (ag ?_);refine af (br (cH [(0,bU x,54)] eH (l:=[(1,.pt (bU x))]) eH) (aG (al ?_)));refine ag ?_;refine af (rj (fS (λs=>aP prog s ⟨aD [(1,.pt (bU x)),(4,U8 x.op),(5,B (bf sD x.op))],λ_=>none,1⟩) (al ?_) λs hg=>⟨_,hg,?_⟩))
 . (iterate 7 refine ag ?_;refine af (aB rfl (λh=>bV (au ⟨rfl,rfl,dX h oC,aa⟩)) λ_=>al ?_));refine ag ?_;refine af (aB rfl (λh=>bV (au ⟨rfl,rfl,dX h oC,aa⟩)) λWo=>nH ?_);refine ag ?_;refine af (au ⟨rfl,rfl,?_,aa⟩);show D.s (.bool (x.op==36))=_;simp[bf,sD,Wo, *]
 refine aB rfl (λh1=>?_) λh1=>?_
 .refine aA (aQ ?_);refine af (br (cH [(1,([x.a]).map I,3)] eH (l:=[(2,aU ([x.a]))]) ⟨oi c3 rfl,aa⟩) (bj (cA (aY (aC (d:=aU ([x.a])) rfl ?_)))));exact congrArg aU (by rw[dE,bi h1])
 refine fS (λs=>aP prog s ⟨aD [(1,.pt (bU x)),(4,U8 x.op),(18,B (bf wO x.op))],λ_=>none,1⟩) (al ?_) λs hg=>⟨_,hg,?_⟩
 . (iterate 11 refine ag ?_;refine af (aB rfl (λh=>bV (au ⟨rfl,rfl,dX h oC,aa⟩)) λ_=>al ?_));refine ag ?_;refine af (aB rfl (λh=>bV (au ⟨rfl,rfl,dX h oC,aa⟩)) λWq=>nH ?_);refine ag ?_;refine af (au ⟨rfl,rfl,?_,aa⟩);show D.s (.bool (x.op==37))=_;simp[bf,wO,Wq, *]
 refine aB rfl (λh2=>?_) λh2=>?_
 .refine aA (cz ?_);refine af (br (cH [(1,([x.a,x.b]).map I,3)] eH (l:=[(2,aU ([x.a,x.b]))]) ⟨oi c3 rfl,aa⟩) (bj (cA (aY (aC (d:=aU ([x.a,x.b])) rfl ?_)))));exact congrArg aU (by rw[dE,ai (by simp[h1]),bi h2])
 refine ws (ag ?_);refine af (aB rfl (λC=>?_) λC=>?_)
 .have C:x.op=10:=s0 C
  have hl:=hx (.inl C);have M:(x.args.map I).take (x.args.length*1)=x.args.map I:=cX oS;apply aA
  refine SS ?_
  refine SS ?_
  refine SS ?_
  (first|refine eT (eQ rfl rfl rfl dJ c3 (iH M) rfl) aM ⟨dI,rfl,(by first|omega|exact bL rfl|(simp;done)|(simp;omega)),oC,(by first|rfl|(simp;done)|(simp;omega)),(by unfold maxLen;first|omega|(simp;omega)),(by rw[b3];first|omega|(simp;omega)),(by first|(simp;done)|(simp;omega))⟩ ?_|refine eT (eQ rfl rfl rfl dJ c3 (fZ rfl rfl) rfl) aM ⟨dI,rfl,(by first|omega|exact bL rfl|(simp;done)|(simp;omega)),oC,(by first|rfl|(simp;done)|(simp;omega)),(by unfold maxLen;first|omega|(simp;omega)),(by rw[b3];first|omega|(simp;omega)),(by first|(simp;done)|(simp;omega))⟩ ?_|refine di (kX rfl rfl dJ c3 (iH M)) aM ⟨dI,(by first|omega|exact bL rfl|(simp;done)|(simp;omega)),oC,(by unfold maxLen;first|omega|(simp;omega)),(by rw[b3];first|omega|(simp;omega))⟩ ?_|refine di (kX rfl rfl dJ c3 (fZ rfl rfl)) aM ⟨dI,(by first|omega|exact bL rfl|(simp;done)|(simp;omega)),oC,(by unfold maxLen;first|omega|(simp;omega)),(by rw[b3];first|omega|(simp;omega))⟩ ?_)
  refine SS ?_
  refine af (br (cH [(2,x.args.map I,3)] eH (l:=[(2,aU x.args)]) ⟨?_,aa⟩) (bj (cA (aY (aC (d:=aU x.args) rfl ?_)))))
  .show xN _ [(2,_,3)] (.rs 2 0 (0+x.args.length))=_;refine(oi c3 (es:=x.args.map I) (cX oS)).trans ?_;rw[Nat.zero_add]
  exact congrArg aU (by rw[dE,ai (by simp[h1]),ai (by simp[h2]),bi C])
 have C:¬ x.op=10:=s0 C
 refine ws (ag ?_);refine af (aB rfl (λJ=>?_) λJ=>?_)
 .have J:x.op=38:=s0 J
  have hl:=hx (.inr J);have M:(x.args.map I).take (x.args.length*1)=x.args.map I:=cX oS;apply aA
  refine SS ?_
  refine SS ?_
  refine SS ?_
  refine SS ?_
  refine SS ?_
  refine SS ?_
  refine SS ?_
  (first|refine eT (eQ rfl rfl rfl dJ c3 (iH M) rfl) aM ⟨dI,rfl,(by first|omega|exact bL rfl|(simp;done)|(simp;omega)),oC,(by first|rfl|(simp;done)|(simp;omega)),(by unfold maxLen;first|omega|(simp;omega)),(by rw[b3];first|omega|(simp;omega)),(by first|(simp;done)|(simp;omega))⟩ ?_|refine eT (eQ rfl rfl rfl dJ c3 (fZ rfl rfl) rfl) aM ⟨dI,rfl,(by first|omega|exact bL rfl|(simp;done)|(simp;omega)),oC,(by first|rfl|(simp;done)|(simp;omega)),(by unfold maxLen;first|omega|(simp;omega)),(by rw[b3];first|omega|(simp;omega)),(by first|(simp;done)|(simp;omega))⟩ ?_|refine di (kX rfl rfl dJ c3 (iH M)) aM ⟨dI,(by first|omega|exact bL rfl|(simp;done)|(simp;omega)),oC,(by unfold maxLen;first|omega|(simp;omega)),(by rw[b3];first|omega|(simp;omega))⟩ ?_|refine di (kX rfl rfl dJ c3 (fZ rfl rfl)) aM ⟨dI,(by first|omega|exact bL rfl|(simp;done)|(simp;omega)),oC,(by unfold maxLen;first|omega|(simp;omega)),(by rw[b3];first|omega|(simp;omega))⟩ ?_)
  refine SS ?_
  refine af (br (cH [(2,(x.a::x.b::x.args).map I,3)] eH (l:=[(2,aU (x.a::x.b::x.args))]) ⟨?_,aa⟩) (bj (cA (aY (aC (d:=aU (x.a::x.b::x.args)) rfl ?_)))))
  .show xN _ [(2,_,3)] (.rs 2 0 (2+x.args.length))=_;refine(oi c3 (es:=(x.a::x.b::x.args).map I) (cX oP)).trans ?_;rw[Nat.add_comm];rfl
  .exact congrArg aU (by rw[dE,ai (by simp[h1]),ai (by simp[h2]),ai C,bi J])
 have J:¬ x.op=38:=s0 J
 refine qw (aA (SS ?_));refine af (br (yk (n0:=2) rfl) (aC (d:=aU []) rfl ?_));exact congrArg aU (by rw[dE,ai (by simp[h1]),ai (by simp[h2]),ai C,ai J])
def Oa{x:Abs.End}(hx:x.kind=5->x.ins.op=10\/x.ins.op=38->x.ins.args.length<=1000)(hy:x.kind=6\/x.kind=7->x.args.length<=1000):aH prog 110 [.agg (bq x)] (aU (dM x)):=by
 have U:∀ a∈[D.agg (bq x)],Tr a:=.cons (.agg (oU x)) .nil;refine bx (fo f110) U (dP _) ?_;refine aA (ag ?_);refine af (br (cH [(0,bq x,57)] eH (l:=[(1,.pt (bq x))]) eH) (aG (al ?_)));refine ag ?_;refine af (rj (fS (λs=>aP prog s ⟨aD [(1,.pt (bq x)),(4,U8 x.kind),(5,B (bf [2,8,9] x.kind))],λ_=>none,1⟩) (al ?_) λs hg=>⟨_,hg,?_⟩))
 .refine ag ?_;refine af (aB rfl (λh=>bV (au ⟨rfl,rfl,dX h oC,aa⟩)) λe2=>al ?_);refine ag ?_;refine af (aB rfl (λh=>bV (au ⟨rfl,rfl,dX h oC,aa⟩)) λe8=>nH ?_);refine ag ?_;refine af (au ⟨rfl,rfl,?_,aa⟩);show D.s (.bool (x.kind==9))=_;simp[bf,e2,e8]
 refine aB rfl (λh1=>?_) λh1=>?_
 .refine aA (aQ ?_);refine af (br (cH [(1,([x.a]).map I,3)] eH (l:=[(2,aU ([x.a]))]) ⟨oi c3 rfl,aa⟩) (bj (cA (aY (aC (d:=aU ([x.a])) rfl ?_)))));exact congrArg aU (by rw[dM,bi h1])
 refine ws (ag ?_);refine af (aB rfl (λh2=>?_) λh2=>?_)
 .have h2:x.kind=3:=s0 h2
  refine aG (al (ax ?_));refine af (cM rfl (λC=>?_) λC=>cI (aA ?_))
  .have C:x.a= -1:=s0 C
   refine aG (aA (SS ?_));refine af (br (yk (n0:=2) rfl) (de (cA (aY (aC (d:=aU []) rfl ?_)))));exact congrArg aU (by rw[dM,ai (by simp[h1]),bi h2,ai (by simp[C])])
  .have C:¬ x.a= -1:=s0 C
   refine aQ ?_;refine af (br (cH [(1,([x.a]).map I,3)] eH (l:=[(2,aU ([x.a]))]) ⟨oi c3 rfl,aa⟩) (bj (cA (aY (aC (d:=aU ([x.a])) rfl ?_)))));exact congrArg aU (by rw[dM,ai (by simp[h1]),bi h2,bi C])
 have h2:¬ x.kind=3:=s0 h2
 refine ws (ag ?_);refine af (aB rfl (λC=>?_) λC=>?_)
 .have C:x.kind=5:=s0 C
  have Ca:=Ca (x:=x.ins) (hx C);refine ws (aQ ?_);refine af (bj (cA (aY (aC (d:=aU (dE x.ins)) rfl ?_))));exact congrArg aU (by rw[dM,ai (by simp[h1]),ai h2,bi C])
 have C:¬ x.kind=5:=s0 C
 refine fS (λs=>aP prog s ⟨aD [(1,.pt (bq x)),(4,U8 x.kind),(25,B (bf [6,7] x.kind))],λ_=>none,1⟩) (al ?_) λs hg=>⟨_,hg,?_⟩
 .refine ag ?_;refine af (aB rfl (λh=>bV (au ⟨rfl,rfl,dX h oC,aa⟩)) λe6=>nH ?_);refine ag ?_;refine af (au ⟨rfl,rfl,?_,aa⟩);show D.s (.bool (x.kind==7))=_;simp[bf,e6]
 refine aB rfl (λJ=>?_) λJ=>?_
 .have X:x.kind=6\/x.kind=7:=by simpa[bf] using J
  have hl:=hy X;have M:(x.args.map I).take (x.args.length*1)=x.args.map I:=cX oS;apply aA
  refine SS ?_
  refine SS ?_
  refine SS ?_
  (first|refine eT (eQ rfl rfl rfl dJ c3 (iH M) rfl) aM ⟨dI,rfl,(by first|omega|exact bL rfl|(simp;done)|(simp;omega)),oC,(by first|rfl|(simp;done)|(simp;omega)),(by unfold maxLen;first|omega|(simp;omega)),(by rw[b3];first|omega|(simp;omega)),(by first|(simp;done)|(simp;omega))⟩ ?_|refine eT (eQ rfl rfl rfl dJ c3 (fZ rfl rfl) rfl) aM ⟨dI,rfl,(by first|omega|exact bL rfl|(simp;done)|(simp;omega)),oC,(by first|rfl|(simp;done)|(simp;omega)),(by unfold maxLen;first|omega|(simp;omega)),(by rw[b3];first|omega|(simp;omega)),(by first|(simp;done)|(simp;omega))⟩ ?_|refine di (kX rfl rfl dJ c3 (iH M)) aM ⟨dI,(by first|omega|exact bL rfl|(simp;done)|(simp;omega)),oC,(by unfold maxLen;first|omega|(simp;omega)),(by rw[b3];first|omega|(simp;omega))⟩ ?_|refine di (kX rfl rfl dJ c3 (fZ rfl rfl)) aM ⟨dI,(by first|omega|exact bL rfl|(simp;done)|(simp;omega)),oC,(by unfold maxLen;first|omega|(simp;omega)),(by rw[b3];first|omega|(simp;omega))⟩ ?_)
  refine SS ?_
  refine af (br (cH [(2,x.args.map I,3)] eH (l:=[(2,aU x.args)]) ⟨?_,aa⟩) (bj (cA (aY (aC (d:=aU x.args) rfl ?_)))))
  .show xN _ [(2,_,3)] (.rs 2 0 (0+x.args.length))=_;refine(oi c3 (es:=x.args.map I) (cX oS)).trans ?_;rw[Nat.zero_add]
  exact congrArg aU (by rw[dM,ai (by simp[h1]),ai h2,ai C,bi J])
 refine qw (aA ?_)
 refine SS ?_
 refine af (br (yk (n0:=2) rfl) (aC (d:=aU []) rfl ?_));exact congrArg aU (by rw[dM,ai (by simp[h1]),ai h2,ai C,ai (by simp[J])])
section
variable{P:Program}{m:Mem}{nx:Nat}
def eW.fz{j n q sz:Nat}{e et:TypeId}{ρ:Nat->Nat}{L:Nat->List D}{cs:List D}(h:eW m nx j n e et ρ L)(hs:∀ i,D0 (L i))(hq:j≠q)(C:∀ i,i<n->L i≠[]->ρ i≠q):
 eW (λp=>if p=q then none else(m p).map (Row.sub (dq q cs sz))) nx j n e et ρ L:=by
 refine⟨?_,h.mY,λi hi hl=>?_,h.lt,h.ne,h.inj⟩
 .rw[ai hq,h.row];refine congrArg some (sP.cells (X:=λp=>p=q) (λd hd=>?_) q cs sz rfl);obtain⟨i,hi,rfl⟩:=mem_map.1 hd;by_cases hl:L i=[]
  .rw[hl];exact .z
  .rw[sU hl];exact .rs (C i (s0 hi) hl)
 .rw[ai (C i hi hl),h.rR i hi hl];exact congrArg some (sP.awp (X:=λp=>p=q) (hs i) q cs sz rfl)
end
def Rp{f:az}{x:End}(h:gD f x=true):gE x=ep x:=by
 rw[gD,aJ] at h;let⟨h,hb⟩:=h;have hb:=aaO hb;let⟨kind,a,b,to,ei,name,ins,args,aK,others⟩:=x;simp only[fL] at h hb;by_cases h1:kind=1
 .subst h1;simp only[Int.reduceEq,if_false,if_true] at hb;have J:aK=[]:=length_eq_zero_iff.1 hb.2.2.2.2.2.2.2;have C:others= -1:=hb.2.2.2.2.2.1;subst J C;simp[gE,mR,tH,iP,ep,kQ,bf]
 by_cases h2:kind=2
 .subst h2;simp only[Int.reduceEq,if_false,if_true] at hb;have J:aK=[]:=length_eq_zero_iff.1 hb.2.2.2.2.2.2.2;have C:others= -1:=hb.2.2.2.2.2.1;subst J C;simp[gE,mR,tH,iP,ep,kQ,bf]
 by_cases M:kind=3
 .subst M;simp only[Int.reduceEq,if_false,if_true] at hb;have J:aK=[]:=length_eq_zero_iff.1 hb.2.2.2.2.2.2.2;have C:others= -1:=hb.2.2.2.2.2.1;subst J C;simp[gE,mR,tH,iP,ep,kQ,bf]
 by_cases U:kind=4
 .subst U;simp only[Int.reduceEq,if_false,if_true] at hb;have J:aK=[]:=length_eq_zero_iff.1 hb.2.2.2.2.2.2.2;have C:others= -1:=hb.2.2.2.2.2.1;subst J C;simp[gE,mR,tH,iP,ep,kQ,bf]
 by_cases X:kind=5
 .subst X;by_cases C:0<=others<;>simp[gE,mR,tH,iP,ep,kQ,bf,C]
 by_cases h6:kind=6
 .subst h6;by_cases C:0<=others<;>simp[gE,mR,tH,iP,ep,kQ,bf,C]
 by_cases h7:kind=7
 .subst h7;simp only[Int.reduceEq,if_false,if_true] at hb;have J:aK=[]:=length_eq_zero_iff.1 hb.2.2.2.2.2.2.2;have C:others= -1:=hb.2.2.2.2.2.1;subst J C;simp[gE,mR,tH,iP,ep,kQ,bf]
 by_cases h8:kind=8
 .subst h8;by_cases C:0<=others<;>simp[gE,mR,tH,iP,ep,kQ,bf,C]
 by_cases h9:kind=9
 .subst h9;simp only[Int.reduceEq,if_false,if_true] at hb;have J:aK=[]:=length_eq_zero_iff.1 hb.2.2.2.2.2.2.2;have C:others= -1:=hb.2.2.2.2.2.1;subst J C;simp[gE,mR,tH,iP,ep,kQ,bf]
 .simp only[h1,h2,M,U,X,h6,h7,h8,h9,if_false] at h;cases h
def ZS{f:az}{x:End}(h:gD f x=true):ug x=nextR x:=by
 refine aa1 (HZ .nil).1 (YH x) λt=>?_;rw[Yy,Rp h,nextR,PS]
def YB{f:az}{bs:List bI}(h:∀ b∈bs,gD f b.fin=true)(k:Nat):o4 bs k=cY bs k:=by
 induction k with
 |zero=>rfl
 |succ k ih=>
  unfold o4 cY at ih ⊢;rw[range_succ,foldl_append,foldl_append,ih];show Iu bs _ k=sQ bs _ k;unfold Iu sQ;cases hx:bs[k]? with
  |none=>rfl
  |some x=>dsimp only;rw[ZS (h x (bD hx))]
end Go.Abs
end
namespace Go.Abs
open List
open Go
structure Nx(f:az):Prop where
 EH:0<=f.result
 nm:f.name.size<=maxLen
 sg:∀ s∈f.signals,s.size<=maxLen
 en:∀ b∈f.blocks,b.fin.name.size<=maxLen/\∀ w∈b.fin.aK,w.name.size<=maxLen
end Go.Abs
namespace Go.Abs
open List
open Go.Proofs.Tryz
open Go
structure Oc(R n:Nat)(x:cq):Prop where
 r:∀ r∈dE x,∃ i:Nat,i<R/\r=i
 s:x.op=17->∃ i:Nat,R+i<n/\x.n=i
 p:x.op=19->∀ r∈x.args,∃ i:Nat,i<R/\r=i
def oQ{l:List Int}{r:Int}(h:lb l r):∃ i:Nat,i<l.length/\r=i:=⟨r.toNat,by unfold lb at h;omega,by unfold lb at h;omega⟩
def aa3{f:az}{b ah:Int}{x:cq}(hs:∀ k∈f.a6,k≠0)(h:fu f b ah x=true):D7 f.aj.length (f.aj.length+f.a6.length) x/\Oc f.aj.length (f.aj.length+f.a6.length) x/\(x.op=19->(x.args.length:Int)=ah):=by
 have k1:∀ {r:Int},bZ f r 119=true->∃ i:Nat,i<f.aj.length/\r=i:=λ{r} h=>oQ (kE λe=>by rw[zb,e] at h;simp[bm] at h);have U:∀ {r:Int},bZ f r 114=true->∃ i:Nat,i<f.aj.length/\r=i:=λ{r} h=>oQ (kE λe=>by rw[DK,e] at h;simp[bm] at h);have k3:∀ {r:Int},bZ f r 105=true->∃ i:Nat,i<f.aj.length/\r=i:=λ{r} h=>oQ (kE λe=>by rw[Jj,e] at h;simp[bm] at h);have k4:∀ {r:Int},bZ f r 118=true->∃ i:Nat,i<f.aj.length/\r=i:=λ{r} h=>oQ (nE h)
 have X:∀ {a b:Int},nJ f a b=true->(∃ i:Nat,i<f.aj.length/\a=i)/\∃ i:Nat,i<f.aj.length/\b=i:=λ{a b} h=>by
  simp[nJ,aJ] at h;exact⟨oQ (nE h.1),oQ (nE h.2.1)⟩
 have k6:∀ {l:List Int},jC f.aj l=true->∀ r∈l,∃ i:Nat,i<f.aj.length/\r=i:=λ{l} h r hr=>oQ (vg h r hr)
 have k7:∀ {r n:Int},pT f.aj f.a6 r n=true->(∃ i:Nat,i<f.aj.length/\r=i)/\∃ i:Nat,f.aj.length+i<f.aj.length+f.a6.length/\n=i:=λ{r n} h=>by
  let⟨h1,h2,M⟩:=It hs h;exact⟨oQ h1,n.toNat,oG,oG⟩
 let⟨op,to,a,C,n,args⟩:=x;unfold fu at h;dsimp only at h
 have fin:∀ {W:Prop} {Rs:List Int},(eP ⟨op,to,a,C,n,args⟩= -1\/∃ i:Nat,i<f.aj.length/\eP ⟨op,to,a,C,n,args⟩=i)->dE ⟨op,to,a,C,n,args⟩=Rs->(∀ r∈Rs,∃ i:Nat,i<f.aj.length/\r=i)->
  op≠17->op≠18->op≠19->D7 f.aj.length (f.aj.length+f.a6.length) ⟨op,to,a,C,n,args⟩/\Oc f.aj.length (f.aj.length+f.a6.length) ⟨op,to,a,C,n,args⟩/\(op=19->(args.length:Int)=ah):=λ{W Rs} h1 h2 M e1 e2 e3=>
  ⟨⟨h1,λe=>absurd e e2⟩,⟨by rw[h2];exact M,λe=>absurd e e1,λe=>absurd e e3⟩,λe=>absurd e e3⟩
 by_cases h1:op=1
 .subst h1;simp[aJ] at h;exact fin (W:=True) (Rs:=[]) (.inr (k1 h.2.1)) rfl oS oC oC oC
 by_cases h2:op=2
 .subst h2;simp[aJ] at h;exact fin (W:=True) (Rs:=[a]) (.inr (X h.2).1) rfl (by simpa using(X h.2).2) oC oC oC
 by_cases M:op=3\/op=4\/op=6\/op=7
 .have J:bZ f to 119=true/\bZ f a 119=true/\bZ f C 119=true:=by
   rcases M with rfl|rfl|rfl|rfl<;>(simp[bf,aJ] at h;exact h.2)
  have hr:∀ r∈[a,C],∃ i:Nat,i<f.aj.length/\r=i:=by
   intro r hr;simp at hr;rcases hr with rfl|rfl
   .exact k1 J.2.1
   .exact k1 J.2.2
  rcases M with rfl|rfl|rfl|rfl<;>exact fin (W:=True) (Rs:=[a,C]) (.inr (k1 J.1)) rfl hr oC oC oC
 by_cases h5:op=5
 .subst h5;simp[bf,aJ] at h;refine fin (W:=True) (Rs:=[a,C]) (.inr (k1 h.2.1)) rfl ?_ oC oC oC;intro r hr;simp at hr;rcases hr with rfl|rfl
  .exact(X h.2.2).1
  .exact(X h.2.2).2
 by_cases h8:op=8
 .subst h8;simp[bf,aJ] at h;exact fin (W:=True) (Rs:=[a]) (.inr (k1 h.2.1)) rfl (s0 (k1 h.2.2)) oC oC oC
 by_cases h9:op=9
 .subst h9;simp[bf,aJ] at h;exact fin (W:=True) (Rs:=[]) (.inr (U h.2.1)) rfl oS oC oC oC
 by_cases qk:op=10
 .subst qk;simp[bf,aJ] at h;exact fin (W:=True) (Rs:=args) (.inr (U h.2.1)) rfl (k6 h.2.2.2.2) oC oC oC
 by_cases uY:op=11
 .subst uY;simp[bf,aJ] at h;exact fin (W:=True) (Rs:=[a]) (.inr (k4 h.2.1)) rfl (s0 (U h.2.2.1)) oC oC oC
 by_cases wC:op=12
 .subst wC;simp[bf,aJ] at h;refine fin (W:=True) (Rs:=[a,C]) (.inl rfl) rfl ?_ oC oC oC;intro r hr;simp at hr;rcases hr with rfl|rfl
  .exact U h.2.1
  .exact k4 h.2.2.1
 by_cases yd:op=13\/op=14
 .have J:bZ f to 119=true/\bZ f a 114=true:=by
   rcases yd with rfl|rfl<;>(simp[bf,aJ] at h;exact h.2)
  rcases yd with rfl|rfl<;>exact fin (W:=True) (Rs:=[a]) (.inr (k1 J.1)) rfl (s0 (U J.2)) oC oC oC
 by_cases WB:op=15
 .subst WB;simp[bf,aJ] at h;exact fin (W:=True) (Rs:=[a]) (.inl rfl) rfl (s0 (k1 h.2)) oC oC oC
 by_cases uW:op=16
 .subst uW;simp[bf,aJ] at h;exact fin (W:=True) (Rs:=[a]) (.inl rfl) rfl (s0 (k3 h.2)) oC oC oC
 by_cases kT:op=17
 .subst kT;simp[bf,aJ] at h;exact⟨⟨.inr (k7 h.2).1,λe=>by simp at e⟩,⟨by simp[dE,bf,sD,wO],λ_=>(k7 h.2).2,λe=>by simp at e⟩,λe=>by simp at e⟩
 by_cases fP:op=18
 .subst fP;simp[bf,aJ] at h;exact⟨⟨.inl rfl,λ_=>(k7 h.2).2⟩,⟨by simpa[dE,bf,sD] using(k7 h.2).1,λe=>by simp at e,λe=>by simp at e⟩,λe=>by simp at e⟩
 by_cases gR:op=19
 .subst gR;simp[bf,aJ] at h;refine⟨⟨.inr (k4 h.2.2.1),λe=>by simp at e⟩,⟨by simp[dE,bf,sD,wO],λe=>by simp at e,λ_ r hr=>(X (h.2.2.2.2 r hr)).2⟩,λ_=>?_⟩;simpa[bm] using h.2.2.2.1
 .rw[ai h1,ai h2,ai (by simp[bf];omega),ai h5,ai h8,ai h9,ai qk,ai uY,ai wC,ai (by simp[bf];omega),ai WB,ai uW,ai kT,ai fP,ai gR] at h;cases h
def aa4{f:az}{x:cq}(h:oB f x=true):(eP x= -1\/∃ i:Nat,i<f.aj.length/\eP x=i)/\∀ r∈dE x,∃ i:Nat,i<f.aj.length/\r=i:=by
 have k1:∀ {r:Int},bZ f r 119=true->∃ i:Nat,i<f.aj.length/\r=i:=λ{r} h=>oQ (kE λe=>by rw[zb,e] at h;simp[bm] at h);have J:∀ {r:Int},bZ f r 114=true->∃ i:Nat,i<f.aj.length/\r=i:=λ{r} h=>oQ (kE λe=>by rw[DK,e] at h;simp[bm] at h);have U:∀ {r:Int},bZ f r 118=true->∃ i:Nat,i<f.aj.length/\r=i:=λ{r} h=>oQ (nE h);have k6:∀ {l:List Int},jC f.aj l=true->∀ r∈l,∃ i:Nat,i<f.aj.length/\r=i:=λ{l} h r hr=>oQ (vg h r hr);let⟨op,to,a,C,n,args⟩:=x;unfold oB at h;dsimp only at h;by_cases h0:op=30\/op=31\/op=32\/op=33\/op=34
 .have M:bZ f to 119=true/\bZ f a 119=true/\bZ f C 119=true:=by
   rcases h0 with rfl|rfl|rfl|rfl|rfl<;>(simp[bf,aJ] at h;exact h.2)
  have hr:∀ r∈[a,C],∃ i:Nat,i<f.aj.length/\r=i:=by
   intro r hr;simp at hr;rcases hr with rfl|rfl
   .exact k1 M.2.1
   .exact k1 M.2.2
  rcases h0 with rfl|rfl|rfl|rfl|rfl<;>exact⟨.inr (k1 M.1),hr⟩
 by_cases X:op=35
 .subst X;simp[bf,aJ] at h;refine⟨.inl rfl,?_⟩;show ∀ r∈[a,C],_;intro r hr;simp at hr;rcases hr with rfl|rfl
  .exact J h.2.1
  .exact U h.2.2
 by_cases h6:op=36
 .subst h6;simp[bf,aJ] at h;refine⟨.inr (U h.2.1),?_⟩;show ∀ r∈[a],_;simpa using J h.2.2
 by_cases h7:op=37
 .subst h7;simp[bf,aJ] at h;refine⟨.inr (U h.2.1),?_⟩;show ∀ r∈[a,C],_;intro r hr;simp at hr;rcases hr with rfl|rfl
  .exact J h.2.2.1
  .exact k1 h.2.2.2
 by_cases h8:op=38
 .subst h8;simp[bf,aJ] at h;refine⟨.inl rfl,?_⟩;show ∀ r∈a::C::args,_;intro r hr;rcases mem_cons.1 hr with rfl|hr
  .exact J h.2.1
  .rcases mem_cons.1 hr with rfl|hr
   .exact k1 h.2.2.1
   .exact k6 h.2.2.2.2 r hr
 .exfalso;simp[bf,X,h6,h7,h8] at h;omega
def RU{f:az}{x:End}(h:jP f x=true):(fY x= -1\/∃ i:Nat,i<f.aj.length/\fY x=i)/\(∀ r∈dM x,∃ i:Nat,i<f.aj.length/\r=i)/\(x.kind=7->∃ i:Nat,i<f.aj.length/\x.a=i):=by
 have k1:∀ {r:Int},bZ f r 119=true->∃ i:Nat,i<f.aj.length/\r=i:=λ{r} h=>oQ (kE λe=>by rw[zb,e] at h;simp[bm] at h);have k3:∀ {r:Int},bZ f r 105=true->∃ i:Nat,i<f.aj.length/\r=i:=λ{r} h=>oQ (kE λe=>by rw[Jj,e] at h;simp[bm] at h);have C:∀ {r:Int},bZ f r 118=true->∃ i:Nat,i<f.aj.length/\r=i:=λ{r} h=>oQ (nE h);have k6:∀ {l:List Int},jC f.aj l=true->∀ r∈l,∃ i:Nat,i<f.aj.length/\r=i:=λ{l} h r hr=>oQ (vg h r hr);let⟨kind,a,b,to,ei,name,ins,args,aK,others⟩:=x;unfold jP at h;dsimp only at h;by_cases h1:kind=1
 .subst h1;exact⟨.inl rfl,by simp[dM,bf],λe=>by simp at e⟩
 by_cases h2:kind=2
 .subst h2;simp[aJ] at h;refine⟨.inl rfl,?_,λe=>by simp at e⟩;show ∀ r∈[a],_;simpa using k1 h.2.1
 by_cases J:kind=3
 .subst J;rw[ai oC,ai oC,bi rfl] at h;refine⟨.inl rfl,?_,λe=>by simp at e⟩;intro r hr;simp[dM,bf] at hr;obtain⟨e,rfl⟩:=hr;by_cases hc:f.iter=true\/f.result=0
  .rw[bi hc,aJ,eb] at h;exact absurd h.2 e
  .rw[ai hc,aJ,aJ] at h;exact C h.2.1
 by_cases M:kind=4
 .subst M;exact⟨.inl rfl,by simp[dM,bf],λe=>by simp at e⟩
 by_cases U:kind=5
 .subst U;simp[aJ] at h;exact⟨(aa4 h.2.1).1,(aa4 h.2.1).2,λe=>by simp at e⟩
 by_cases X:kind=6
 .subst X;simp[aJ] at h;refine⟨?_,k6 h.2.2.2.1,λe=>by simp at e⟩;show a= -1\/∃ i:Nat,_/\a=_;rcases h.2.2.2.2.1 with e|e
  .exact .inl (by simpa[bm] using e)
  .exact .inr (C e)
 by_cases h7:kind=7
 .subst h7;simp[aJ] at h;exact⟨.inr (k3 h.2.2.2.2.1),k6 h.2.2.2.1,λ_=>k3 h.2.2.2.2.1⟩
 by_cases h8:kind=8
 .subst h8;simp[aJ] at h;refine⟨.inr (C h.2.2.1),?_,λe=>by simp at e⟩;show ∀ r∈[a],_;simpa using k3 h.2.1
 by_cases h9:kind=9
 .subst h9;simp[aJ] at h;refine⟨.inl rfl,?_,λe=>by simp at e⟩;show ∀ r∈[a],_;simpa using C h.2.2.1
 .simp[h1,h2,J,M,U,X,h7,h8,h9] at h
def iU.qi{n:Nat}{s:CS}(h:iU n s){b:Nat}(hb:b<n):gi (s.wsq.getD b []):=by
 have hl:b<s.wsq.length:=by rw[h.lw];exact hb
 have hx:s.wsq[b]? =some s.wsq[b]:=aO hl;rw[getD_some hx];have hm:s.wsq[b]∈s.wsq:=eh _;exact⟨h.nA _ hm,h.rg _ hm⟩
def vM(f:az):Bool:=od f&&(sC f&&rB f)
def L3(f:az):Bool:=f.blocks.all λx=>(gE x.fin).all (cS f)
def As(f:az)(b:Nat)(l:List cq)(j:Nat):Bool:=fu f b (o4 f.blocks f.blocks.length b).length (l.getD j eR)&& !(c8 (l.getD j eR)&&(decide (0<j)&& !c8 (l.getD (j - 1) eR)))
def wg(f:az)(b:Nat):Bool:=
 let x:=f.blocks.getD b kM
 !decide ((200:Int)<x.ins.length)&&((range x.ins.length).all (As f b x.ins)&&(jP f x.fin&& !(x.fin.kind==7&&(lD f.blocks b).any (·==x.fin.a))))
def zU(f:az):Bool:=vM f&&(L3 f&&(range f.blocks.length).all (wg f))
def K3(f:az)(b:Int)(x:cq)(p:Bool)(C:Int):kG f b x p C=(kG f b x true C&&(!c8 x||p)):=by
 unfold kG c8;by_cases X:x.op=16
 .simp[X]
 .by_cases U:x.op=17
  .simp[U]
  .by_cases J:x.op=18
   .simp[J]
   .by_cases M:x.op=19
    .simp[M,Bool.and_comm]
    .simp[X,U,J,M]
def amJ(l:List cq):(∀ j,j<l.length->c8 (l.getD j eR)=true->0<j->c8 (l.getD (j - 1) eR)=true)↔∀ j,j<l.length->c8 (l.getD j eR)=true->(l.take (j+1)).all c8=true:=by
 have hg:∀ {j},j<l.length->∀ y,l[j]? =some y->l.getD j eR=y:=λ_ y hy=>getD_some hy;constructor
 .intro h j
  induction j with
  |zero=>
   intro hj hp;have hx:l[0]? =some l[0]:=aO hj;rw[getD_some hx] at hp;rw[take_add_one,hx];simpa using hp
  |succ j ih=>
   intro hj hp;have hx:l[j+1]? =some l[j+1]:=aO hj;have h1:=h (j+1) hj hp oG;have h2:=ih oG (s0 h1);rw[take_add_one,all_append,h2,hx];rw[getD_some hx] at hp;simpa using hp
 .intro h j hj hp h0;have h1:=h j hj hp;have hx:l[j - 1]? =some l[j - 1]:=aO oG;rw[getD_some hx];refine bK.1 h1 _ (bD (i:=j - 1) ?_);rw[getElem?_take,bi oG,hx]
def aok{n:Nat}{p q:Nat->Bool}:(range n).all (λj=>p j&&q j)=((range n).all p&&(range n).all q):=by
 rw[Bool.eq_iff_iff];simp[bK,aJ,mem_range];exact⟨λh=>⟨λj hj=>(h j hj).1,λj hj=>(h j hj).2⟩,λh j hj=>⟨h.1 j hj,h.2 j hj⟩⟩
def XM{f:az}:zU f=iX f:=by
 have hH:iX f=(vM f&&((range f.blocks.length).all (kD f)&&(range f.blocks.length).all (vq f))):=by
  unfold iX vM;simp[Bool.and_assoc]
 rw[hH];unfold zU;cases hh:vM f with
 |false=>rfl
 |true=>
  rw[Bool.true_and,Bool.true_and,Bool.eq_iff_iff,aJ,aJ,bK,bK,bK];unfold vM at hh;simp[aJ] at hh;let⟨h1,h2,_⟩:=hh
  have qJ:se f=true:=by
   unfold od at h1;simp[aJ] at h1;exact h1.2.2.1
  have jw:f.aj.length<=1200:=by
   unfold od at h1;simp[aJ,Bool.not_eq_true',decide_eq_false_iff_not] at h1;omega
  have lx:∀ k∈f.a6,k=1\/k=2:=λk hk=>by
   unfold sC at h2;simp[aJ] at h2;have C:=h2.2.2.1;simp[gk,Bool.not_eq_true',any_eq_false] at C;have:=C k hk;simp[pC] at this;omega
  have lJ:∀ {k:Nat},k<f.blocks.length->∃ x,f.blocks[k]? =some x/\f.blocks.getD k kM=x/\x∈f.blocks:=λ{k} hk=>by
   have hx:f.blocks[k]? =some f.blocks[k]:=aO hk;exact⟨_,hx,getD_some hx,eh _⟩
  have pd:(∀ b∈f.blocks,gD f b.fin=true)->∀ k,k<f.blocks.length->(wg f k=true↔kD f k=true/\vq f k=true):=λhe k hk=>by
   let⟨x,hx,hg,hm⟩:=lJ hk;have hah:=YB he f.blocks.length;unfold wg kD vq As vo;simp only[hg,RY qJ,he x hm,hah,Bool.true_and,aJ,bK,mem_range];have C:∀ j,fu f k (cY f.blocks f.blocks.length k).length (x.ins.getD j eR)=kG f k (x.ins.getD j eR) true (cY f.blocks f.blocks.length k).length:=λj=>aa2 lx;have M:=amJ x.ins;simp only[C];constructor
   .rintro⟨X,U,g3⟩;refine⟨⟨X,g3⟩,λj hj=>?_⟩;rw[K3,aJ];refine⟨(U j hj).1,?_⟩;have:=M.1 (λj hj hp h0=>by have:=(U j hj).2;rw[hp] at this;simpa[h0] using this) j hj;cases hp:c8 (x.ins.getD j eR) with
    |false=>rfl
    |true=>rw[this hp];rfl
   .rintro⟨⟨X,g3⟩,U⟩;refine⟨X,λj hj=>?_,g3⟩
    have J:∀ j,j<x.ins.length->c8 (x.ins.getD j eR)=true->(x.ins.take (j+1)).all c8=true:=λj hj hp=>by
     have:=U j hj;rw[K3,aJ,hp] at this;simpa using this.2
    have h5:=U j hj;rw[K3,aJ] at h5;refine⟨h5.1,?_⟩;have h6:=M.2 J j hj;cases hp:c8 (x.ins.getD j eR) with
    |false=>rfl
    |true=>
     by_cases h0:0<j
     .rw[h6 hp h0];simp
     .simp[h0]
  constructor
  .rintro⟨C,J⟩
   have he:∀ b∈f.blocks,gD f b.fin=true:=λb hb=>by
    let⟨k,hk⟩:=cV hb;have:=J k (by simpa using(bQ.1 hk).1);unfold wg at this;simp only[getD_some hk,aJ,RY qJ] at this;exact this.2.2.1
   exact⟨λk hk=>((pd he k (s0 hk)).1 (J k hk)).1,λk hk=>((pd he k (s0 hk)).1 (J k hk)).2⟩
  .rintro⟨C,J⟩
   have he:∀ b∈f.blocks,gD f b.fin=true:=λb hb=>by
    let⟨k,hk⟩:=cV hb;have:=C k (by simpa using(bQ.1 hk).1);unfold kD at this;simp only[getD_some hk,aJ] at this;exact this.1
   refine⟨bK.2 λx hx=>bK.2 λt ht=>?_,λk hk=>(pd he k (s0 hk)).2 ⟨C k hk,J k hk⟩⟩;rw[Rp (he x hx)] at ht;have:=(Rc jw qJ (he x hx)).to t ht;rw[cS,kC];omega
def opsV(R:Nat)(c:Cert)(x:cq):Bool:=(x.op !=17||c.is.getD ((R:Int)+x.n).toNat false)&&wB c (dE x)
def um(f:az)(s:CS)(b:Nat)(x:cq)(k:Nat):Bool:=
 let p:=((cY f.blocks f.blocks.length b).getD k 0).toNat
 let c:=dm f.aj.length (f.aj.length+f.a6.length) s p
 c.any||(qH (f.blocks.getD p kM).fin b (gL f.aj.length (f.blocks.getD p kM).ins c)).is.getD (x.args.getD k 0).toNat false
def GY(f:az)(s:CS)(b:Nat)(x:cq):Bool:= !c8 x||(range x.args.length).all (um f s b x)
def D8(f:az)(s:CS)(b:Nat)(l:List cq)(c:Cert)(j:Nat):Bool:=opsV f.aj.length (gL f.aj.length (l.take j) c) (l.getD j eR)&&GY f s b (l.getD j eR)
def uk(f:az)(s:CS)(b:Nat):Bool:=
 let c:=dm f.aj.length (f.aj.length+f.a6.length) s b
 let l:=(f.blocks.getD b kM).ins
 c.any||((range l.length).all (D8 f s b l c)&&wB (gL f.aj.length l c) (dM (f.blocks.getD b kM).fin))
def SB(f:az):Int:=if zU f=true then(if(range f.blocks.length).all (uk f (jH f.blocks f.args.toNat))=true then 0 else 81) else 80
def SD{R n:Nat}(J:R<=n){w:List Int}(C:gi w):∀ {rs:List Int} {ok:Bool},(∀ r∈rs,∃ i:Nat,i<R/\r=i)->kW w ok rs=(ok&&wB ⟨false,dk R n w⟩ rs)
 |[],ok,_=>by simp[kW,wB]
 |r::rs,ok,h=>by
  let⟨i,hi,e⟩:=h r oS;have ih:=SD J C (rs:=rs) (ok:=ok&&nM w r.toNat) λr hr=>h r (by simp[hr])
  have h1:(dk R n w).getD r.toNat false=nM w r.toNat:=by
   rw[e,eU,getD_some (yL oG),CR C.all];rw[jm,bi hi]
  unfold kW wB at ih ⊢;rw[foldl_cons,ih,all_cons,h1,Bool.and_assoc]
def aa5{R n:Nat}(hR:R<=1200)(hn:n<=R+60)(J:R<=n):∀ {l:List cq} (_:∀ x∈l,D7 R n x/\Oc R n x) {w:List Int} {ok:Bool} (_:gi w) (_:pX R n w),
 (l.foldl o8 (w,ok)).2=(ok&&(range l.length).all λj=>opsV R (gL R (l.take j) ⟨false,dk R n w⟩) (l.getD j eR))
 |[],_,w,ok,_,_=>by simp
 |x::l,h,w,ok,hw,ho=>by
  let⟨U,C⟩:=h x oS;let⟨h1,h2,h3⟩:=ZQ hR hn J U hw ho;have ih:=aa5 hR hn J (l:=l) (ok:=(o8 (w,ok) x).2) (λy hy=>h y (by simp[hy])) h2 h3;rw[foldl_cons];show(l.foldl o8 (BA w x,(o8 (w,ok) x).2)).2=_;rw[ih,length_cons,range_succ_eq_map,all_cons,all_map]
  have h0:(o8 (w,ok) x).2=(ok&&opsV R ⟨false,dk R n w⟩ x):=by
   show(kW w ok (dE x)&&_)=_;rw[SD J hw C.r,Bool.and_assoc];congr 1;rw[opsV,Bool.and_comm];congr 1;by_cases M:x.op=17
   .let⟨i,hi,e⟩:=C.s M;have X:((R:Int)+x.n).toNat=R+i:=by omega
    have e2:(nW x.n).toNat=jm R (R+i):=by rw[nW,jm,ai oG];omega
    rw[X,e2,getD_some (yL oG),CR hw.all]
   .have:(x.op !=17)=true:=s0 M
    rw[this];rfl
  rw[h0,Bool.and_assoc];congr 2;refine List.all_congr rfl λj=>?_;show _=opsV R (gL R ((x::l).take (j+1)) _) ((x::l).getD (j+1) eR);unfold gL;rw[List.take_succ_cons,List.foldl_cons,h1];rfl
def amK{l:List cq}{P:cq->Bool}(h:∀ j,j<l.length->c8 (l.getD j eR)=true->(l.take (j+1)).all c8=true):(range l.length).all (λj=> !c8 (l.getD j eR)||P (l.getD j eR))=(l.takeWhile c8).all P:=by
 rw[Bool.eq_iff_iff,bK,bK];constructor
 .intro ha y hy;have C:y∈l:=takeWhile_sublist _ |>.subset hy;have hp:c8 y=true:=bK.1 all_takeWhile y hy;let⟨j,hj⟩:=cV C;have:=ha j (by simpa using(bQ.1 hj).1);rw[getD_some hj,hp] at this;simpa using this
 .intro ha j hj;have ao:j<l.length:=s0 hj
  have hx:l[j]? =some l[j]:=aO ao;have h1:=h j ao;rw[getD_some hx] at h1 ⊢;cases hp:c8 l[j] with
  |false=>rfl
  |true=>
   have h2:=bK.1 (h1 hp)
   have J:l.takeWhile c8=l.take (j+1)++(l.drop (j+1)).takeWhile c8:=by
    conv=>lhs;rw[<- take_append_drop (j+1) l]
    exact takeWhile_append_of_pos h2
   have:P l[j]=true:=ha _ (by
    rw[J,mem_append];left
    exact bD (i:=j) (by rw[getElem?_take,bi oG,hx]))
   rw[this];rfl
structure NB(f:az):Prop where
 ok:M1 f
 sl:f.a6.length<=60
 ins:∀ b∈f.blocks,∀ x∈b.ins,D7 f.aj.length (f.aj.length+f.a6.length) x/\Oc f.aj.length (f.aj.length+f.a6.length) x
 Pq:∀ (k:Nat) b,f.blocks[k]? =some b->∀ (j:Nat) x,b.ins[j]? =some x->c8 x=true->x.args.length=(cY f.blocks f.blocks.length k).length/\(b.ins.take (j+1)).all c8=true
 wr:∀ b∈f.blocks,fY b.fin= -1\/∃ i:Nat,i<f.aj.length/\fY b.fin=i
 rd:∀ b∈f.blocks,∀ r∈dM b.fin,∃ i:Nat,i<f.aj.length/\r=i
 ed:∀ b∈f.blocks,gE b.fin=ep b.fin/\ug b.fin=nextR b.fin
 ar:∃ a:Nat,f.args=a/\a<=f.aj.length
def adq{f:az}(h:iX f=true):NB f:=by
 have J:=yR h;have hd:=h;unfold iX at hd;simp only[aJ] at hd;let⟨h1,h2,_,h4,_⟩:=hd
 have qJ:se f=true:=by
  unfold od at h1;simp only[aJ] at h1;exact h1.2.2.1
 have X:∃ a:Nat,f.args=a/\a<=f.aj.length:=by
  unfold od at h1;simp only[aJ,kC] at h1;have:=h1.2.1;refine⟨f.args.toNat,oG,?_⟩;have:=this.2;split at this<;>omega
 have lx:∀ k∈f.a6,k=1\/k=2:=λk hk=>by
  unfold sC at h2;simp only[aJ] at h2;have C:=h2.2.2.1;simp only[gk,Bool.not_eq_true',any_eq_false] at C;have:=C k hk;simp[pC] at this;omega
 have he:∀ b∈f.blocks,gD f b.fin=true:=λb hb=>by
  let⟨k,hk⟩:=cV hb;have:=bK.1 h4 k (by simpa using(bQ.1 hk).1);unfold kD at this;simp only[getD_some hk,aJ] at this;exact this.1
 have M:∀ (k:Nat) b,f.blocks[k]? =some b->∀ (j:Nat) x,b.ins[j]? =some x->fu f k (cY f.blocks f.blocks.length k).length x=true/\(c8 x=true->(b.ins.take (j+1)).all c8=true):=λk b hb j x hx=>by
  have:=J.right k b hb j x hx;rw[K3,aJ] at this;refine⟨by rw[aa2 lx];exact this.1,λhp=>?_⟩;have C:=this.2;rw[hp] at C;simpa using C
 have U:∀ b∈f.blocks,jP f b.fin=true:=λb hb=>by rw[RY qJ];exact he b hb
 refine⟨J,J.a6.2,λb hb x hx=>?_,λk b hb j x hx hp=>?_,λb hb=>(RU (U b hb)).1,λb hb=>(RU (U b hb)).2.1,λb hb=>⟨Rp (he b hb),ZS (he b hb)⟩,X⟩
 .let⟨k,hk⟩:=cV hb;let⟨j,hj⟩:=cV hx;have:=aa3 J.a6.1 (M k b hk j x hj).1;exact⟨this.1,this.2.1⟩
 .have:=aa3 J.a6.1 (M k b hb j x hx).1;have C:=this.2.2 (by simpa[c8] using hp);exact⟨oG,(M k b hb j x hx).2 hp⟩
def akw{f:az}(h:NB f):uj f.aj.length (f.aj.length+f.a6.length) f.blocks.length (jH f.blocks f.args.toNat):=by
 let⟨a,ha,uG⟩:=h.ar;have hR:=h.ok.aj;have hS:=h.sl;have hi:=YA (R:=f.aj.length) (n:=f.aj.length+f.a6.length) (args:=a) hR oG oG h.ok.pos uG;rw[ha,eU];unfold jH;refine(ZN (J:=uj f.aj.length (f.aj.length+f.a6.length) f.blocks.length) h.ok.cn (λs hs hj=>amF (J:=uj f.aj.length (f.aj.length+f.a6.length) f.blocks.length) h.ok.cn (λs h=>aaV h false) (λs k hs hj=>?_) hs hj) _ _ hi.1.ok hi.1 (Nat.lt_succ_self _)).2.2;refine aoe (J:=uj f.aj.length (f.aj.length+f.a6.length) f.blocks.length) h.ok.cn hs hj λx hx hr u hu U t ht=>?_;have hk:k<f.blocks.length:=(bQ.1 hx).1;have C:=bD hx;have M:=(h.ok.cn x C).to t ht;obtain⟨t,rfl⟩:=jy M.1;let⟨_,X,p3⟩:=Ie hR oG oG (ok:=true) (λy hy=>(h.ins x C y hy).1) (hs.qi hk) (hj.yes k hk hr);exact(aaW hR oG oG U (h.ed x C).1 (h.wr x C) oG X p3).1
def ZT{f:az}(h:NB f){b:Nat}(hb:b<f.blocks.length):uk f (jH f.blocks f.args.toNat) b=vm f.blocks (jH f.blocks f.args.toNat) b:=by
 have M:=akw h;have hR:=h.ok.aj;have hS:=h.sl;generalize jH f.blocks f.args.toNat=s at M ⊢;have hx:f.blocks[b]? =some f.blocks[b]:=aO hb;have J:f.blocks[b]∈f.blocks:=eh _;unfold uk vm;simp only[getD_some hx];have D2:=h.Pq b _ hx;generalize f.blocks[b]=x at hx J D2;cases tJ:s.re.getD b false with
 |false=>
  have:dm f.aj.length (f.aj.length+f.a6.length) s b=⟨true,replicate (f.aj.length+f.a6.length) false⟩:=by rw[dm,tJ];rfl
  rw[this];rfl
 |true=>
  have hc:dm f.aj.length (f.aj.length+f.a6.length) s b=⟨false,dk f.aj.length (f.aj.length+f.a6.length) (s.wsq.getD b [])⟩:=by rw[dm,tJ];rfl
  have hw:=M.ok.qi hb;have ho:=M.yes b hb tJ;rw[hc];generalize s.wsq.getD b []=w at hw ho;have h1:=aa5 hR oG oG (h.ins x J) (ok:=true) hw ho;let⟨h2,h3,h4⟩:=Ie hR oG oG (ok:=true) (λy hy=>(h.ins x J y hy).1) hw ho;have h5:=SD (R:=f.aj.length) (n:=f.aj.length+f.a6.length) oG h3 (ok:=(x.ins.foldl o8 (w,true)).2) (h.rd x J)
  have h6:∀ j,j<x.ins.length->c8 (x.ins.getD j eR)=true->(x.ins.take (j+1)).all c8=true:=λj hj hp=>by
   have hy:x.ins[j]? =some x.ins[j]:=aO hj;rw[getD_some hy] at hp;exact(D2 j _ hy hp).2
  have h7:=amK (l:=x.ins) (P:=λy=>(range y.args.length).all (um f s b y)) h6
  have h8:(x.ins.takeWhile c8).all (λy=>(range y.args.length).all (um f s b y))=(x.ins.takeWhile c8).all (vL f.blocks s b):=by
   rw[Bool.eq_iff_iff,bK,bK]
   have Hc:∀ y∈x.ins.takeWhile c8,(range y.args.length).all (um f s b y)=vL f.blocks s b y:=λy hy=>by
    have Hz:y∈x.ins:=takeWhile_sublist _ |>.subset hy;have hp:c8 y=true:=bK.1 all_takeWhile y hy;let⟨j,hj⟩:=cV Hz;have hlen:=(D2 j y hj hp).1;rw[vL,hlen,Bool.eq_iff_iff,bK,bK]
    have:∀ k∈range (cY f.blocks f.blocks.length b).length,um f s b y k=wN f.blocks s b y k:=λk hk=>by
     have hk:k<(cY f.blocks f.blocks.length b).length:=s0 hk
     have hpk:(cY f.blocks f.blocks.length b)[k]? =some (cY f.blocks f.blocks.length b)[k]:=aO hk;unfold um wN;simp only[getD_some hpk]
     have U:(cY f.blocks f.blocks.length b)[k].toNat<f.blocks.length:=by
      have awN:=(K2 (λb hb t ht=>((h.ok.cn b hb).to t ht).1) f.blocks.length b).2 _ (eh hk);have:=h.ok.pos;omega
     generalize (cY f.blocks f.blocks.length b)[k].toNat=p at U;have zG:f.blocks[p]? =some f.blocks[p]:=aO U;have X:f.blocks[p]∈f.blocks:=eh _;rw[getD_some zG];generalize f.blocks[p]=z at zG X;have hak:y.args[k]? =some y.args[k]:=aO oG;have EA:=(h.ins x J y Hz).2.p (by simpa[c8] using hp) _ (eh (h:=by omega):y.args[k]∈y.args);rw[getD_some hak];let⟨i,hi,e⟩:=EA;rw[e,eU];cases Ej:s.re.getD p false with
     |false=>
      have:dm f.aj.length (f.aj.length+f.a6.length) s p=⟨true,replicate (f.aj.length+f.a6.length) false⟩:=by rw[dm,Ej];rfl
      rw[this];rfl
     |true=>
      have EO:dm f.aj.length (f.aj.length+f.a6.length) s p=⟨false,dk f.aj.length (f.aj.length+f.a6.length) (s.wsq.getD p [])⟩:=by rw[dm,Ej];rfl
      let⟨q2,q3,q4⟩:=Ie hR oG oG (ok:=true) (λy hy=>(h.ins z X y hy).1) (M.ok.qi U) (M.yes p U Ej);let⟨r2,r3,r4⟩:=ZR hR oG oG (h.ed z X).1 (h.wr z X) (to:=(b:Int)) q3 q4;rw[EO,q2,r2,getD_some (yL (show i<f.aj.length+f.a6.length by omega))];have r6:jm f.aj.length i=i:=by rw[jm,bi hi]
      rw[r6];show(false||fM _ i)=(!true||nM _ i)
      rw[<- CR r3.all];rfl
    exact⟨λh k hk=>by rw[<- this k hk];exact h k hk,λh k hk=>by rw[this k hk];exact h k hk⟩
   exact⟨λh y hy=>by rw[<- Hc y hy];exact h y hy,λh y hy=>by rw[Hc y hy];exact h y hy⟩
  have h9:(range x.ins.length).all (D8 f s b x.ins ⟨false,dk f.aj.length (f.aj.length+f.a6.length) w⟩)=((range x.ins.length).all (λj=>opsV f.aj.length (gL f.aj.length (x.ins.take j) ⟨false,dk f.aj.length (f.aj.length+f.a6.length) w⟩) (x.ins.getD j eR))&&(range x.ins.length).all λj=> !c8 (x.ins.getD j eR)||(range (x.ins.getD j eR).args.length).all (um f s b (x.ins.getD j eR))):=by
   rw[<- aok];rfl
  have qk:(lB x w).2=kW (x.ins.foldl o8 (w,true)).1 (x.ins.foldl o8 (w,true)).2 (dM x.fin):=rfl;rw[h9,h7,h8,h2,qk,h5,h1];simp only[Bool.true_and,Bool.false_or,Bool.not_true];generalize (range x.ins.length).all _=A;generalize (x.ins.takeWhile c8).all _=B;generalize wB _ _=C;cases A<;>cases B<;>cases C<;>rfl
def ake(f:az):SB f=eF f:=by
 rw[SB,eF,XM];split
 .rename_i h;have hf:=adq h
  have:(range f.blocks.length).all (uk f (jH f.blocks f.args.toNat))=wJ f.blocks f.args.toNat:=by
   rw[wJ,Bool.eq_iff_iff,bK,bK];exact⟨λh k hk=>by rw[<- ZT hf (s0 hk)];exact h k hk,λh k hk=>by rw[ZT hf (s0 hk)];exact h k hk⟩
  rw[this]
 .rfl
end Go.Abs
section
open Go Go.Proofs List
namespace Go.Abs
open Go.Proofs.Tryz
def BN(f:az):Bool:=kZ f.name&&(!decide ((1200:Int)<f.aj.length)&&(!decide ((60:Int)<f.a6.length)&&(eg f.args 0 (if(f.aj.length:Int)<6 then(f.aj.length:Int) else 6)&&(!decide (2<f.result)&&(!(f.iter&&decide (f.result=0))&&(!decide ((6:Int)<f.signals.length)&&eg f.blocks.length 1 1200))))))
def yT(a:Int)(j:Nat)(x:Int):Bool:=pC 3 x||(decide ((j:Int)<a)&&decide (x=3))
def ahj{f:az}(h:BN f=false):vM f=false:=by
 unfold BN at h;unfold vM od sC se;revert h;generalize kZ f.name=a;generalize eg f.args 0 _=b;generalize eg f.blocks.length 1 1200=c;generalize rB f=d;generalize gk f.aj 3=e;generalize gk (f.aj.take f.args.toNat) 2=g;generalize gk f.a6 2=i;generalize f.signals.any _=j;grind
def ah6{f:az}(h:BN f=true)(hr:0<=f.result):od f=true/\f.signals.length<=6/\f.aj.length<=1200/\f.a6.length<=60/\0<=f.args/\f.args<=f.aj.length:=by
 unfold BN at h;simp[aJ,Bool.not_eq_true',decide_eq_false_iff_not,kC] at h;let⟨h1,h2,M,C,X,J,h7,U⟩:=h;have ha:f.args<=f.aj.length:=by have:=C.2;split at this<;>omega
 refine⟨?_,oG,oG,oG,C.1,ha⟩;unfold od se;simp[aJ,Bool.not_eq_true',decide_eq_false_iff_not,kC];refine⟨h1,C,?_,h2,M,U⟩;have:f.result=0\/f.result=1\/f.result=2:=by omega
 rcases this with e|e|e
 .simp[e] at J ⊢;exact J
 .simp[e]
 .simp[e]
def GS{f:az}(hs:Nx f):aH prog 136 [.agg (aL f)] (B (vM f)):=by
 have D4:=D4 hs.nm;have jN:∀ {n a b:Int},aH prog 188 [I n,I a,I b] (B (eg n a b)):=λ{n a b}=>jN;refine bx (fo f136) (.cons (.agg (gS f)) .nil) (Tr.s _) ?_;refine aA (ag ?_);refine af (br (cH [(0,aL f,48)] eH (l:=[(1,.pt (aL f))]) eH) (aG (al ?_)));refine ag ?_;refine cl D4 ?_;refine aX ?_;refine cJ ?_;refine ag ?_;refine cF rfl rfl (acn rfl rfl) (λhc=>⟨ak,rfl⟩) (gc jN ?_);refine aX ?_;refine aX ?_;refine cJ ?_;refine gc jN ?_;refine ag ?_;refine af (cM rfl (λh=>?_) λh=>cI (aG (aA ?_)))
 .refine aG (al (SS ?_));refine af (de (aC (d:=B false) rfl ?_))
  have:BN f=false:=by
   revert h;unfold BN;generalize kZ f.name=a;generalize eg f.args 0 _=b;generalize eg f.blocks.length 1 1200=c;generalize f.iter=d;grind
  rw[ahj this]
 have hA:BN f=true:=by
  revert h;unfold BN;generalize kZ f.name=a;generalize eg f.args 0 _=b;generalize eg f.blocks.length 1 1200=c;generalize f.iter=d;grind
 let⟨h1,h6,hR,hS,ha0,haR⟩:=ah6 hA hs.EH;clear h hA;let⟨a,ha⟩:=jy ha0
 have hV:vM f=(gk f.aj 3&&(gk (f.aj.take a) 2&&(gk f.a6 2&&((!f.signals.any λs=> !isName s)&&rB f)))):=by
  rw[vM,h1,sC,ha,eU,show decide ((6:Int)<f.signals.length)=false from decide_eq_false oG];simp only[Bool.true_and,Bool.not_false,Bool.and_assoc]
 rw[hV];clear hV h1
 have J:∀ (j:Nat) x,f.aj[j]? =some x->yT a j x=true->(gk f.aj 3&&(gk (f.aj.take a) 2&&(gk f.a6 2&&((!f.signals.any λs=> !isName s)&&rB f))))=false:=λj x hx hb=>by
  rw[yT,Bool.or_eq_true] at hb;rcases hb with hb|hb
  .have:gk f.aj 3=false:=by
    rw[gk,any_eq_true.2 ⟨x,bD hx,hb⟩];rfl
   rw[this];rfl
  .have hb:j<a/\x=3:=by simpa using hb
   have:gk (f.aj.take a) 2=false:=by
    rw[gk,any_eq_true.2 ⟨x,bD (i:=j) (by rw[getElem?_take,bi hb.1,hx]),by rw[hb.2];rfl⟩];rfl
   rw[this,Bool.false_and,Bool.and_false]
 have C:(∀ (j:Nat) x,f.aj[j]? =some x->yT a j x=false)->gk f.aj 3=true/\gk (f.aj.take a) 2=true:=λh=>by
  constructor
  .rw[gk,Bool.not_eq_true',any_eq_false];intro x hx;let⟨j,hj⟩:=cV hx;have:=h j x hj;rw[yT,Bool.or_eq_false_iff] at this;rw[this.1];simp
  .rw[gk,Bool.not_eq_true',any_eq_false];intro x hx;let⟨j,hj⟩:=cV hx;have uU:j<a:=by have:=(bQ.1 hj).1;simp at this;omega
   rw[getElem?_take,bi uU] at hj;have:=h j x hj;unfold yT pC at this;simp[uU] at this;simp[pC];omega
 refine SS ?_
 refine af (cw (λs=>aP prog s ⟨aD [(1,.pt (aL f))],λ_=>none,1⟩/\gk f.aj 3=true/\gk (f.aj.take a) 2=true) (cT (α:=Nat) (λk=>⟨aD [(1,.pt (aL f)),(3,I k)],λ_=>none,1⟩)
  (λk=>k<=f.aj.length/\∀ j x,j<k->f.aj[j]? =some x->yT a j x=false) (λk=>f.aj.length - k) 0 (au eH) ⟨oG,λj y hj=>by omega⟩ ?_) ?_)
 .rintro k ⟨hk,hinv⟩;refine bh ?_;refine af ⟨_,rfl,λh=>?_,λh=>?_⟩
  .have ao:k<f.aj.length:=by simpa using h
   have hx:f.aj[k]? =some f.aj[k]:=aO ao;have gM:=J k _ hx
   have Pj:yT a k f.aj[k]=false->∀ j y,j<k+1->f.aj[j]? =some y->yT a j y=false:=λh j y hj hy=>by
    by_cases e:j=k
    .subst e;rw[hx] at hy;cases hy;exact h
    .exact hinv j y oG hy
   generalize f.aj[k]=x at hx gM Pj;refine ws (aX ?_);refine aX ?_;refine cJ ?_;refine ag ?_;refine af (aB rfl (λhp=>?_) λhp=>?_)
   .refine ws (SS ?_);refine af (bj (bP (aY (aC (d:=B false) rfl ?_))));rw[gM (by revert hp;rw[yT,pC,ha];grind)]
   .refine cB (ax ?_);refine af (aW (k+1) (au eH) ⟨oG,Pj (by revert hp;rw[yT,pC,ha];grind)⟩ oG)
  .have bt:¬ k<f.aj.length:=by simpa using h
   exact⟨au eH,C λj x hx=>hinv j x (by have:=(bQ.1 hx).1;omega) hx⟩
 rintro s ⟨hg,e1,e2⟩;clear J C;rw[e1,e2,Bool.true_and,Bool.true_and];refine⟨_,hg,aG (aA ?_)⟩;refine SS ?_
 refine af (cw (λs=>aP prog s ⟨aD [(1,.pt (aL f))],λ_=>none,1⟩/\gk f.a6 2=true) (cT (α:=Nat) (λk=>⟨aD [(1,.pt (aL f)),(4,I k)],λ_=>none,1⟩)
  (λk=>k<=f.a6.length/\∀ (j:Nat) x,j<k->f.a6[j]? =some x->pC 2 x=false) (λk=>f.a6.length - k) 0 (au eH) ⟨oG,λj y hj=>by omega⟩ ?_) ?_)
 .rintro k ⟨hk,hinv⟩;refine bh ?_;refine af ⟨_,rfl,λh=>?_,λh=>?_⟩
  .have ao:k<f.a6.length:=by simpa using h
   have hx:f.a6[k]? =some f.a6[k]:=aO ao;generalize f.a6[k]=x at hx;refine ws (aX ?_);refine bh ?_;refine af (aB rfl (λhp=>?_) λhp=>?_)
   .refine ws (SS ?_);refine af (bj (bP (aY (aC (d:=B false) rfl ?_))))
    have:gk f.a6 2=false:=by
     unfold gk;rw[any_eq_true.2 ⟨x,bD hx,by revert hp;unfold pC;grind⟩];rfl
    rw[this];rfl
   .refine cB (ax ?_);refine af (aW (k+1) (au eH) ⟨oG,λj y hj hy=>?_⟩ oG);by_cases e:j=k
    .subst e;rw[hx] at hy;cases hy;revert hp;unfold pC;grind
    .exact hinv j y oG hy
  .have bt:¬ k<f.a6.length:=by simpa using h
   refine⟨au eH,?_⟩;rw[gk,Bool.not_eq_true',any_eq_false];intro x hx;let⟨j,hj⟩:=cV hx;rw[hinv j x (by have:=(bQ.1 hj).1;omega) hj];simp
 rintro s ⟨hg,e3⟩;rw[e3,Bool.true_and];clear e1 e2 e3;have aeh:∀ b:Bool,b=(!(f.signals.any λs=> !isName s)&&rB f)->b=((!f.signals.any λs=> !isName s)&&rB f):=λb h=>h
 have X:∀ (j:Nat) x,f.signals[j]? =some x->isName x=false->((!f.signals.any λs=> !isName s)&&rB f)=false:=λj x hx hb=>by
  rw[any_eq_true.2 ⟨x,bD hx,by rw[hb];rfl⟩];rfl
 have asV:∀ (j:Nat) x y,f.signals[j]? =some x->f.signals[j+1]? =some y->Op.bytesLess x.toList y.toList=false->((!f.signals.any λs=> !isName s)&&rB f)=false:=λj x y hx hy hb=>by
  have:rB f=false:=by
   unfold rB;apply py (k:=j) (by have:=(bQ.1 hy).1;omega);rw[yx,getD_some hx,getD_some hy,hb]
  rw[this,Bool.and_false]
 refine⟨_,hg,aG (aA ?_)⟩;refine SS ?_
 refine af (cw (λs=>aP prog s ⟨aD [],λ_=>none,1⟩/\((!f.signals.any λs=> !isName s)&&rB f)=true) (cT (α:=Nat) (λk=>⟨aD [(1,.pt (aL f)),(5,I k)],λ_=>none,1⟩)
  (λk=>k<=f.signals.length/\(∀ (j:Nat) x,j<k->f.signals[j]? =some x->isName x=true)/\∀ (j:Nat) x y,j+1<k->f.signals[j]? =some x->f.signals[j+1]? =some y->Op.bytesLess x.toList y.toList=true) (λk=>f.signals.length - k) 0 (au eH) ⟨oG,λj y hj=>by omega,λj x y hj=>by omega⟩ ?_) ?_)
 .rintro k ⟨hk,hinv,M⟩;refine bh ?_;refine af ⟨_,rfl,λh=>?_,λh=>?_⟩
  .have ao:k<f.signals.length:=by simpa using h
   have hx:f.signals[k]? =some f.signals[k]:=aO ao;have rT:=rT (hs.sg _ (eh ao));generalize f.signals[k]=x at hx rT
   have uI:isName x=true->∀ (j:Nat) y,j<k+1->f.signals[j]? =some y->isName y=true:=λhq j y hj hy=>by
    by_cases e:j=k
    .subst e;rw[hx] at hy;cases hy;exact hq
    .exact hinv j y oG hy
   have U:=X k x hx;generalize isName x=nb at rT uI U;apply c6 iO;cases nb with
   |false=>
    refine aX ?_;refine cz ?_;(iterate 2 refine z λ_ _=>?_);refine bh ?_;(iterate 2 refine z λ_ _=>?_);refine SS ?_;refine bJ bM (aB rfl (λhp=>?_) λhp=>(by cases hp));refine ws (SS ?_);refine af (bj (bP (aY (aC (d:=B false) rfl ?_))));rw[U rfl]
   |true=>
    cases k with
    |zero=>
     have rP:decide ((0:Int)<((0:Nat):Int))=false:=rfl;refine bh ?_;refine cl rT ?_;refine aX ?_;(iterate 2 refine z λ_ _=>?_);refine bh ?_;refine z λ_ _=>?_;refine ag ?_;refine bJ bM (aB rfl (λhp=>(by cases hp)) λhp=>cB ?_);refine ax ?_;refine af (aW 1 (au eH) ⟨oG,uI rfl,λj x y hj=>by omega⟩ oG)
    |succ i=>
     have rP:decide ((0:Int)<((i+1:Nat):Int))=true:=decide_eq_true oG;have uu:((i+1:Nat):Int) - 1=(i:Int)/\ -9223372036854775808<=(i:Int)/\(i:Int)<=9223372036854775807:=by omega
     have hy:f.signals[i]? =some f.signals[i]:=aO oG;generalize f.signals[i]=y at hy;have dd:=asV i y x hy hx
     have AJ:Op.bytesLess y.toList x.toList=true->∀ (j:Nat) x y,j+1<i+1+1->f.signals[j]? =some x->f.signals[j+1]? =some y->Op.bytesLess x.toList y.toList=true:=λhq j u v hj hu hv=>by
      by_cases e:j=i
      .subst e;rw[hy] at hu;cases hu;rw[hx] at hv;cases hv;exact hq
      .exact M j u v oG hu hv
     refine bh ?_;refine cl rT ?_;refine aX ?_;refine cJ ?_;refine ag ?_;refine bJ bM (aB rfl (λhp=>?_) λhp=>?_)
     .refine ws (SS ?_);refine af (bj (bP (aY (aC (d:=B false) rfl ?_))));rw[dd (by revert hp;generalize Op.bytesLess y.toList x.toList=q;cases q<;>simp)]
     .refine cB (ax ?_);refine af (aW (i+1+1) (au eH) ⟨oG,uI rfl,AJ (by revert hp;generalize Op.bytesLess y.toList x.toList=q;cases q<;>simp)⟩ oG)
  .have bt:¬ k<f.signals.length:=by simpa using h
   refine⟨.forget _ _ _ _ λ_=>.inr rfl,?_⟩;rw[aJ];constructor
   .rw[Bool.not_eq_true',any_eq_false];intro x hx;let⟨j,hj⟩:=cV hx;rw[hinv j x (by have:=(bQ.1 hj).1;omega) hj];simp
   .unfold rB;refine bK.2 λj hj=>?_;have hj:j<f.signals.length - 1:=by simpa using hj
    have h1:f.signals[j]? =some f.signals[j]:=aO oG;have h2:f.signals[j+1]? =some f.signals[j+1]:=aO oG;rw[yx,getD_some h1,getD_some h2];exact M j _ _ oG h1 h2
 rintro s ⟨hg,e4⟩;rw[e4];refine⟨_,hg,al ?_⟩;refine SS ?_;exact af (aC rfl rfl)
end Go.Abs
end
