/- Part 4 of the proof; the last part says what is proved. -/
import Derived.Test.YtonoegleildfnaaGreatLoops3
namespace Go.Argus
open Go Go.Abs
theorem X3(v:BitVec 64)(i:Nat):(IntKind.u64.wrap (v.toNat:Int)).toNat.testBit i=v.getLsbD i:=by
 rw[wrap_u64 v.isLt,Int.toNat_natCast,BitVec.testBit_toNat]
theorem Hd{a:Int}(ha:dC a)(i:Nat):(BitVec.ofInt 64 a).getLsbD i=a.toNat.testBit i:=by
 obtain⟨n,rfl⟩:=Int.eq_ofNat_of_zero_le ha.1;have h:=ha.2;rw[<- BitVec.testBit_toNat,BitVec.toNat_ofInt];congr 1;omega
theorem akp{a b:Int}(ha:dC a)(hb:dC b)(i:Nat):(zb a b).toNat.testBit i=(a.toNat.testBit i||b.toNat.testBit i):=by
 have:zb a b=IntKind.u64.wrap (((BitVec.ofInt 64 a||| BitVec.ofInt 64 b).toNat:Nat):Int):=rfl;rw[this,X3,BitVec.getLsbD_or,Hd ha,Hd hb]
theorem SF{a b:Int}(ha:dC a)(hb:dC b)(i:Nat):(pg a b).toNat.testBit i=(a.toNat.testBit i&&b.toNat.testBit i):=by
 have:pg a b=IntKind.u64.wrap (((BitVec.ofInt 64 a&&& BitVec.ofInt 64 b).toNat:Nat):Int):=rfl;rw[this,X3,BitVec.getLsbD_and,Hd ha,Hd hb]
theorem HP(v:BitVec 64):dC (IntKind.u64.wrap (v.toNat:Int)):=by
 rw[wrap_u64 v.isLt];have:=v.isLt;unfold dC;omega
theorem Zv(a b:Int):dC (TH a b):=HP (BitVec.ofInt 64 a&&& ~~~ BitVec.ofInt 64 b)
theorem NQ(a b:Int):dC (zb a b):=HP (BitVec.ofInt 64 a||| BitVec.ofInt 64 b)
theorem ac0{k:Nat}(hk:k<64):IntKind.u64.wrap (1*2 ^ (min k 64))=((2 ^ k:Nat):Int):=by
 have h1:min k 64=k:=by omega
 have h2:(2:Nat) ^ k<2 ^ 64:=Nat.pow_lt_pow_right oG hk;rw[h1,Int.one_mul, <- wrap_u64 h2]
 norm_cast
def dP(w:List Int)(r:Nat):Bool:=(w.getD (r / 64) 0).toNat.testBit (r % 64)
def eU(w:List Int):Prop:=∀ u∈w,dC u
theorem eU.get{w:List Int}(h:eU w)(i:Nat):dC (w.getD i 0):=by
 rw[List.getD_eq_getElem?_getD];cases hx:w[i]? with
 |none=>exact⟨by simp,by simp⟩
 |some u=>exact h u (List.mem_of_getElem? hx)
theorem abZ{k:Nat}(hk:k<64):dC ((2 ^ k:Nat):Int):=by
 have h2:(2:Nat) ^ k<2 ^ 64:=Nat.pow_lt_pow_right oG hk;generalize (2:Nat) ^ k=z at h2;unfold dC;omega
theorem Io{w:List Int}(h:eU w)(m:Nat):lR w m=dP w m:=by
 have C:=h.get (m / 64);unfold lR dP;generalize w.getD (m / 64) 0=u at C;have hk:min (m % 64) 64=m % 64:=by omega
 rw[hk];obtain⟨n,rfl⟩:=Int.eq_ofNat_of_zero_le C.1
 have e:((n:Int).fdiv (2 ^ (m % 64)))=((n / 2 ^ (m % 64):Nat):Int):=by
  rw[Int.fdiv_eq_ediv_of_nonneg _ (Int.le_of_lt (Int.pow_pos oG)),Int.natCast_ediv,Int.natCast_pow];rfl
 rw[e];have hd:n / 2 ^ (m % 64)<=n:=Nat.div_le_self _ _
 have hq:dC ((n / 2 ^ (m % 64):Nat):Int):=by
  have:=C.2;revert hd;generalize n / 2 ^ (m % 64)=z;intro hd;unfold dC;omega
 have h1:dC 1:=by unfold dC;omega
 have hb:∀ i,(pg ((n / 2 ^ (m % 64):Nat):Int) 1).toNat.testBit i=(n.testBit (m % 64)&&decide (i=0)):=fun i=>by
  rw[SF hq h1,Int.toNat_natCast];by_cases hi:i=0
  .subst hi;simp[Nat.testBit_eq_decide_div_mod_eq]
  .have:(1:Int).toNat.testBit i=false:=by
    show Nat.testBit 1 i=false;cases i with
    |zero=>omega
    |succ j=>simp[Nat.testBit_succ]
   rw[this];simp[hi]
 have hp:dC (pg ((n / 2 ^ (m % 64):Nat):Int) 1):=HP (BitVec.ofInt 64 _&&& BitVec.ofInt 64 1);generalize pg ((n / 2 ^ (m % 64):Nat):Int) 1=z at hb hp;obtain⟨q,rfl⟩:=Int.eq_ofNat_of_zero_le hp.1;simp only[Int.toNat_natCast] at hb ⊢;cases hn:n.testBit (m % 64) with
 |false=>
  have:q=0:=Nat.eq_of_testBit_eq fun i=>by rw[hb i,hn];simp
  subst this;rfl
 |true=>
  have:q=1:=Nat.eq_of_testBit_eq fun i=>by
   rw[hb i,hn];cases i with
   |zero=>simp
   |succ j=>simp[Nat.testBit_succ]
  subst this;rfl
theorem QC{w:List Int}{i:Nat}{u:Int}(hi:i<w.length)(r:Nat):dP (w.set i u) r=if r / 64=i then u.toNat.testBit (r % 64) else dP w r:=by
 unfold dP;simp only[List.getD_eq_getElem?_getD,List.getElem?_set];split
 .rename_i h;subst h;simp[hi]
 .rename_i h;rw[if_neg fun e=>h e.symm]
theorem abS{w:List Int}(h:eU w){m:Nat}(hm:m / 64<w.length)(r:Nat):dP (wo w m) r=(dP w r||decide (r=m)):=by
 have hk:m % 64<64:=by omega
 unfold wo;rw[ac0 hk,QC hm];split
 .rename_i e;rw[akp (h.get _) (abZ hk),Int.toNat_natCast,Nat.testBit_two_pow,dP,e];congr 1;apply decide_eq_decide.2;omega
 .rename_i e;have:¬ r=m:=fun h=>e (by rw[h]);simp[this]
theorem eU.set{w:List Int}(h:eU w){i:Nat}{u:Int}(C:dC u):eU (w.set i u):=fun x hx=>by
 rcases List.mem_or_eq_of_mem_set hx with h1|h1
 .exact h x h1
 .subst h1;exact C
theorem eU.with{w:List Int}(h:eU w)(m:Nat):eU (wo w m):=h.set (NQ _ _)
theorem eU.less{w:List Int}(h:eU w)(m:Nat):eU (FQ w m):=h.set (Zv _ _)
theorem eU.CE{w:List Int}(h:eU w)(n:Int):eU (CE w n):=by
 unfold Argus.CE;split
 .exact h.less _
 .exact h
theorem eU.wv{w v:List Int}(h:eU w):∀ k,eU (wv w v k)
 |0=>h
 |k+1=>(eU.wv h k).set (NQ _ _)
theorem NN{w v:List Int}(h:eU w)(hv:eU v)(hl:w.length=v.length)(he:∀ r,dP w r=dP v r):w=v:=by
 apply List.ext_getElem hl;intro i h1 h2;have e1:w.getD i 0=w[i]:=by simp[List.getD_eq_getElem?_getD,List.getElem?_eq_getElem h1]
 have e2:v.getD i 0=v[i]:=by simp[List.getD_eq_getElem?_getD,List.getElem?_eq_getElem h2]
 have a:=h w[i] oS;have b:=hv v[i] oS
 have:w[i].toNat=v[i].toNat:=Nat.eq_of_testBit_eq fun k=>by
  by_cases hk:k<64
  .have:=he (i*64+k);unfold dP at this;rw[show(i*64+k) / 64=i by omega,show(i*64+k) % 64=k by omega,e1,e2] at this;exact this
  .have h2:2 ^ 64<=2 ^ k:=Nat.pow_le_pow_right oG oG;unfold dC at a b;rw[Nat.testBit_lt_two_pow oG,Nat.testBit_lt_two_pow oG]
 unfold dC at a b;omega
theorem abV(n r:Nat):dP (List.replicate n 0) r=false:=by
 unfold dP;rw[List.getD_eq_getElem?_getD,List.getElem?_replicate];split<;>simp
section
variable(beh:Nat->List Int)(aon:Nat->Bool->Int)(ent:Nat->Nat->Int)
variable{beh aon ent}{alV:Nat->Bool}{wIn:Nat->Bool->Bool}
end
def wx(s:List Bool)(c:Int):Bool:=s.getD c.toNat false
def du(beh:Nat->List Int)(w:Int):Nat->List Bool×List Int->Nat->List Bool×List Int
 |0,s,_=>s
 |k+1,s,b=>
  let r:=(beh b).foldl (fun s c=>if wx s.1 c=false/\c≠w then du beh w k s c.toNat else s) (s.1.set b true,s.2)
  (r.1,r.2++[(b:Int)])
def cV(beh:Nat->List Int)(w:Int)(k:Nat)(s:List Bool×List Int)(l:List Int):List Bool×List Int:=
 l.foldl (fun s c=>if wx s.1 c=false/\c≠w then du beh w k s c.toNat else s) s
theorem sN(beh:Nat->List Int)(w:Int)(k:Nat)(s:List Bool×List Int)(b:Nat):
 du beh w (k+1) s b=((cV beh w k (s.1.set b true,s.2) (beh b)).1,(cV beh w k (s.1.set b true,s.2) (beh b)).2++[(b:Int)]):=rfl
theorem Bx(beh:Nat->List Int)(w:Int)(k:Nat)(s:List Bool×List Int)(l:List Int)(c:Int):
 cV beh w k s (l++[c])=(if wx (cV beh w k s l).1 c=false/\c≠w then du beh w k (cV beh w k s l) c.toNat else cV beh w k s l):=by
 rw[cV,List.foldl_append];rfl
theorem s7{α:Type}{p:List α->Prop}(h0:p [])(h1:∀ l a,p l->p (l++[a]))(l:List α):p l:=by
 have h:∀ l:List α,p l.reverse:=fun l=>by
  induction l with
  |nil=>exact h0
  |cons a l ih=>rw[List.reverse_cons];exact h1 _ _ ih
 have:=h l.reverse
 rwa[List.reverse_reverse] at this
theorem Hg{l:List Bool}{b:Nat}:(l.set b true).count false<=l.count false:=by
 induction l generalizing b with
 |nil=>simp
 |cons x l ih=>
  cases b with
  |zero=>cases x<;>simp
  |succ b=>simp only[List.set_cons_succ,List.count_cons];have:=ih (b:=b);omega
theorem sK{l:List Bool}{b:Nat}(h:l[b]? =some false):(l.set b true).count false+1=l.count false:=by
 induction l generalizing b with
 |nil=>simp at h
 |cons x l ih=>
  cases b with
  |zero=>simp at h;subst h;simp
  |succ b=>simp only[List.set_cons_succ,List.count_cons];have:=ih (b:=b) (by simpa using h);omega
structure r8(beh:Nat->List Int)(w:Int)(s s':List Bool×List Int):Prop where
 len:s'.1.length=s.1.length
 cnt:s'.1.count false<=s.1.count false
 mono:∀ i,s.1.getD i false=true->s'.1.getD i false=true
 out:∃ l:List Int,s'.2=s.2++l/\l.Nodup/\∀ x,x∈l↔0<=x/\s'.1.getD x.toNat false=true/\s.1.getD x.toNat false=false
theorem r8.refl{beh:Nat->List Int}{w:Int}(s:List Bool×List Int):r8 beh w s s:=⟨rfl,Nat.le_refl _,fun _ h=>h,[],by simp,List.nodup_nil,fun x=>by
 constructor
 .intro h;simp at h
 .rintro⟨_,h1,h2⟩;rw[h1] at h2;cases h2⟩
theorem r8.trans{beh:Nat->List Int}{w:Int}{s t u:List Bool×List Int}(h1:r8 beh w s t)(h2:r8 beh w t u):r8 beh w s u:=by
 refine⟨h2.len.trans h1.len,Nat.le_trans h2.cnt h1.cnt,fun i h=>h2.mono i (h1.mono i h),?_⟩;obtain⟨U,a1,b1,C⟩:=h1.out;obtain⟨X,a2,b2,J⟩:=h2.out;refine⟨U++X,by rw[a2,a1,List.append_assoc],?_,fun x=>?_⟩
 .rw[List.nodup_append];refine⟨b1,b2,fun a ha b hb e=>?_⟩;subst e;have:=((C a).1 ha).2.1;rw[((J a).1 hb).2.2] at this;cases this
 .rw[List.mem_append,C,J];constructor
  .rintro(⟨h0,h,h'⟩|⟨h0,h,h'⟩)
   .exact⟨h0,h2.mono _ h,h'⟩
   .refine⟨h0,h,?_⟩;cases M:s.1.getD x.toNat false with
    |false=>rfl
    |true=>rw[h1.mono _ M] at h';cases h'
  .rintro⟨h0,h,h'⟩;cases ht:t.1.getD x.toNat false with
   |true=>exact .inl ⟨h0,rfl,h'⟩
   |false=>exact .inr ⟨h0,h,rfl⟩
theorem getD_set_true{l:List Bool}{b i:Nat}(hb:b<l.length):(l.set b true).getD i false=(decide (i=b)||l.getD i false):=by
 simp only[List.getD_eq_getElem?_getD,List.getElem?_set];split
 .rename_i h;subst h;simp[hb]
 .rename_i h;have:¬ i=b:=fun e=>h e.symm;simp[this]
section
variable{beh:Nat->List Int}{w:Int}{n:Nat}(hb:∀ b,∀ c∈beh b,0<=c/\c.toNat<n)
theorem sL{l:List Bool}{c:Nat}(h:l.getD c false=false)(hc:c<l.length):l[c]? =some false:=by
 rw[List.getD_eq_getElem?_getD,List.getElem?_eq_getElem hc] at h;rw[List.getElem?_eq_getElem hc];simpa using h
include hb in
theorem Ip:∀ (k:Nat) (s:List Bool×List Int) (b:Nat),s.1.length=n->b<n->s.1.count false<=k->s.1.getD b false=false->
 r8 beh w s (du beh w k s b)/\(du beh w k s b).1.getD b false=true/\
 (∀ x,(du beh w k s b).1.getD x false=true->s.1.getD x false=false->∀ c∈beh x,c≠w->(du beh w k s b).1.getD c.toNat false=true)
 |0,s,b,hn,gP,hk,hs=>by
  have:=sK (sL hs oG);omega
 |k+1,s,b,hn,gP,hk,hs=>by
  have h0:r8 beh w s (s.1.set b true,s.2++[(b:Int)]):=by
   refine⟨by simp,Hg,fun i h=>?_,[(b:Int)],rfl,by simp,fun x=>?_⟩
   .simp only;rw[getD_set_true oG,h,Bool.or_true]
   .simp only[getD_set_true (show b<s.1.length by omega),List.mem_singleton];constructor
    .rintro rfl;simp[<- List.getD_eq_getElem?_getD,hs]
    .rintro⟨h1,h2,h3⟩;rw[h3,Bool.or_false,decide_eq_true_eq] at h2;omega
  have hF:∀ l:List Int,(∀ c∈l,0<=c/\c.toNat<n)->∀ o,let r:=cV beh w k (s.1.set b true,o) l
   r8 beh w (s.1.set b true,o) r/\(∀ c∈l,c≠w->r.1.getD c.toNat false=true)/\
   (∀ x,r.1.getD x false=true->(s.1.set b true).getD x false=false->∀ c∈beh x,c≠w->r.1.getD c.toNat false=true):=by
   intro l
   induction l using s7 with
   |h0=>intro _ o;exact⟨.refl _,fun c h=>by simp at h,fun x h h'=>by rw[show(cV beh w k (s.1.set b true,o) []).1=s.1.set b true from rfl,h'] at h;cases h⟩
   |h1 l c ih=>
    intro hl o;obtain⟨C,U,X⟩:=ih (fun c h=>hl c (by simp[h])) o;simp only;rw[Bx];generalize cV beh w k (s.1.set b true,o) l=t at C U X;have hc:=hl c oS;have cH:t.1.length=n:=by rw[C.len];simp[hn]
    split
    .rename_i kz;have fL:t.1.getD c.toNat false=false:=kz.1
     have wM:t.1.count false<=k:=by
      have a1:=C.cnt;have a2:=sK (sL hs oG);simp only at a1;omega
     obtain⟨q1,q2,q3⟩:=Ip k t c.toNat cH hc.2 wM fL;refine⟨C.trans q1,fun M h' J=>?_,fun x h1 h2 M fE J=>?_⟩
     .rw[List.mem_append] at h';rcases h' with h'|h'
      .exact q1.mono _ (U M h' J)
      .simp at h';subst h';exact q2
     .cases ht:t.1.getD x false with
      |true=>exact q1.mono _ (X x ht h2 M fE J)
      |false=>exact q3 x h1 ht M fE J
    .rename_i kz;refine⟨C,fun M h' J=>?_,X⟩;rw[List.mem_append] at h';rcases h' with h'|h'
     .exact U M h' J
     .simp at h';subst h';cases ht:t.1.getD M.toNat false with
      |true=>rfl
      |false=>exact absurd ⟨ht,J⟩ kz
  rw[sN];obtain⟨C,U,X⟩:=hF (beh b) (hb b) s.2;generalize cV beh w k (s.1.set b true,s.2) (beh b)=t at C U X;have Ba:t.1.getD b false=true:=C.mono b (by simp only;rw[getD_set_true oG];simp);refine⟨⟨by have:=C.len;simp at this;exact this,Nat.le_trans C.cnt Hg,fun i h=>C.mono i (by simp only;rw[getD_set_true oG,h,Bool.or_true]),?_⟩,Ba,fun x h1 h2 c hc J=>?_⟩
  .obtain⟨l,e,nd,hm⟩:=C.out;simp only at e hm;refine⟨l++[(b:Int)],by simp only;rw[e,List.append_assoc],?_,fun x=>?_⟩
   .rw[List.nodup_append];refine⟨nd,by simp,fun a ha b' kq e=>?_⟩;simp at kq;subst kq e;have:=((hm _).1 ha).2.2;rw[getD_set_true oG] at this;simp at this
   .rw[List.mem_append,hm,getD_set_true oG,List.mem_singleton];simp only;constructor
    .rintro(⟨h0,h1,h2⟩|rfl)
     .simp only[Bool.or_eq_false_iff] at h2;exact⟨h0,h1,h2.2⟩
     .exact⟨by omega,by simpa using Ba,by simpa using hs⟩
    .rintro⟨h0,h1,h2⟩;by_cases hx:x=(b:Int)
     .exact .inr hx
     .refine .inl ⟨h0,h1,?_⟩;rw[h2];have:¬ x.toNat=b:=by omega
      simp[this]
  .simp only at h1 ⊢;by_cases hx:x=b
   .subst hx;exact U c hc J
   .exact X x h1 (by rw[getD_set_true oG,h2];simp[hx]) c hc J
end
def a8(beh:Nat->List Int)(n:Nat)(w:Int):List Bool:=if w=0 then List.replicate n false else(du beh w n (List.replicate n false,[]) 0).1
def bI(beh:Nat->List Int)(n:Nat):List Int:=(du beh (-1) n (List.replicate n false,[]) 0).2.reverse
section
variable{beh:Nat->List Int}{n:Nat}(hb:∀ b,∀ c∈beh b,0<=c/\c.toNat<n)(hn:0<n)
include hb hn
theorem Di(w:Int):r8 beh w (List.replicate n false,[]) (du beh w n (List.replicate n false,[]) 0)/\(du beh w n (List.replicate n false,[]) 0).1.getD 0 false=true/\
 (∀ x,(du beh w n (List.replicate n false,[]) 0).1.getD x false=true->∀ c∈beh x,c≠w->(du beh w n (List.replicate n false,[]) 0).1.getD c.toNat false=true):=by
 have C:∀ i,(List.replicate n false).getD i false=false:=fun i=>by
  rw[List.getD_eq_getElem?_getD,List.getElem?_replicate];split<;>rfl
 obtain⟨h1,h2,h3⟩:=Ip (w:=w) hb n (List.replicate n false,[]) 0 oS hn oS (C 0);exact⟨h1,h2,fun x hx=>h3 x hx (C x)⟩
theorem mO(w:Int):(a8 beh n w).length=n:=by
 unfold a8;split
 .simp
 .rw[(Di hb hn w).1.len];simp
theorem HH{x:Int}:x∈bI beh n↔0<=x/\(a8 beh n (-1)).getD x.toNat false=true:=by
 obtain⟨h1,_,_⟩:=Di hb hn (-1);obtain⟨l,e,_,hm⟩:=h1.out;unfold bI a8;rw[if_neg oG,List.mem_reverse,e];simp only[List.nil_append];rw[hm]
 have C:(List.replicate n false).getD x.toNat false=false:=by
  rw[List.getD_eq_getElem?_getD,List.getElem?_replicate];split<;>rfl
 simp only[C,and_true]
theorem Em:(bI beh n).Nodup:=by
 obtain⟨h1,_,_⟩:=Di hb hn (-1);obtain⟨l,e,nd,_⟩:=h1.out;unfold bI;rw[e];exact List.pairwise_reverse.2 (nd.imp fun h e=>h e.symm)
theorem Yr{x:Nat}(hx:(a8 beh n (-1)).getD x false=true):∀ c∈beh x,(a8 beh n (-1)).getD c.toNat false=true:=by
 obtain⟨_,_,h3⟩:=Di hb hn (-1);unfold a8 at hx ⊢;rw[if_neg oG] at hx ⊢;intro c hc;exact h3 x hx c hc (by have:=hb x c hc;omega)
end
end Go.Argus
section
open Go Go.Abs Go.Proofs Go.Argus
namespace Go.Argus
def eX(x:End):List Int:=if x.kind≠3/\x.kind≠4 then [x.to] else []
def mJ(x:End):List Int:=if x.kind=2\/x.kind=8 then eX x++[x.fm] else eX x
def cT(x:End)(k:Nat):List Int:=mJ x++(x.aI.take k).map (·.to)
def de(x:End):List Int:=if 0<=x.cx then cT x x.aI.length++[x.cx] else cT x x.aI.length
theorem Ol{x:End}{k:Nat}{w:jN}(h:x.aI[k]? =some w):cT x (k+1)=cT x k++[w.to]:=by
 unfold cT;rw[List.take_add_one,h,List.map_append,List.append_assoc];rfl
theorem BR(x:End):(mJ x).length<=2:=by unfold mJ eX;repeat' split<;>simp
theorem Bw(x:End):(de x).length<=x.aI.length+3:=by
 have:=BR x;unfold de cT;split<;>simp<;>omega
end Go.Argus
namespace Go.Proofs.Tryz.K
set_option maxRecDepth 10000
def xv(x:Argus.End)(l:List Int)(s:St):Prop:=∃ r m nx,r<nx/\m r=some (.cells (l.map I) 3)/\Ghost prog s ⟨az [(1,.pt (bc x)),(3,.rs r 0 l.length)],m,nx⟩
theorem CX{x:Argus.End}(hlen:x.aI.length<=100000):OCall prog 115 [.agg (bc x)] ((de x).map I) (de x).length 3:=by
 have aW:∀ a∈[D.agg (bc x)],Tr a:=.cons (.agg (kH x)) .nil;refine uu mixed TI (by rw[agd];rfl) aW (.map fun _=>.s _) ?_;rw[age,agf];refine aw ?_;refine af ?_;refine ab (aO (bw [(0,bc x,69)] eH (l:=[(1,.pt (bc x))]) eH) (aw ?_));refine SS ?_;refine ab ⟨_,.nilrow _ _ _ 3 3 rfl,?_⟩;refine dE (xv x (eX x)) (aj ?_) fun s C=>?_
 .have yes:x.kind≠3/\x.kind≠4->eX x=[x.to]:=fun h=>by rw[eX,if_pos h]
  have no:¬ (x.kind≠3/\x.kind≠4)->eX x=[]:=fun h=>by rw[eX,if_neg h]
  have aA:up (fun _=>(none:Option Row)) 1 (some (.cells [] 3)) 1=some (.cells [] 3):=up_same _ _ _;by_cases h3:x.kind=3
  .have gZ:(x.kind !=3)=false:=by simp[h3]
   refine aP ?_;(iterate 3 refine z fun _ _=>?_);refine SS ?_;refine ab (aq rfl (fun h=>oH) fun h=>aZ ?_);rw[no (by simp[h3])];exact⟨_,_,_,Nat.lt_succ_self _,up_same _ _ _,av eH⟩
  .by_cases h4:x.kind=4
   .have gZ:(x.kind !=3)=true:=by simp[h4]
    have JG:(x.kind !=4)=false:=by simp[h4]
    refine bF ?_;refine ab (aq rfl (fun h=>(by simp[h4] at h)) fun h=>aZ ?_);rw[no (by simp[h4])];exact⟨_,_,_,Nat.lt_succ_self _,up_same _ _ _,av eH⟩
   .have gZ:(x.kind !=3)=true:=by simp[h3]
    have JG:(x.kind !=4)=true:=by simp[h4]
    refine bF ?_;refine ab (aq rfl (fun h=>?_) fun h=>(by simp[h4] at h));refine fe ?_;refine bD ?_;refine ab ?_;rw[yes ⟨h3,h4⟩];exact⟨_,_,_,Nat.lt_succ_self _,up_same _ _ _,av eH⟩
 obtain⟨r,m,nx,hr,aA,hg⟩:=C;refine⟨_,hg,dE (xv x (mJ x)) (aj ?_) fun s C=>?_⟩
 .have J:mJ x=if x.kind=2\/x.kind=8 then eX x++[x.fm] else eX x:=rfl
  have M:(eX x).length<=1:=by unfold eX;split<;>simp
  generalize eX x=l at aA J M;have X:(l.map I).length=l.length:=by simp
  by_cases h2:x.kind=2\/x.kind=8
  .rw[if_pos h2] at J;refine bF ?_;refine ab (aq rfl (fun h=>fe ?_) fun h=>(by rcases h2 with h2|h2<;>simp[h2] at h));refine bD ?_;refine ab ?_;rw[J];refine⟨_,_,_,Nat.lt_succ_self _,(up_same _ _ _).trans (by rw[List.map_append];rfl),av ⟨rfl,?_,trivial⟩⟩;show D.rs _ 0 _=D.rs _ 0 _;rw[List.length_append];rfl
  .rw[if_neg h2] at J;refine bF ?_;refine ab (aq rfl (fun h=>(by exfalso;apply h2;revert h;by_cases e2:x.kind=2<;>by_cases e8:x.kind=8<;>simp[e2,e8])) fun h=>aZ ?_);rw[J];exact⟨r,m,nx,hr,aA,av eH⟩
 clear hg hr aA;obtain⟨r,m,nx,hr,aA,hg⟩:=C;refine⟨_,hg,dE (xv x (cT x x.aI.length)) (aw ?_) fun s C=>?_⟩
 .refine aP ?_
  refine ab (dK (α:=Nat×Nat×Mem×Nat) (fun s=>⟨az [(1,.pt (bc x)),(3,.rs s.2.1 0 (cT x s.1).length),(33,oA x.aI),(34,I x.aI.length),(35,I s.1)],s.2.2.1,s.2.2.2⟩)
   (fun s=>s.1<=x.aI.length/\s.2.1<s.2.2.2/\s.2.2.1 s.2.1=some (.cells ((cT x s.1).map I) 3)) (fun s=>x.aI.length - s.1) (0,r,m,nx) (av ⟨rfl,?_,rfl,rfl,rfl,trivial⟩) ⟨Nat.zero_le _,hr,?_⟩ ?_)
  .show D.rs r 0 _=D.rs r 0 _;simp[cT]
  .show m r=_;rw[aA];simp[cT]
  clear hg hr aA;rintro⟨j,r,m,nx⟩ ⟨hj,hr,aA⟩;dsimp only at hj hr aA ⊢;refine SS ?_;refine ab ⟨_,rfl,fun h=>?_,fun h=>?_⟩
  .have ct:j<x.aI.length:=by simpa using h
   have hy:x.aI[j]? =some x.aI[j]:=List.getElem?_eq_getElem ct;generalize x.aI[j]=w at hy;have U:=Ol hy;have l5:(cT x (j+1)).length=(cT x j).length+1:=by rw[U];simp
   have X:((cT x j).map I).length=(cT x j).length:=by simp
   have M:(cT x j).length<=2+j:=by have:=BR x;unfold cT;simp;omega
   generalize cT x j=l at aA U X l5 M;refine ws ?_;refine aP ?_;refine ab (dz ?_);refine af ?_;refine Vf ?_;refine SS ?_;refine tH (tl rfl (ap oG (ap oG (ap oG aA))) rfl V.h V.h (sQ (up_same _ _ _) rfl) rfl) ak ⟨V.h,rfl,(by first|omega|exact Nat.le_of_ble_eq_true rfl|(simp;done)|(simp;omega)),oC,(by first|rfl|(simp;done)|(simp;omega)),(by unfold maxLen;first|omega|(simp;omega)),(by rw[b3];first|omega|(simp;omega)),(by first|(simp;done)|(simp;omega))⟩ ?_;refine SS ?_;refine ab ?_;refine af ?_;refine ab (aJ (j+1,nx+1+1,_,_) (av ⟨rfl,?_,rfl,rfl,rfl,trivial⟩) ⟨by dsimp only;omega,by dsimp only;omega,?_⟩ oM)
   .show D.rs _ 0 _=D.rs _ 0 _;rw[l5]
   .dsimp only;rw[U,List.map_append];exact up_same _ _ _
  .have aX:¬ j<x.aI.length:=by simpa using h
   have:j=x.aI.length:=by omega
   subst this;exact⟨r,m,nx,hr,aA,av eH⟩
 clear hg hr aA;obtain⟨r,m,nx,hr,aA,hg⟩:=C;refine⟨_,hg,dE (xv x (de x)) (aj ?_) fun s C=>?_⟩
 .have hd:de x=if 0<=x.cx then cT x x.aI.length++[x.cx] else cT x x.aI.length:=rfl
  have M:(cT x x.aI.length).length<=2+x.aI.length:=by have:=BR x;unfold cT;simp;omega
  generalize cT x x.aI.length=l at aA hd M;have X:(l.map I).length=l.length:=by simp
  refine au ?_;refine ab (aq rfl (fun h=>fe ?_) fun h=>aZ ?_)
  .rw[if_pos (by simpa using h)] at hd;refine bD ?_;refine ab ?_;rw[hd];refine⟨_,_,_,Nat.lt_succ_self _,(up_same _ _ _).trans (by rw[List.map_append];rfl),av ⟨rfl,?_,trivial⟩⟩;show D.rs _ 0 _=D.rs _ 0 _;rw[List.length_append];rfl
  .rw[if_neg (by simpa using h)] at hd;rw[hd];exact⟨r,m,nx,hr,aA,av eH⟩
 clear hg hr aA;obtain⟨r,m,nx,hr,aA,hg⟩:=C;refine⟨_,hg,aj ?_⟩;refine af ?_;exact ab (ay rfl ⟨r,rfl,aA⟩)
end Go.Proofs.Tryz.K
namespace Go.Abs
theorem Ym{P:Program}{Y:YSpec}{rf:Bool}{Q:Exit->St->Prop}{st:St}{b:Code}[dG Y](h:∃ st',Ghost P st st'/\AW P Y rf b Q st'):AW P Y rf (.seq .skip b) Q st:=by
 obtain⟨st',h1,h2⟩:=h;exact⟨st',h1,h2⟩
end Go.Abs
namespace Go.Argus
def bN(f:aF)(beh ahd:List (List Int))(c:D):List D:=[S f.name,B f.iter,I f.args,U8 f.result,jX f.ag,jX f.aR,p7 f.signals,eZ f.blocks,bp beh,bp ahd,c]
theorem HE{f:aF}{beh ahd:List (List Int)}{c:D}(hc:Tr c):∀ a∈bN f beh ahd c,Tr a:=.cons (.s _) (.cons (.s _) (.cons (.s _) (.cons (.s _) (.cons (pY _) (.cons (pY _) (.cons (xR _) (.cons (EC _) (.cons (sT _) (.cons (sT _) (.cons hc .nil))))))))))
theorem H9{f:aF}{beh ahd:List (List Int)}{c:D}(hc:Tr c):Tr (.pt (bN f beh ahd c)):=.pt (HE hc)
@[simp] theorem aqm (f : aF) (beh ahd : List (List Int)) (c : D) : (bN f beh ahd c).length = 11 := rfl
def CF(x:bP):List bt:=x.ins.takeWhile bT
def adx(A:List Int)(a:Int)(x:bP):List Int:=(CF x).map fun y=>y.args.getD (qv (fun y=>a==y) A).toNat 0
def alU(b:Int)(l:List Int):Nat:=l.countP fun y=>y==b
def ady(x:End)(b:Int):Bool:=if((alU b (de x):Int)==1)=true then x.to==b else false
def EP(x:End)(b:Int):Int:=if ady x b=true then dJ x else -1
def alV(y:bP)(r:Int):Bool:=(CF y).any fun z=>z.to==r
def acr(n:Nat)(b:Int):Bool:=if decide (0<=b)=true then decide (b<(n:Int)) else false
end Go.Argus
namespace Go.Proofs.Tryz.K
set_option maxRecDepth 10000
section
variable{f:aF}{beh ahd:List (List Int)}{c:D}(hc:Tr c)(fF:c.one=true)
include hc fF
end
section
variable{f:aF}{beh ahd:List (List Int)}{c:D}(hc:Tr c)(fF:c.one=true)
include hc fF
end
end Go.Proofs.Tryz.K
namespace Go.Argus
def ww(l:List bt):List (List D):=(List.range l.length).map fun i=>[I ((l.length - 1 - i:Nat):Int),.agg (bl (l.getD (l.length - 1 - i) dt))]
@[simp] theorem ZU (l : List bt) : (ww l).length = l.length := by simp [ww]
theorem ZV{l:List bt}{i:Nat}{x:bt}(hi:i<l.length)(hx:l[l.length - 1 - i]? =some x):(ww l)[i]? =some [I ((l.length - 1 - i:Nat):Int),.agg (bl x)]:=by
 unfold ww;rw[List.getElem?_map,List.getElem?_range hi];simp[List.getD_eq_getElem?_getD,hx]
def a7(beh:List (List Int))(b:Nat):List Int:=beh.getD b []
theorem zK{beh:List (List Int)}{b:Nat}(h:b<beh.length):beh[b]? =some (a7 beh b):=by
 unfold a7;rw[List.getD_eq_getElem?_getD,List.getElem?_eq_getElem h];rfl
theorem Nm(beh:Nat->List Int)(w:Int)(k:Nat)(s:List Bool×List Int)(c:Int)(l:List Int):
 cV beh w k s (c::l)=cV beh w k (if wx s.1 c=false/\c≠w then du beh w k s c.toNat else s) l:=rfl
theorem E4{beh:Nat->List Int}{w:Int}:∀ (k:Nat),(∀ s b,(du beh w k s b).1.length=s.1.length/\(du beh w k s b).1.count false<=s.1.count false)/\
 (∀ l s,(cV beh w k s l).1.length=s.1.length/\(cV beh w k s l).1.count false<=s.1.count false):=by
 have key:∀ k,(∀ s b,(du beh w k s b).1.length=s.1.length/\(du beh w k s b).1.count false<=s.1.count false)->
  (∀ l s,(cV beh w k s l).1.length=s.1.length/\(cV beh w k s l).1.count false<=s.1.count false):=fun k h l=>by
  induction l with
  |nil=>exact fun s=>⟨rfl,Nat.le_refl _⟩
  |cons c l ih=>
   intro s;rw[Nm];split
   .obtain⟨a1,a2⟩:=ih (du beh w k s c.toNat);obtain⟨b1,b2⟩:=h s c.toNat;exact⟨a1.trans b1,Nat.le_trans a2 b2⟩
   .exact ih s
 intro k
 induction k with
 |zero=>exact⟨fun s b=>⟨rfl,Nat.le_refl _⟩,key 0 fun s b=>⟨rfl,Nat.le_refl _⟩⟩
 |succ k ih=>
  have h:∀ s b,(du beh w (k+1) s b).1.length=s.1.length/\(du beh w (k+1) s b).1.count false<=s.1.count false:=fun s b=>by
   rw[sN];obtain⟨a1,a2⟩:=ih.2 (beh b) (s.1.set b true,s.2);refine⟨a1.trans oS,Nat.le_trans a2 Hg⟩
  exact⟨h,key (k+1) h⟩
theorem adz{beh:Nat->List Int}{w:Int}{k:Nat}{s:List Bool×List Int}{b:Nat}:(du beh w (k+1) s b).2≠[]:=by
 rw[sN];simp
theorem alY{l c:List Int}{n k:Nat}(hl:l.length=n)(hc:c.length=n)(h:∀ p,p<n->c.getD p 0=if p<k\/n<=p+k then l.getD (n - 1 - p) 0 else l.getD p 0)(hk:n<=2*k+1):c=l.reverse:=by
 apply List.ext_getElem (by simp[hl,hc]);intro p h1 h2;rw[List.getElem_reverse];have hp:=h p oG;rw[show c.getD p 0=c[p] by simp[List.getD_eq_getElem?_getD,List.getElem?_eq_getElem h1]] at hp;rw[hp];have e:∀ (i j:Nat) (h:i=j) (hj:j<l.length),l.getD i 0=l[j]:=fun i j h hj=>by subst h;simp[List.getD_eq_getElem?_getD,List.getElem?_eq_getElem hj]
 split
 .exact e _ _ oG _
 .exact e _ _ oG _
theorem O0{beh:Nat->List Int}{w:Int}{n:Nat}(hb:∀ b,∀ c∈beh b,0<=c/\c.toNat<n):∀ (k:Nat),(∀ (s:List Bool×List Int) b,s.1.length=n->b<n->s.1.getD b false=false->(du beh w k s b).2.length+(du beh w k s b).1.count false<=s.2.length+s.1.count false)/\
 (∀ l,(∀ c∈l,0<=c/\c.toNat<n)->∀ s:List Bool×List Int,s.1.length=n->(cV beh w k s l).2.length+(cV beh w k s l).1.count false<=s.2.length+s.1.count false):=by
 have key:∀ k,(∀ (s:List Bool×List Int) b,s.1.length=n->b<n->s.1.getD b false=false->(du beh w k s b).2.length+(du beh w k s b).1.count false<=s.2.length+s.1.count false)->
  (∀ l,(∀ c∈l,0<=c/\c.toNat<n)->∀ s:List Bool×List Int,s.1.length=n->(cV beh w k s l).2.length+(cV beh w k s l).1.count false<=s.2.length+s.1.count false):=fun k h l=>by
  induction l with
  |nil=>exact fun _ s _=>Nat.le_refl _
  |cons c l ih=>
   intro hl s C;have hc:=hl c oS;rw[Nm];split
   .rename_i J;have a:=ih (fun c h=>hl c (by simp[h])) (du beh w k s c.toNat) (((E4 k).1 s c.toNat).1.trans C);have b:=h s c.toNat C hc.2 J.1;omega
   .exact ih (fun c h=>hl c (by simp[h])) s C
 intro k
 induction k with
 |zero=>exact⟨fun s b _ _ _=>Nat.le_refl _,key 0 fun s b _ _ _=>Nat.le_refl _⟩
 |succ k ih=>
  have h:∀ (s:List Bool×List Int) b,s.1.length=n->b<n->s.1.getD b false=false->(du beh w (k+1) s b).2.length+(du beh w (k+1) s b).1.count false<=s.2.length+s.1.count false:=fun s b C U M=>by
   rw[sN];have a:=ih.2 (beh b) (hb b) (s.1.set b true,s.2) (by simpa using C);have b:=sK (sL M oG);simp only[List.length_append,List.length_singleton] at a ⊢;omega
  exact⟨h,key (k+1) h⟩
end Go.Argus
namespace Go.Proofs.Tryz.K
set_option maxRecDepth 10000
section
variable{f:aF}{beh ahd:List (List Int)}{c:D}(hc:Tr c)(fF:c.one=true)
include hc fF
end
theorem alW{l:List bt}(hlen:l.length<=100000):SeqA prog 176 [] [.pt [gp l]] (ww l):=by
 refine IX mixed TJ (by rw[agh];rfl) fun L J Stop m nx hI U h0=>?_;rw[agi,agj];refine aw ?_;refine aP ?_
 refine ab (b8 (α:=Nat×Mem×Nat) (fun k=>⟨az [(0,.fn (.yield L) [] []),(1,.pt [gp l]),(3,I ((l.length:Int) - 1 - k.1))],k.2.1,k.2.2⟩)
  (fun k=>k.1<=l.length/\J k.1 k.2.1 k.2.2) (fun k=>l.length - k.1) (0,m,nx) (av ⟨rfl,rfl,congrArg (fun z:Int=>I z) (show(l.length:Int) - 1=(l.length:Int) - 1 - ((0:Nat):Int) by omega),trivial⟩) ⟨by omega,h0⟩ ?_)
 rintro⟨k,m,nx⟩ ⟨hk,C⟩;dsimp only at hk C ⊢;refine af ?_;refine ab ⟨_,rfl,fun h=>?_,fun h=>?_⟩
 .have ao:k<l.length:=by have h:(0:Int)<=(l.length:Int) - 1 - k:=by simpa using h
                         omega
  have hx:l[l.length - 1 - k]? =some l[l.length - 1 - k]:=List.getElem?_eq_getElem oG;generalize l[l.length - 1 - k]=x at hx;have hy:=ZV ao hx;have M:(l.length:Int) - 1 - k=((l.length - 1 - k:Nat):Int):=by omega
  rw[M];refine ws ?_;refine bD ?_;refine J8 rfl rfl (by repeat' (first|exact trivial|exact rfl|refine And.intro ?_ ?_)) ⟨rfl,k,hy,C,fun d m' nx' hp=>?_⟩;rcases hp with⟨rfl,hp⟩|⟨rfl,hp⟩
  .refine SS ?_;refine ab (aq rfl (fun h=>oH) fun h=>cg ?_);refine au ?_;exact ab (aJ (k+1,m',nx') (av ⟨rfl,rfl,congrArg (fun z:Int=>I z) (show((l.length - 1 - k:Nat):Int) - 1=(l.length:Int) - 1 - ((k+1:Nat):Int) by omega),trivial⟩) ⟨by simp only;omega,hp⟩ (by simp only;omega))
  .refine SS ?_;exact ab (aq rfl (fun h=>aV (cq (qf (.inr hp)))) fun h=>oH)
 .have X:¬ k<l.length:=by
   intro ao;simp at h;omega
  have:k=l.length:=by omega
  subst this;exact qg (.inl (by rw[ZU];exact C))
section
variable{f:aF}{beh ahd:List (List Int)}{c:D}(hc:Tr c)(fF:c.one=true)
include hc fF
theorem Gb{n:Nat}{w:Int}(hn:beh.length=n)(rX:∀ b,∀ t∈a7 beh b,0<=t/\t.toNat<n)(cI:∀ b,(a7 beh b).length<=100000){i5 i6 r:Nat}(X:i5≠i6)(DN:i5≠r)(W9:i6≠r):∀ (k:Nat) (m:Mem) (nx:Nat) (seen:List Bool) (o:List Int) (b:Nat),
 i5<nx->i6<nx->r<nx->m i5=some (.cells [.rs r 0 n] 52)->m i6=some (.cells [.fn (.func 168) [] [.rp i5 0,.pt [.pt (bN f beh ahd c)],.pt [I w],.rp i6 0]] 128)->m r=some (.cells (seen.map B) 4)->
 seen.length=n->b<n->seen.count false<=k->seen.getD b false=false->
 ACalls prog 168 [I b,.rp i5 0,.pt [.pt (bN f beh ahd c)],.pt [I w],.rp i6 0] m nx (fun d m' nx'=>d=.tup []/\nx'=nx/\m'=up m r (some (.cells ((du (a7 beh) w k (seen,o) b).1.map B) 4)))
 |0,m,nx,seen,o,b,h5,h6,hr,Lq,vo,yV,fq,hb,wM,vB=>by
  have _:=hc;have _:=fF;have:=sK (sL vB oG);omega
 |k+1,m,nx,seen,o,b,h5,h6,hr,Lq,vo,yV,fq,hb,wM,vB=>by
  have qN:=zK (beh:=beh) (b:=b) oG;have cS:=rX b;have ic:=cI b;have fL:=sK (sL vB oG);have IH:=Gb (w:=w) hn rX cI X DN W9 k;refine pX mixed TK (by rw[agk];rfl) ?_;rw[agl,agm];have aA:=Lq;have cW:=yV;rw[sN];generalize a7 beh b=l at qN cS ic;refine ws ?_;refine aP ?_;refine ab (aw ?_);refine aL ?_
  refine ab (dK (α:=Nat) (fun j=>⟨az [(1,.rp i5 0),(3,.pt [I w]),(4,.rp i6 0),(17,ax l),(18,I l.length),(19,I j)],up m r (some (.cells ((cV (a7 beh) w k (seen.set b true,o) (l.take j)).1.map B) 4)),nx⟩)
   (fun j=>j<=l.length) (fun j=>l.length - j) 0 (jC eH ?_) (Nat.zero_le _) ?_)
  .rw[List.take_zero];show up m r _=up m r (some (.cells ((seen.set b true).map B) 4));rw[List.map_set]
  intro j hj;obtain⟨cl,cc⟩:=(E4 (beh:=a7 beh) (w:=w) k).2 (l.take j) (seen.set b true,o)
  have bC:∀ t,l[j]? =some t->cV (a7 beh) w k (seen.set b true,o) (l.take (j+1))=if wx (cV (a7 beh) w k (seen.set b true,o) (l.take j)).1 t=false/\t≠w then du (a7 beh) w k (cV (a7 beh) w k (seen.set b true,o) (l.take j)) t.toNat else cV (a7 beh) w k (seen.set b true,o) (l.take j):=fun t ht=>by
   rw[List.take_add_one,ht];exact Bx (a7 beh) w k (seen.set b true,o) (l.take j) t
  have fB:j=l.length->cV (a7 beh) w k (seen.set b true,o) (l.take j)=cV (a7 beh) w k (seen.set b true,o) l:=fun e=>by rw[e,List.take_length]
  generalize cV (a7 beh) w k (seen.set b true,o) (l.take j)=s at cl cc bC fB;simp only[List.length_set] at cl cc;have aA:up m r (some (.cells (s.1.map B) 4)) i5=some (.cells [.rs r 0 n] 52):=ap DN Lq;have cW:up m r (some (.cells (s.1.map B) 4)) r=some (.cells (s.1.map B) 4):=up_same _ _ _;have ix:up m r (some (.cells (s.1.map B) 4)) i6=some (.cells [.fn (.func 168) [] [.rp i5 0,.pt [.pt (bN f beh ahd c)],.pt [I w],.rp i6 0]] 128):=ap W9 vo;have fO:∀ v,up (up m r (some (.cells (s.1.map B) 4))) r v=up m r v:=fun v=>lH _ _ _ _;generalize hM:up m r (some (.cells (s.1.map B) 4))=M at aA cW ix fO;refine SS ?_;refine ab ⟨_,rfl,fun h=>?_,fun h=>?_⟩
  .have ao:j<l.length:=by simpa using h
   have hx:l[j]? =some l[j]:=List.getElem?_eq_getElem ao;have jQ:=cS _ (List.getElem_mem ao);generalize l[j]=t at hx jQ;have J:=bC t hx;obtain⟨C,rfl⟩:=Int.eq_ofNat_of_zero_le jQ.1;have Lr:C<n:=jQ.2;have hv:s.1[C]? =some s.1[C]:=List.getElem?_eq_getElem oG;have uf:s.1.getD C false=s.1[C]:=by simp[List.getD_eq_getElem?_getD,hv]
   have zc:wx s.1 (C:Int)=s.1[C]:=uf;generalize s.1[C]=v at hv uf zc;have kd:=fu (f:=B) hv;refine ws ?_;refine au ?_;refine er ?_;refine bF ?_;refine af ?_;refine ab (aq rfl (fun hp=>?_) fun hp=>?_)
   .have U:v=false/\(C:Int)≠w:=by
     revert hp;cases v<;>simp
    have J:=J.trans (if_pos ⟨zc.trans U.1,U.2⟩);refine dz ?_;refine aH (iI rfl ix rfl V.h) ak (iJ V.h V.h rfl) ?_;refine SS ?_;refine m7 (IH M nx s.1 s.2 C h5 h6 hr aA ix cW (cl.trans fq) Lr oG (uf.trans U.1)) rfl (by repeat' (first|exact trivial|exact rfl|refine And.intro ?_ ?_)) fun d m' nx' hp=>?_;obtain⟨rfl,rfl,rfl⟩:=hp;refine ab ?_;refine af ?_;refine ab (aJ (j+1) (jC eH ?_) oG oG);rw[fO,J];rfl
   .have U:¬ (v=false/\(C:Int)≠w):=by
     revert hp;cases v<;>simp
    have J:=J.trans (if_neg fun hh=>U ⟨zc.symm.trans hh.1,hh.2⟩);refine cg ?_;refine af ?_;refine ab (aJ (j+1) (jC eH ?_) oG oG);rw[J];exact hM.symm
  .have aX:¬ j<l.length:=by simpa using h
   refine qg ⟨rfl,rfl,?_⟩;rw[<- fB oG];exact hM.symm
end
theorem k84{m:Mem}{nx i n:Nat}{l:List Int}(hi:i<nx)(hm:m i=some (.cells (l.map I) 3))(hl:l.length=n)(hn:n<=100000):
 ACalls prog 84 [.rs i 0 n] m nx (fun r m' nx'=>r=.tup []/\nx'=nx/\m'=up m i (some (.cells (l.reverse.map I) 3))):=by
 refine pX mixed Vw (by rw[alZ];rfl) ?_;rw[al0,al1]
 have xj:up m i (some (.cells (l.map I) 3))=m:=by
  funext j;simp only[up];split
  .rename_i e;rw[e,hm]
  .rfl
 have aA:=hm;refine aw ?_;refine aK ?_
 refine ab (b8 (α:=List Int×Nat) (fun s=>⟨az [(0,.rs i 0 n),(2,I s.2),(3,I ((n:Int) - 1 - s.2))],up m i (some (.cells (s.1.map I) 3)),nx⟩)
  (fun s=>s.1.length=n/\s.2<=n/\∀ p,p<n->s.1.getD p 0=if p<s.2\/n<=p+s.2 then l.getD (n - 1 - p) 0 else l.getD p 0) (fun s=>n - s.2) (l,0) (jC ⟨rfl,rfl,congrArg (fun z:Int=>I z) (show(n:Int) - 1=(n:Int) - 1 - ((0:Nat):Int) by omega),trivial⟩ xj.symm) ⟨hl,Nat.zero_le _,fun p hp=>by rw[if_neg (by simp only;omega)]⟩ ?_)
 rintro⟨d,k⟩ ⟨hd,hk,hinv⟩;dsimp only at hd hk hinv ⊢;have aA:up m i (some (.cells (d.map I) 3)) i=some (.cells (d.map I) 3):=up_same _ _ _;refine au ?_;refine ab ⟨_,rfl,fun h=>?_,fun h=>?_⟩
 .have ao:(k:Int)<(n:Int) - 1 - k:=by simpa using h
  obtain⟨j,hj⟩:∃ j:Nat,(n:Int) - 1 - k=j/\j=n - 1 - k:=⟨n - 1 - k,by omega,rfl⟩
  have ha:d[k]? =some d[k]:=List.getElem?_eq_getElem oG;have hb:d[j]? =some d[j]:=List.getElem?_eq_getElem oG;have J:d.getD k 0=d[k]:=by simp[List.getD_eq_getElem?_getD,ha]
  have M:d.getD j 0=d[j]:=by simp[List.getD_eq_getElem?_getD,hb]
  have kd:=fu (f:=I) hb;have C:=fu (f:=I) ha;generalize U:d[k]=a at ha J C;generalize X:d[j]=b at hb M kd;clear U X;rw[hj.1];refine nL abh ?_;refine aL ?_;refine af ?_;refine aH (iI rfl aA C V.h) ak (iJ V.h V.h C) ?_;refine SS ?_;refine b9 (eS (d:=.s (.int _ _)) (cs':=_) rfl rfl aA rfl rfl) ak (cP V.h V.h (by first|(simp;done)|exact⟨rfl,Nat.le_of_ble_eq_true rfl⟩|(simp;omega)) rfl) ?_;refine af ?_;refine bk (by simp[apartT]) ?_;refine bD ?_;refine ab (aJ ((d.set k b).set j a,k+1) (jC ⟨rfl,rfl,congrArg (fun z:Int=>I z) (show(j:Int) - 1=(n:Int) - 1 - ((k+1:Nat):Int) by omega),trivial⟩ ?_) ⟨by simp[hd],by simp only;omega,fun p hp=>?_⟩ (by simp only;omega))
  .rw[lH,lH];simp only[List.map_set]
  .simp only
   have e:((d.set k b).set j a).getD p 0=if p=j then a else if p=k then b else d.getD p 0:=by
    simp only[List.getD_eq_getElem?_getD,List.getElem?_set];by_cases e1:j=p
    .subst e1;simp[hd,hp]
    .rw[if_neg e1,if_neg (show ¬ p=j from fun e=>e1 e.symm)];by_cases e2:k=p
     .subst e2;simp[hd,hp]
     .rw[if_neg e2,if_neg (show ¬ p=k from fun e=>e2 e.symm)]
   rw[e];have h1:=hinv p hp;by_cases e1:p=j
   .subst e1;rw[if_pos rfl,if_pos oG];have:=hinv k oG;rw[if_neg oG,J] at this;rw[this,show n - 1 - p=k by omega]
   .rw[if_neg e1];by_cases e2:p=k
    .subst e2;rw[if_pos rfl,if_pos oG];have:=hinv j oG;rw[if_neg oG,M] at this;rw[this,show n - 1 - p=j by omega]
    .rw[if_neg e2,h1];by_cases e3:p<k\/n<=p+k
     .rw[if_pos e3,if_pos oG]
     .rw[if_neg e3,if_neg oG]
 .have aX:¬ (k:Int)<(n:Int) - 1 - k:=by simpa using h
  refine qg ⟨rfl,rfl,?_⟩;rw[alY hl hd hinv oG]
section
variable{f:aF}{beh ahd:List (List Int)}{c:D}(hc:Tr c)(fF:c.one=true)
include hc fF
theorem Gd{n:Nat}{w:Int}(hn:beh.length=n)(qD:f.blocks.length=n)(X:0<n)(jR:n<=100000)(rX:∀ b,∀ t∈a7 beh b,0<=t/\t.toNat<n)(U:∀ b,(a7 beh b).length<=100000):
 OCall prog 116 [.pt (bN f beh ahd c),I w] ((a8 (a7 beh) n w).map B) n 4:=by
 refine uu mixed TN (by rw[agC];rfl) (.cons (H9 hc) (.cons (.s _) .nil)) (.map fun _=>.s _) ?_;rw[agD,agE];refine aw ?_;refine fX (Fk (d:=.pt _) rfl rfl) ak rfl ?_;refine af ?_;refine ab (aO (bw [(0,[.pt (bN f beh ahd c)],79),(1,[I w],3)] eH (l:=[(2,.pt [.pt (bN f beh ahd c)]),(3,.pt [I w])]) eH) (aw ?_));have J:((f.blocks.length:Nat):Int).toNat=n:=qD;refine aL ?_;refine ab (aO (aE (l:=[(2,.pt [.pt (bN f beh ahd c)]),(3,.pt [I w]),(5,.rp 3 0)]) (ml:=[(2,.cells ((List.replicate n false).map B) 4),(3,.cells [.rs 2 0 n] 52)]) eH ⟨?_,?_,trivial⟩) (aC (aj ?_)))
 .exact congrArg (fun c=>some (Row.cells c 4)) ((congrArg (fun k=>replD k [B false]) J).trans (uB n false))
 .exact congrArg (fun k=>some (Row.cells [D.rs 2 0 k] 52)) J
 refine af ?_;refine ab (bh rfl (fun h=>?_) fun h=>bS (aj ?_))
 .have C:w=0:=by simpa using h
  refine aC (aw ?_);refine af ?_;refine ab (aO (.refl _) (cU (ay rfl ⟨2,rfl,?_⟩)));rw[a8,if_pos C];rfl
 .have C:¬ w=0:=by simpa using h
  refine SS ?_;refine er ?_;refine SS ?_;refine b9 (eS (d:=.fn _ _ _) (cs':=[_]) rfl rfl rfl rfl rfl) ak (cP V.h V.h (by first|(simp;done)|exact⟨rfl,Nat.le_of_ble_eq_true rfl⟩|(simp;omega)) rfl) ?_;refine ab (aw ?_);have Gb:=Gb (f:=f) (beh:=beh) (ahd:=ahd) (w:=w) hc fF hn rX U (i5:=3) (i6:=4) (r:=2) oC oC oC n;have hR:a8 (a7 beh) n w=(du (a7 beh) w n (List.replicate n false,[]) 0).1:=by rw[a8,if_neg C]
  have M:=(E4 (beh:=a7 beh) (w:=w) n).1 (List.replicate n false,[]) 0;rw[<- hR] at M;refine SS ?_;refine m7 (Gb _ _ (List.replicate n false) [] 0 oG oG oG rfl rfl rfl oS X oS (by rw[List.getD_eq_getElem?_getD,List.getElem?_replicate];split<;>rfl)) rfl (by repeat' (first|exact trivial|exact rfl|refine And.intro ?_ ?_)) fun d m' nx' hp=>?_;obtain⟨rfl,rfl,rfl⟩:=hp;rw[<- hR];generalize a8 (a7 beh) n w=R at M hR ⊢;refine ab (aO (aE (l:=[(5,.rp 3 0)]) (ml:=[(2,.cells (R.map B) 4),(3,.cells [.rs 2 0 n] 52)]) eH eH) (aw ?_));refine af ?_;exact ab (aO (.refl _) (ay rfl ⟨2,rfl,rfl⟩))
end
structure Ge(i3 i4 i5 r n:Nat)(fv:D)(m:Mem)(nx q:Nat)(s:List Bool×List Int):Prop where
 h3:i3<nx
 h4:i4<nx
 h5:i5<nx
 hr:r<nx
 m3:m i3=some (.cells [.rs r 0 n] 52)
 m5:m i5=some (.cells [fv] 128)
 mr:m r=some (.cells (s.1.map B) 4)
 m4:m i4=some (.cells [jc q (s.2.map I)] 27)
 mq:s.2≠[]->q<nx/\q≠i3/\q≠i4/\q≠i5/\q≠r/\m q=some (.cells (s.2.map I) 3)
section
variable{f:aF}{beh ahd:List (List Int)}{c:D}(hc:Tr c)(fF:c.one=true)
include hc fF
theorem CY{n:Nat}(hn:beh.length=n)(rX:∀ b,∀ t∈a7 beh b,0<=t/\t.toNat<n)(cI:∀ b,(a7 beh b).length<=100000){i3 i4 i5 r:Nat}(qJ:i3≠i4)(h35:i3≠i5)(Xa:i3≠r)(Ls:i4≠i5)(GP:i4≠r)(DN:i5≠r):
 ∀ (k:Nat) (m:Mem) (nx q:Nat) (C:List Bool×List Int) (b:Nat),
 Ge i3 i4 i5 r n (.fn (.func 149) [] [.rp i3 0,.pt [.pt (bN f beh ahd c)],.rp i5 0,.rp i4 0]) m nx q C->C.1.length=n->b<n->C.1.count false<=k->C.1.getD b false=false->C.2.length+C.1.count false<=100000->
 ACalls prog 149 [I b,.rp i3 0,.pt [.pt (bN f beh ahd c)],.rp i5 0,.rp i4 0] m nx (fun d m' nx'=>d=.tup []/\∃ q',Ge i3 i4 i5 r n (.fn (.func 149) [] [.rp i3 0,.pt [.pt (bN f beh ahd c)],.rp i5 0,.rp i4 0]) m' nx' q' (du (a7 beh) (-1) k C b))
 |0,m,nx,q,C,b,J,fq,hb,wM,vB,hlen=>by
  have _:=hc;have _:=fF;have:=sK (sL vB oG);omega
 |k+1,m,nx,q,C,b,J,fq,hb,wM,vB,hlen=>by
  have qN:=zK (beh:=beh) (b:=b) oG;have cS:=rX b;have ic:=cI b;have fL:=sK (sL vB oG);have IH:=CY hn rX cI qJ h35 Xa Ls GP DN k;have iC:=(O0 (w:= -1) rX k).2;refine pX mixed TO (by rw[agF];rfl) ?_;rw[agG,agH];have aA:=J.m3;have cW:=J.mr;have⟨p3,p4,p5,pr,_,_,_,_,pq⟩:=J;rw[sN];generalize a7 beh b=l at qN cS ic;refine ws ?_;refine aP ?_;refine ab (aC (aw ?_));refine aL ?_
  refine ab (bO (fun s=>∃ m nx q,Ghost prog s ⟨az [(0,I b),(4,.rp i4 0)],m,nx⟩/\Ge i3 i4 i5 r n (.fn (.func 149) [] [.rp i3 0,.pt [.pt (bN f beh ahd c)],.rp i5 0,.rp i4 0]) m nx q (cV (a7 beh) (-1) k (C.1.set b true,C.2) l)) (dK (α:=Nat×Nat×Mem×Nat)
   (fun j=>⟨az [(0,I b),(1,.rp i3 0),(3,.rp i5 0),(4,.rp i4 0),(17,ax l),(18,I l.length),(19,I j.1)],j.2.2.1,j.2.2.2⟩)
   (fun j=>j.1<=l.length/\Ge i3 i4 i5 r n (.fn (.func 149) [] [.rp i3 0,.pt [.pt (bN f beh ahd c)],.rp i5 0,.rp i4 0]) j.2.2.1 j.2.2.2 j.2.1 (cV (a7 beh) (-1) k (C.1.set b true,C.2) (l.take j.1))) (fun j=>l.length - j.1) (0,q,_,nx)
   (av eH) ⟨Nat.zero_le _,?_⟩ ?_) ?_)
  .dsimp only;refine⟨p3,p4,p5,pr,ap Xa J.m3,ap DN J.m5,?_,ap GP J.m4,fun h=>?_⟩
   .rw[List.take_zero];show up m r _ r=some (.cells ((C.1.set b true).map B) 4);rw[List.map_set];exact up_same _ _ _
   .obtain⟨a1,a2,a3,a4,a5,a6⟩:=pq h;exact⟨a1,a2,a3,a4,a5,ap a5 a6⟩
  .clear J aA cW p3 p4 p5 pr pq;rintro⟨j,q,m,nx⟩ ⟨hj,J⟩;dsimp only at hj J ⊢;obtain⟨cl,cc⟩:=(E4 (beh:=a7 beh) (w:= -1) k).2 (l.take j) (C.1.set b true,C.2);have X:=iC (l.take j) (fun c h=>cS c (List.mem_of_mem_take h)) (C.1.set b true,C.2) (by simpa using fq)
   have bC:∀ t,l[j]? =some t->cV (a7 beh) (-1) k (C.1.set b true,C.2) (l.take (j+1))=if wx (cV (a7 beh) (-1) k (C.1.set b true,C.2) (l.take j)).1 t=false/\t≠ -1 then du (a7 beh) (-1) k (cV (a7 beh) (-1) k (C.1.set b true,C.2) (l.take j)) t.toNat else cV (a7 beh) (-1) k (C.1.set b true,C.2) (l.take j):=fun t ht=>by
    rw[List.take_add_one,ht];exact Bx (a7 beh) (-1) k (C.1.set b true,C.2) (l.take j) t
   have fB:j=l.length->cV (a7 beh) (-1) k (C.1.set b true,C.2) (l.take j)=cV (a7 beh) (-1) k (C.1.set b true,C.2) l:=fun e=>by rw[e,List.take_length]
   generalize cV (a7 beh) (-1) k (C.1.set b true,C.2) (l.take j)=s at cl cc bC fB J X;simp only[List.length_set] at cl cc X;have aA:=J.m3;have cW:=J.mr;have ix:=J.m5;refine SS ?_;refine ab ⟨_,rfl,fun h=>?_,fun h=>?_⟩
   .have ao:j<l.length:=by simpa using h
    have hx:l[j]? =some l[j]:=List.getElem?_eq_getElem ao;have jQ:=cS _ (List.getElem_mem ao);generalize l[j]=t at hx jQ;have U:=bC t hx;obtain⟨M,rfl⟩:=Int.eq_ofNat_of_zero_le jQ.1;have Lr:M<n:=jQ.2;have hv:s.1[M]? =some s.1[M]:=List.getElem?_eq_getElem oG;have uf:s.1.getD M false=s.1[M]:=by simp[List.getD_eq_getElem?_getD,hv]
    have zc:wx s.1 (M:Int)=s.1[M]:=uf;generalize s.1[M]=v at hv uf zc;have kd:=fu (f:=B) hv;refine ws ?_;refine au ?_;refine er ?_;refine aK ?_;refine ab (aq rfl (fun hp=>?_) fun hp=>?_)
    .have ug:v=false:=by simpa using hp
     have U:=U.trans (if_pos ⟨zc.trans ug,by omega⟩);refine dz ?_;refine aH (iI rfl ix rfl V.h) ak (iJ V.h V.h rfl) ?_;refine SS ?_;refine m7 (IH m nx q s M J (cl.trans fq) Lr oG (uf.trans ug) oG) rfl (by repeat' (first|exact trivial|exact rfl|refine And.intro ?_ ?_)) fun d m' nx' hp=>?_;obtain⟨rfl,q',hp⟩:=hp;refine ab ?_;refine af ?_;refine ab (aJ (j+1,q',m',nx') (av eH) ⟨by dsimp only;omega,?_⟩ oM);dsimp only;rw[U];exact hp
    .have ug:v=true:=by simpa using hp
     have U:=U.trans (if_neg fun hh=>by rw[zc,ug] at hh;exact absurd hh.1 oS);refine cg ?_;refine af ?_;refine ab (aJ (j+1,q,m,nx) (av eH) ⟨by dsimp only;omega,?_⟩ oM);dsimp only;rw[U];exact J
   .have aX:¬ j<l.length:=by simpa using h
    rw[<- fB oG];exact⟨m,nx,q,av eH,J⟩
  .clear J aA cW p3 p4 p5 pr pq;rintro s ⟨m,nx,q,hg,J⟩;have X:=iC l cS (C.1.set b true,C.2) (by simpa using fq);generalize cV (a7 beh) (-1) k (C.1.set b true,C.2) l=u at J X ⊢;obtain⟨u1,u2⟩:=u;have⟨p3,p4,p5,pr,m3,m5,mr,m4,pq⟩:=J;dsimp only at mr m4 pq X ⊢;refine⟨_,hg,fe ?_⟩;by_cases hz:u2=[]
   .subst hz;have aA:m i4=some (.cells [.z] 27):=m4;refine aK ?_;refine ab (qg ⟨rfl,nx+1,?_⟩);dsimp only;refine⟨by omega,by omega,by omega,by omega,?_,?_,?_,?_,fun _=>⟨by omega,by omega,by omega,by omega,by omega,?_⟩⟩
    .exact ap qJ (ap oG (ap oG m3))
    .exact ap (Ne.symm Ls) (ap oG (ap oG m5))
    .exact ap (Ne.symm GP) (ap oG (ap oG mr))
    .exact(up_same _ _ _).trans rfl
    .exact ap oG ((up_same _ _ _).trans rfl)
   .have aB:u2.map I≠[]:=by simpa using hz
    obtain⟨q1,q2,q3,q4,q5,q6⟩:=pq hz;have aA:m i4=some (.cells [.rs q 0 u2.length] 27):=by rw[m4,lI aB,List.length_map]
    have cW:=q6;have sw:(u2.map I).length=u2.length:=by simp
    refine aK ?_;refine ab (qg ⟨rfl,nx+1,?_⟩);dsimp only;refine⟨by omega,by omega,by omega,by omega,?_,?_,?_,?_,fun _=>⟨by omega,by omega,by omega,by omega,by omega,?_⟩⟩
    .exact ap qJ (ap oG (ap (Ne.symm q2) (ap oG m3)))
    .exact ap (Ne.symm Ls) (ap oG (ap (Ne.symm q4) (ap oG m5)))
    .exact ap (Ne.symm GP) (ap oG (ap (Ne.symm q5) (ap oG mr)))
    .refine(up_same _ _ _).trans ?_;rw[List.map_append,lI oS];simp
    .refine ap oG ((up_same _ _ _).trans ?_);rw[List.map_append];rfl
theorem nD{n:Nat}(hn:beh.length=n)(qD:f.blocks.length=n)(lY:0<n)(jR:n<=100000)(rX:∀ b,∀ t∈a7 beh b,0<=t/\t.toNat<n)(cI:∀ b,(a7 beh b).length<=100000):
 OCall prog 85 [.pt (bN f beh ahd c)] ((bI (a7 beh) n).map I) (bI (a7 beh) n).length 3:=by
 refine uu mixed Vx (by rw[al2];rfl) (.cons (H9 hc) .nil) (.map fun _=>.s _) ?_;rw[al3,al4];refine aw ?_;refine fX (Fk (d:=.pt _) rfl rfl) ak rfl ?_;refine SS ?_;refine ab (aO (bw [(0,[.pt (bN f beh ahd c)],79)] eH (l:=[(1,.pt [.pt (bN f beh ahd c)])]) eH) (aw ?_));have cE:((f.blocks.length:Nat):Int).toNat=n:=qD;refine aL ?_;refine ab (aO (aE (l:=[(1,.pt [.pt (bN f beh ahd c)]),(3,.rp 2 0)]) (ml:=[(1,.cells ((List.replicate n false).map B) 4),(2,.cells [.rs 1 0 n] 52)]) eH ⟨?_,?_,trivial⟩) (aj ?_))
 .exact congrArg (fun c=>some (Row.cells c 4)) ((congrArg (fun k=>replD k [B false]) cE).trans (uB n false))
 .exact congrArg (fun k=>some (Row.cells [D.rs 1 0 k] 52)) cE
 refine SS ?_;refine er ?_;refine SS ?_;refine er ?_;refine SS ?_;refine b9 (eS (d:=.fn _ _ _) (cs':=[_]) rfl rfl rfl rfl rfl) ak (cP V.h V.h (by first|(simp;done)|exact⟨rfl,Nat.le_of_ble_eq_true rfl⟩|(simp;omega)) rfl) ?_;refine ab (aw ?_);have CY:=CY (f:=f) (beh:=beh) (ahd:=ahd) hc fF hn rX cI (i3:=2) (i4:=3) (i5:=4) (r:=1) oC oC oC oC oC oC n;have hz:(List.replicate n false).getD 0 false=false:=by rw[List.getD_eq_getElem?_getD,List.getElem?_replicate];split<;>rfl
 have X:=(O0 (w:= -1) rX n).1 (List.replicate n false,[]) 0 oS lY hz
 have C:(du (a7 beh) (-1) n (List.replicate n false,[]) 0).2≠[]:=by
  obtain⟨j,rfl⟩:∃ j,n=j+1:=⟨n - 1,by omega⟩
  exact adz
 have hR:bI (a7 beh) n=(du (a7 beh) (-1) n (List.replicate n false,[]) 0).2.reverse:=rfl;refine SS ?_;refine m7 (CY _ _ 0 (List.replicate n false,[]) 0 ⟨by decide,by decide,by decide,by decide,rfl,rfl,rfl,rfl,fun h=>absurd rfl h⟩ oS lY oS hz oP) rfl (by repeat' (first|exact trivial|exact rfl|refine And.intro ?_ ?_)) fun d m' nx' hp=>?_;obtain⟨rfl,J,U⟩:=hp;have m4:=U.m4;obtain⟨q1,q2,q3,q4,q5,M⟩:=U.mq C;rw[hR];clear U hR CY;generalize (du (a7 beh) (-1) n (List.replicate n false,[]) 0)=u at X C m4 M ⊢;obtain⟨u1,u2⟩:=u;dsimp only at X C m4 M ⊢;have wC:u2.map I≠[]:=by simpa using C
 have aA:m' 3=some (.cells [.rs J 0 u2.length] 27):=by rw[m4,lI wC,List.length_map]
 have cW:=M;have ic:u2.length<=100000:=by simp at X;omega
 refine ab (aO (av (l:=[(4,.rp 3 0)]) eH) (aj ?_));refine SS ?_;refine m7 (k84 q1 M rfl ic) rfl (by repeat' (first|exact trivial|exact rfl|refine And.intro ?_ ?_)) fun d m2 jx hp=>?_;obtain⟨rfl,rfl,rfl⟩:=hp;refine er ?_;have aA:up m' J (some (.cells (u2.reverse.map I) 3)) 3=some (.cells [.rs J 0 u2.length] 27):=ap (Ne.symm q3) aA;refine af ?_;refine ab (ay rfl ⟨J,?_,up_same _ _ _⟩);rw[List.length_reverse];rfl
end
end Go.Proofs.Tryz.K
namespace Go.Abs
section
variable{P:Program}{m:Mem}{nx:Nat}
theorem Ya{f:FuncId}{rds:List Nat}{args args' es:List D}{n:Nat}{t:TypeId}(ju:Sns P rds m args args')(hc:OCall P f args' es n t)(lU:∀ d∈es,d.scal=true):
 ACalls P f args m nx (fun d m' nx'=>d=.rs nx 0 n/\m'=up m nx (some (.cells es t))/\nx'=nx+1):=by
 refine⟨hc.1,fun F β w vs hm hβ hR=>?_⟩;have hn:=hβ nx (Nat.le_refl _)
 obtain⟨h1,h2⟩:=sns_R (P:=P) (F:=F) (β:=β) (w:=w) (fun i hi r hr=>by
  obtain⟨p,hp,aA⟩:=hm.row i r hr
  exact⟨p,hp,aA,fun b hb=>hm.nf i p b hp hb⟩) ju
 refine(hc.2.2 F w vs (fun b hb=>hm.fb b hb) ⟨by rw[hR.1,h1],fun k d v hd hv=>?_⟩).mono ?_
 .have ao:k<args.length:=by rw[h1];exact(List.getElem?_eq_some_iff.1 hd).1
  exact h2 k args[k] d (by simp[ao]) hd v (hR.2 k args[k] v (by simp[ao]) hv)
 rintro e w' ⟨v,p,he,Jf,C,aA,hv,hk⟩;have jv:=hm.kept hk
 have X:Step β w (up β nx (some p)) w':=by
  refine⟨hk.1,fun b hb hf=>⟨hk.2.1 b hb,fun i q hq=>?_⟩,fun i q hq=>.inl ?_,hk.2.2⟩
  .by_cases hi:i=nx
   .subst hi;rw[up_same] at hq;cases hq;intro e;have:=(C b e).1;omega
   .rw[up_ne _ _ hi] at hq;exact hf i q hq
  .rw[up_ne _ _ (fun e=>by rw[e,hn] at hq;cases hq)];exact hq
 have J:∀ i q b,up β nx (some p) i=some q->q.blk=some b->(i=nx/\q=p)\/(i≠nx/\β i=some q):=fun i q b hq _=>by
  by_cases hi:i=nx
  .subst hi;rw[up_same] at hq;cases hq;exact .inl ⟨rfl,rfl⟩
  .rw[up_ne _ _ hi] at hq;exact .inr ⟨hi,hq⟩
 have Jg:RowR P F (up β nx (some p)) w' (.cells es t) p:=by
  cases aA with
  |nil _=>exact .nil _
  |cells _ _ b o room sz c h1 h2 h3 h4 h5=>
   refine .cells es t b o room sz c h1 h2 h3 h4 fun k d hd=>?_;obtain⟨u,pv,pw,pz⟩:=h5 k d hd;exact⟨u,pv,scal_R (lU d (List.mem_of_getElem? hd)) pw,pz⟩
 refine⟨v,.rs nx 0 n,up m nx (some (.cells es t)),nx+1,up β nx (some p),he,⟨rfl,rfl,rfl⟩,?_,fun i hi=>by rw[up_ne _ _ oG];exact hβ i oG,?_,X,Nat.le_succ _,fun i hi hb=>by rw[up_ne _ _ oG];exact hb⟩
 .refine⟨fun i r hi=>?_,fun i j q U b hq gC e e'=>?_,fun i q b hq e=>?_,fun i q b hq e=>?_,jv.fb⟩
  .by_cases M:i=nx
   .subst M;rw[up_same] at hi;cases hi;exact⟨p,up_same _ _ _,Jg⟩
   .rw[up_ne _ _ M] at hi;obtain⟨q,hq,tU⟩:=hm.row i r hi;exact⟨q,by rw[up_ne _ _ M];exact hq,tU.step X fun b hb=>hk.2.1 b (hm.lt i q b hq hb)⟩
  .rcases J i q b hq e with⟨rfl,rfl⟩|⟨hi,h1⟩<;>rcases J j U b gC e' with⟨rfl,rfl⟩|⟨hj,h2⟩
   .rfl
   .have:=(C b e).1;have:=hm.lt j U b h2 e';omega
   .have:=(C b e').1;have:=hm.lt i q b h1 e;omega
   .exact hm.inj i j q U b h1 h2 e e'
  .rcases J i q b hq e with⟨_,rfl⟩|⟨_,h1⟩
   .exact(C b e).2
   .exact jv.lt i q b h1 e
  .rcases J i q b hq e with⟨_,rfl⟩|⟨_,h1⟩
   .intro hF;have:=hm.fb b hF;have:=(C b e).1;omega
   .exact hm.nf i q b h1 e
 .cases hv with
  |rsd _ _ _ _ h _=>rw[up_same] at h;cases h;exact absurd rfl Jf
  |rsn _ a h=>rw[up_same] at h;cases h;exact .rsn nx a (up_same _ _ _)
  |rsz _ _ a b o len room sz h=>rw[up_same] at h;cases h;exact .rsz nx 0 a b o len room sz (up_same _ _ _)
  |rs _ _ _ cap b o len room sz h h1 h2 h3 h4=>rw[up_same] at h;cases h;exact .rs nx 0 n cap b o len room sz (up_same _ _ _) h1 h2 h3 h4
end
section
variable{P:Program}{env:Env}{m:Mem}{nx:Nat}
theorem Om{f:FuncId}{args:List D}{ep:D->Mem->Nat->Prop}{i:Nat}{r:Row}(hm:m i=some r)(he:enterOk P f=true)(h:i<nx->ACalls P f args m nx ep):ACalls P f args m nx ep:=⟨he,fun F β w vs C J hR=>by
 refine(h ?_).2 F β w vs C J hR;rcases Nat.lt_or_ge i nx with g|g
 .exact g
 .obtain⟨p,hp,_⟩:=C.row i r hm
  rw[J i g] at hp;cases hp⟩
theorem TQ{Y:YSpec}{ops:Array Oper}{dr:Bool}{cf:List (Nat×Nat)}{Q:Exit->St->Prop}{rest:List Oper}{tr:Tra}{op:Op}{ty:TypeId}{pos:String}{after:Array Edge}{f:FuncId}{args:List D}{r:D}{ups:List (Nat×Option Row)}{rds:List Nat}{d:Option Nat}
 (h:∀ C J,(∀ i∈rds,m i≠none->C i=m i)->ACalls P f args C J fun r' m' nx'=>r'=r/\m'=upds C ups/\nx'=J) (M:∀ i∈ups.map (·.1),i∈rds/\m i≠none) (hc:callD (rho env op) op=some (f,args)) (ha:gJ env op.operands.toList)
 (K:AOps P Y ops dr cf Q rest (St.put ⟨env,upds m ups,nx⟩ d r) (tr++[(rds,ups.map (·.1))])):AOps P Y ops dr cf Q (⟨d,op,ty,pos,after,none⟩::rest) ⟨env,m,nx⟩ tr:=BN hc ha (.inr (.inr (.inr (.inr (.inl ⟨r,ups,rds,h,M,K⟩)))))
theorem ED{i:Nat}{cs:List D}{e:TypeId}{l:List (Nat×D)}(hm:m i=some (.cells cs e))(hl:lz l fun t=>sub (fz0 i cs (P.cellsOf e)) (env t)):
 Ghost P ⟨env,m,nx⟩ ⟨az l,fun j=>if j=i then none else(m j).map (Row.sub (fz0 i cs (P.cellsOf e))),nx⟩:=
 (Ghost.freeze env m nx i cs e hm).trans (Ghost.forget _ _ _ _ (oB hl))
theorem dx.fz{j n q sz:Nat}{e et:TypeId}{ρ:Nat->Nat}{L:Nat->List D}{cs:List D}(h:dx m nx j n e et ρ L)(J:∀ i,vd (L i))(hq:j≠q)(C:∀ i,i<n->L i≠[]->ρ i≠q):
 dx (fun p=>if p=q then none else(m p).map (Row.sub (fz0 q cs sz))) nx j n e et ρ L:=by
 refine⟨?_,h.nC,fun i hi hl=>?_,h.lt,h.ne,h.inj⟩
 .rw[if_neg hq,h.row];refine congrArg some (jf.cells (X:=fun p=>p=q) (fun d hd=>?_) q cs sz rfl);obtain⟨i,hi,rfl⟩:=List.mem_map.1 hd;by_cases hl:L i=[]
  .rw[hl];exact .z
  .rw[lI hl];exact .rs (C i (by simpa using hi) hl)
 .rw[if_neg (C i hi hl),h.n3 i hi hl];exact congrArg some (jf.F6 (X:=fun p=>p=q) (J i) q cs sz rfl)
end
end Go.Abs
namespace Go.Argus
open Go.Proofs.Tryz.K (nextR)
theorem EE{f:aF}{x:End}(h:jg f x=true):de x=cM x:=by
 unfold jg at h;rw[Bool.and_eq_true] at h;obtain⟨h,hb⟩:=h;have hb:=OY hb;obtain⟨kind,a,b,to,fm,name,ins,args,aI,cx⟩:=x;simp only[fC] at h hb;by_cases h1:kind=1
 .subst h1;simp only[Int.reduceEq,if_false,if_true] at hb;have J:aI=[]:=List.length_eq_zero_iff.1 hb.2.2.2.2.2.2.2;have C:cx= -1:=hb.2.2.2.2.2.1;subst J C;simp[de,eX,mJ,cT,cM,gD,aN]
 by_cases h2:kind=2
 .subst h2;simp only[Int.reduceEq,if_false,if_true] at hb;have J:aI=[]:=List.length_eq_zero_iff.1 hb.2.2.2.2.2.2.2;have C:cx= -1:=hb.2.2.2.2.2.1;subst J C;simp[de,eX,mJ,cT,cM,gD,aN]
 by_cases h3:kind=3
 .subst h3;simp only[Int.reduceEq,if_false,if_true] at hb;have J:aI=[]:=List.length_eq_zero_iff.1 hb.2.2.2.2.2.2.2;have C:cx= -1:=hb.2.2.2.2.2.1;subst J C;simp[de,eX,mJ,cT,cM,gD,aN]
 by_cases h4:kind=4
 .subst h4;simp only[Int.reduceEq,if_false,if_true] at hb;have J:aI=[]:=List.length_eq_zero_iff.1 hb.2.2.2.2.2.2.2;have C:cx= -1:=hb.2.2.2.2.2.1;subst J C;simp[de,eX,mJ,cT,cM,gD,aN]
 by_cases h5:kind=5
 .subst h5;by_cases C:0<=cx<;>simp[de,eX,mJ,cT,cM,gD,aN,C]
 by_cases M:kind=6
 .subst M;by_cases C:0<=cx<;>simp[de,eX,mJ,cT,cM,gD,aN,C]
 by_cases U:kind=7
 .subst U;simp only[Int.reduceEq,if_false,if_true] at hb;have J:aI=[]:=List.length_eq_zero_iff.1 hb.2.2.2.2.2.2.2;have C:cx= -1:=hb.2.2.2.2.2.1;subst J C;simp[de,eX,mJ,cT,cM,gD,aN]
 by_cases X:kind=8
 .subst X;by_cases C:0<=cx<;>simp[de,eX,mJ,cT,cM,gD,aN,C]
 by_cases h9:kind=9
 .subst h9;simp only[Int.reduceEq,if_false,if_true] at hb;have J:aI=[]:=List.length_eq_zero_iff.1 hb.2.2.2.2.2.2.2;have C:cx= -1:=hb.2.2.2.2.2.1;subst J C;simp[de,eX,mJ,cT,cM,gD,aN]
 .simp only[h1,h2,h3,h4,h5,M,U,X,h9,if_false] at h;cases h
theorem Yn{f:aF}(h:ik f=true):∀ x∈f.blocks,de x.fin=cM x.fin:=by
 unfold ik at h;simp only[Bool.and_eq_true] at h;obtain⟨J,M,_,C,hR⟩:=h;intro x hx;obtain⟨k,hk⟩:=List.getElem?_of_mem hx;have ao:k<f.blocks.length:=(List.getElem?_eq_some_iff.1 hk).1;have:=List.all_eq_true.1 C k (by simpa using ao);rw[jb,getD_some hk] at this;simp only[Bool.and_eq_true,Bool.not_eq_true',decide_eq_false_iff_not] at this;exact EE this.1
def cm(f:aF):List (List Int):=f.blocks.map fun x=>nextR x.fin
theorem vT{f:aF}{k:Nat}{x:bP}(h:f.blocks[k]? =some x):a7 (cm f) k=nextR x.fin:=by
 unfold a7 cm;simp[List.getD_eq_getElem?_getD,h]
theorem HG{f:aF}{k:Nat}(h:f.blocks.length<=k):a7 (cm f) k=[]:=by
 unfold a7 cm;rw[List.getD_eq_getElem?_getD,List.getElem?_eq_none (by simpa using h)];rfl
def gS(f:aF)(a b c:D):List D:=[S f.name,B f.iter,I f.args,U8 f.result,jX f.ag,jX f.aR,p7 f.signals,eZ f.blocks,a,b,c]
def iR(f:aF)(n k:Nat):List D:=(List.range n).map fun i=>if i<k then ax (a7 (cm f) i) else .z
@[simp] theorem aqC (f : aF) (n k : Nat) : (iR f n k).length = n := by simp [iR]
theorem abi{f:aF}{n k:Nat}{x:D}(hk:k<n):(iR f n k).set k x=(List.range n).map fun i=>if i=k then x else if i<k then ax (a7 (cm f) i) else .z:=by
 unfold iR;rw[Ez];exact List.map_congr_left fun i _=>rfl
def ye(f:aF):List D:=bN f (cm f) (cC f.blocks) (bq (a8 (a7 (cm f)) f.blocks.length (-1)))
end Go.Argus
namespace Go.Proofs.Tryz.K
set_option maxRecDepth 10000
theorem beh_in{f:aF}(h:lD f):∀ b,∀ t∈a7 (cm f) b,0<=t/\t.toNat<f.blocks.length:=fun b t ht=>by
 cases hx:f.blocks[b]? with
 |none=>rw[HG (List.getElem?_eq_none_iff.1 hx)] at ht;simp at ht
 |some x=>
  rw[vT hx] at ht;have:=(h.ends x (List.mem_of_getElem? hx)).to t (El.1 ht);omega
theorem IJ{f:aF}(h:lD f):∀ b,(a7 (cm f) b).length<=100000:=fun b=>by
 cases hx:f.blocks[b]? with
 |none=>rw[HG (List.getElem?_eq_none_iff.1 hx)];simp
 |some x=>
  rw[vT hx];have:=vP x.fin;have:=(h.ends x (List.mem_of_getElem? hx)).wh;omega
set_option maxHeartbeats 2000000 in
theorem Fq{f:aF}(bJ:cR f=0):PCall prog 51 [.agg (aG f)] (.tup [.pt (ye f),I 0]):=by
 have xu:=xu (f:=f);rw[bJ] at xu
 have hf:ik f=true:=by
  unfold cR at bJ;split at bJ
  .assumption
  .cases bJ
 have bB:=uG hf;have AZ:=Yn hf;obtain⟨n,hn⟩:∃ n,f.blocks.length=n:=⟨_,rfl⟩
 have jR:n<=1200:=hn▸bB.gO;have oi:∀ b,∀ t∈a7 (cm f) b,0<=t/\t.toNat<n:=hn▸beh_in bB;have cI:=IJ bB;refine a9 mixed Kq (by rw[Vy];rfl) (.cons (.agg (gn f)) .nil) (.tup (.cons (.pt (HE (.sl (.map fun _=>.s _)))) (.cons (.s _) .nil))) ?_;rw[Vz,VA];refine aw ?_;refine au ?_;refine ab (aO (bw [(0,aG f,26)] eH (l:=[(1,.pt (aG f))]) eH) (aC (aj ?_)));refine SS ?_;refine cl xu ?_;refine SS ?_;refine ab (aC (aj ?_));refine af ?_;refine ab (bh rfl (fun h=>oH) fun h=>bS (aj ?_));refine aP ?_;refine ab (qS abj ?_);refine c8 ?_;refine aH (mP (v:=.rp _ _) rfl) ak trivial ?_;have cE:((f.blocks.length:Nat):Int).toNat=n:=hn;refine bk (by simp[apartT]) (aO (aE (l:=[(1,.pt (aG f)),(6,.rp 3 0)]) (ml:=[(1,.cells (List.replicate n .z) 27),(2,.cells (List.replicate n .z) 27),(3,.cells (gS f (.rs 1 0 n) (.rs 2 0 n) .z) 89)]) eH ⟨?_,?_,?_,trivial⟩) (aC (aw ?_)))
 .exact congrArg (fun c=>some (Row.cells c 27)) ((congrArg (fun k=>replD k [D.z]) cE).trans (zP n))
 .exact congrArg (fun c=>some (Row.cells c 27)) ((congrArg (fun k=>replD k [D.z]) cE).trans (zP n))
 .exact congrArg (fun k=>some (Row.cells (gS f (.rs 1 0 k) (.rs 2 0 k) .z) 89)) cE
 refine aP ?_
 have qG:iR f n 0=List.replicate n D.z:=by
  unfold iR;simp only[Nat.not_lt_zero,if_false];rw[List.map_const',List.length_range]
 refine ab (bO (fun s=>∃ m nx ρ,Ghost prog s ⟨az [(6,.rp 3 0)],m,nx⟩/\4<=nx/\m 1=some (.cells (iR f n n) 27)/\m 3=some (.cells (gS f (.rs 1 0 n) (.rs 2 0 n) .z) 89)/\dx m nx 2 n 27 3 ρ (fun i=>(bA f.blocks n i).map I)/\(∀ i,i<n->(bA f.blocks n i).map I≠[]->ρ i≠1/\ρ i≠3)) (dK (α:=Nat×Mem×Nat)
  (fun k=>⟨az [(1,.pt (aG f)),(6,.rp 3 0),(28,eZ f.blocks),(29,I n),(30,I k.1)],k.2.1,k.2.2⟩)
  (fun k=>k.1<=n/\4<=k.2.2/\k.2.1 1=some (.cells (iR f n k.1) 27)/\k.2.1 3=some (.cells (gS f (.rs 1 0 n) (.rs 2 0 n) .z) 89)/\(∃ ρ,dx k.2.1 k.2.2 2 n 27 3 ρ (fun i=>(bA f.blocks k.1 i).map I)/\(∀ i,i<n->(bA f.blocks k.1 i).map I≠[]->ρ i≠1/\ρ i≠3))/\∀ i,(bA f.blocks k.1 i).length<=12*k.1) (fun k=>n - k.1)
  (0,aY [(1,.cells (List.replicate n .z) 27),(2,.cells (List.replicate n .z) 27),(3,.cells (gS f (.rs 1 0 n) (.rs 2 0 n) .z) 89)],4)
  (av ⟨rfl,rfl,rfl,congrArg (fun k:Nat=>I k) hn,rfl,trivial⟩) ⟨Nat.zero_le _,Nat.le_refl _,by rw[qG];rfl,rfl,⟨fun _=>0,EO (show 2<4 by decide) rfl,fun _ _ h=>absurd rfl h⟩,fun _=>Nat.le_refl _⟩ ?_) ?_)
 .rintro⟨k,m,nx⟩ ⟨hk,dM,m1,m3,⟨ρ,C,J⟩,hlen⟩;dsimp only at hk dM m1 m3 C J hlen ⊢;refine SS ?_;refine ab ⟨_,rfl,fun h=>?_,fun h=>?_⟩
  .have ao:k<n:=by simpa using h
   have hx:f.blocks[k]? =some f.blocks[k]:=List.getElem?_eq_getElem oG;have bQ:f.blocks[k]∈f.blocks:=List.getElem_mem _;generalize f.blocks[k]=x at hx bQ
   have bC:bA f.blocks (k+1)=(nextR x.fin).foldl (c6 k) (bA f.blocks k):=by
    rw[bA,List.range_succ,List.foldl_append];show oJ f.blocks _ k=_;rw[oJ,hx];rfl
   have iD:=vT hx;have cS:=oi k;have GJ:=(bB.ends x bQ).wh;have hle:=Bw x.fin;have zd:=AZ x bQ;have A5:=vP x.fin;have xf:nextR x.fin=eD (eN (de x.fin)):=by rw[zd];rfl
   have CX:=CX (x:=x.fin) oG;rw[iD] at cS;generalize bA f.blocks k=L0 at C hlen J bC;refine ws ?_;refine bD ?_;refine er ?_;refine SS ?_;refine aH (dU (vs:=bc _) rfl (up_same _ _ _) V.h V.h rfl) ak (dV V.h V.h (by first|(simp;done)|omega|exact Nat.le_of_ble_eq_true rfl)) ?_;refine uM CX rfl (by repeat' (first|exact trivial|exact rfl|refine And.intro ?_ ?_)) ?_;refine SS ?_;generalize de x.fin=d at hle xf CX;refine ab (aw ?_);refine SS ?_;refine m7 (DE (i:=nx+1) (l:=d) oG (up_same _ _ _) rfl oG) rfl (by repeat' (first|exact trivial|exact rfl|refine And.intro ?_ ?_)) fun r m' nx' hp=>?_;obtain⟨rfl,rfl,rfl⟩:=hp;have fq:(eN d).length=d.length:=HA d;have cH:(eD (eN d)).length=(nextR x.fin).length:=by rw[xf]
   refine ab (aO (jC (l:=[(1,.pt (aG f)),(6,.rp 3 0),(7,I k),(9,.rs (nx+1) 0 d.length),(28,eZ f.blocks),(29,I n),(30,I k)]) (m':=up (up m nx (some (.cells (eC x) 72))) (nx+1) (some (.cells ((eN d).map I) 3))) eH (by rw[lH,lH])) (qS ZX ?_));have aA:up (up m nx (some (.cells (eC x) 72))) (nx+1) (some (.cells ((eN d).map I) 3)) 3=some (.cells (gS f (.rs 1 0 n) (.rs 2 0 n) .z) 89):=ap oG (ap oG m3);have cW:up (up m nx (some (.cells (eC x) 72))) (nx+1) (some (.cells ((eN d).map I) 3)) 1=some (.cells (iR f n k) 27):=ap oG (ap oG m1);have ix:up (up m nx (some (.cells (eC x) 72))) (nx+1) (some (.cells ((eN d).map I) 3)) (nx+1)=some (.cells ((eN d).map I) 3):=up_same _ _ _;have uc:=C.lt;have C:=C.ext (m':=up (up m nx (some (.cells (eC x) 72))) (nx+1) (some (.cells ((eN d).map I) 3))) (nx':=nx+2) (fun q hq=>ap oG (ap oG rfl)) oG;generalize up (up m nx (some (.cells (eC x) 72))) (nx+1) (some (.cells ((eN d).map I) 3))=M at aA cW ix C;clear m1 m3;refine bD ?_;refine TQ (r:=.rs (nx+1) 0 (eD (eN d)).length) (ups:=[(nx+1,some (.cells (nV (eN d) d.length) 3))]) (rds:=[nx+1]) (fun m2 jx sd=>?_) ?_ rfl (by repeat' (first|exact trivial|exact rfl|refine And.intro ?_ ?_)) ?_
   .have e:=sd (nx+1) oS (by rw[ix];simp);rw[ix] at e;refine Om e F5.he fun yG=>(Kh yG e fq oG).mono ?_;rintro r m' nx' ⟨h1,h2,h3⟩;exact⟨h2,h3,h1⟩
   .intro i hi;simp at hi;subst hi;exact⟨by simp,by rw[ix];simp⟩
   have kz:nV (eN d) d.length=(nextR x.fin).map I++List.replicate (d.length - (nextR x.fin).length) (I 0):=by rw[nV,xf]
   show AOps _ _ _ _ _ _ _ ⟨up _ 46 _,up M (nx+1) (some (.cells (nV (eN d) d.length) 3)),_⟩ _;rw[<- xf,kz]
   have dw:(nextR x.fin).length<=d.length:=by
    rw[xf];have:(eD (eN d)).length<=(eN d).length:=IC _;omega
   clear kz cH xf ix;generalize nextR x.fin=l at cS A5 bC iD dw;refine aH (nM rfl rfl (ap oG cW) V.h V.h) ak ⟨V.h,by omega⟩ ?_;refine b9 (eS (d:=.rs _ _ _) (cs':=_) rfl rfl (ap oG cW) rfl rfl) ak (cP V.h V.h (by first|(simp;done)|exact⟨rfl,Nat.le_of_ble_eq_true rfl⟩|(simp;omega)) rfl) ?_;refine bk (by simp[apartT];omega) ?_;have e1:(iR f n k).set k (.rs (nx+1) 0 l.length)=(List.range n).map fun i=>if i=k then .rs (nx+1) 0 l.length else if i<k then ax (a7 (cm f) i) else .z:=abi ao
   rw[e1];refine aO (ED (i:=nx+1) (e:=3) (cs:=l.map I++List.replicate (d.length - l.length) (I 0)) (l:=[(1,.pt (aG f)),(6,.rp 3 0),(7,I k),(28,eZ f.blocks),(29,I n),(30,I k)]) (ap oG (up_same _ _ _)) ⟨rfl,uz oG,rfl,rfl,rfl,rfl,trivial⟩) (aw ?_)
   have N1:(fun j=>if j=nx+1 then none else(up (up M (nx+1) (some (.cells (l.map I++List.replicate (d.length - l.length) (I 0)) 3))) 1 (some (.cells ((List.range n).map fun i=>if i=k then .rs (nx+1) 0 l.length else if i<k then ax (a7 (cm f) i) else .z) 27)) j).map (Row.sub (fz0 (nx+1) (l.map I++List.replicate (d.length - l.length) (I 0)) (prog.cellsOf 3)))) 1=some (.cells (iR f n (k+1)) 27):=by
    dsimp only;rw[if_neg oG,up_same];show some (Row.cells (List.map _ (List.map _ _)) 27)=_;rw[List.map_map,iR];refine congrArg (fun c=>some (Row.cells c 27)) (List.map_congr_left fun i _=>?_);simp only[Function.comp_apply];by_cases uh:i=k
    .subst uh;rw[if_pos rfl,if_pos oG,iD,c3,yr];simp[ax]
    .rw[if_neg uh];by_cases h2:i<k
     .rw[if_pos h2,if_pos oG];rfl
     .rw[if_neg h2,if_neg oG];rfl
   have N3:(fun j=>if j=nx+1 then none else(up (up M (nx+1) (some (.cells (l.map I++List.replicate (d.length - l.length) (I 0)) 3))) 1 (some (.cells ((List.range n).map fun i=>if i=k then .rs (nx+1) 0 l.length else if i<k then ax (a7 (cm f) i) else .z) 27)) j).map (Row.sub (fz0 (nx+1) (l.map I++List.replicate (d.length - l.length) (I 0)) (prog.cellsOf 3)))) 3=some (.cells (gS f (.rs 1 0 n) (.rs 2 0 n) .z) 89):=by
    dsimp only;rw[if_neg oG,up_ne _ _ oG,up_ne _ _ oG,aA];refine congrArg some (jf.cells (X:=fun p=>p=nx+1) (fun d hd=>?_) _ _ _ rfl);simp only[gS,List.mem_cons,List.not_mem_nil,or_false] at hd;rcases hd with rfl|rfl|rfl|rfl|rfl|rfl|rfl|rfl|rfl|rfl|rfl
    .exact .s _
    .exact .s _
    .exact .s _
    .exact .s _
    .exact .sl _ _
    .exact .sl _ _
    .exact .sl _ _
    .exact .sl _ _
    .exact .rs oG
    .exact .rs oG
    .exact .z
   have NJ:dx (fun j=>if j=nx+1 then none else(up (up M (nx+1) (some (.cells (l.map I++List.replicate (d.length - l.length) (I 0)) 3))) 1 (some (.cells ((List.range n).map fun i=>if i=k then .rs (nx+1) 0 l.length else if i<k then ax (a7 (cm f) i) else .z) 27)) j).map (Row.sub (fz0 (nx+1) (l.map I++List.replicate (d.length - l.length) (I 0)) (prog.cellsOf 3)))) (nx+2) 2 n 27 3 ρ (fun i=>(L0 i).map I):=by
    refine dx.fz ⟨?_,C.nC,fun i hi hl=>?_,C.lt,C.ne,C.inj⟩ (fun _=>.map) oG fun i hi hl=>by have:=uc i hi hl;omega
    .exact ap oG (ap oG C.row)
    .have:=uc i hi hl;exact ap (J i hi hl).1 (ap oG (C.n3 i hi hl))
   clear aA cW C e1;generalize (fun j=>if j=nx+1 then none else(up (up M (nx+1) (some (.cells (l.map I++List.replicate (d.length - l.length) (I 0)) 3))) 1 (some (.cells ((List.range n).map fun i=>if i=k then .rs (nx+1) 0 l.length else if i<k then ax (a7 (cm f) i) else .z) 27)) j).map (Row.sub (fz0 (nx+1) (l.map I++List.replicate (d.length - l.length) (I 0)) (prog.cellsOf 3))))=m at N1 N3 NJ ⊢;have aA:=N3;have cW:=N1
   have kd:(iR f n (k+1)).drop k=ax l::(iR f n (k+1)).drop (k+1):=by
    rw[List.drop_eq_getElem_cons oP];congr 1;simp[iR,iD]
   refine aL ?_;have xx:l.length<=10:=by omega
   clear kd aA cW hx GJ zd hle A5 fq dw CX
   refine ab (dK (α:=Nat×Mem×Nat)
    (fun j=>⟨az [(1,.pt (aG f)),(6,.rp 3 0),(7,I k),(28,eZ f.blocks),(29,I n),(30,I k),(54,ax l),(55,I l.length),(56,I j.1)],j.2.1,j.2.2⟩)
    (fun j=>j.1<=l.length/\4<=j.2.2/\j.2.1 1=some (.cells (iR f n (k+1)) 27)/\j.2.1 3=some (.cells (gS f (.rs 1 0 n) (.rs 2 0 n) .z) 89)/\(∃ ρ,dx j.2.1 j.2.2 2 n 27 3 ρ (fun i=>((l.take j.1).foldl (c6 k) L0 i).map I)/\(∀ i,i<n->((l.take j.1).foldl (c6 k) L0 i).map I≠[]->ρ i≠1/\ρ i≠3))/\∀ i,((l.take j.1).foldl (c6 k) L0 i).length<=12*k+j.1) (fun j=>l.length - j.1) (0,m,nx+2)
    (av eH) ⟨Nat.zero_le _,by dsimp only;omega,N1,N3,⟨ρ,NJ,J⟩,hlen⟩ ?_)
   clear N1 N3 NJ hlen J uc dM;rintro⟨j,m,nx⟩ ⟨hj,dM,m1,m3,⟨ρ,C,J⟩,hlen⟩;dsimp only at hj dM m1 m3 C J hlen ⊢;have aA:=C.row;have cW:=m3;have ct:=C.nC;have dA:∀ t,l[j]? =some t->(l.take (j+1)).foldl (c6 k) L0=c6 k ((l.take j).foldl (c6 k) L0) t:=fun t ht=>iG ht;have jL:j=l.length->(l.take j).foldl (c6 k) L0=bA f.blocks (k+1):=fun e=>by rw[bC,List.take_of_length_le oG]
   generalize (l.take j).foldl (c6 k) L0=L at C J hlen aA dA jL;refine SS ?_;refine ab ⟨_,rfl,fun h=>?_,fun h=>?_⟩
   .have wK:j<l.length:=by simpa using h
    have xr:l[j]? =some l[j]:=List.getElem?_eq_getElem wK;have nB:=cS _ (List.getElem_mem wK);generalize l[j]=t at xr nB;obtain⟨i,rfl⟩:=Int.eq_ofNat_of_zero_le nB.1;have bd:i<n:=nB.2;have hL:=hlen i;have dA:(l.take (j+1)).foldl (c6 k) L0=up L i (L i++[(k:Int)]):=dA _ xr
    have nU:∀ i,((l.take (j+1)).foldl (c6 k) L0 i).length<=12*k+(j+1):=fun a=>by
     rw[dA];exact Eo (t:=(i:Int)) hlen a
    have sy:(fun a=>((l.take (j+1)).foldl (c6 k) L0 a).map I)=up (fun a=>(L a).map I) i ((L i++[(k:Int)]).map I):=by rw[dA];exact Fp
    obtain⟨cs,kd⟩:=BF (ρ:=ρ) (L:=fun i=>(L i).map I) bd
    have DO:∀ a,a<n->((l.take (j+1)).foldl (c6 k) L0 a).map I≠[]->up ρ i (nx+1) a≠1/\up ρ i (nx+1) a≠3:=fun a ha U=>by
     simp only[up];split
     .omega
     .rename_i ua;refine J a ha ?_;rw[dA,up_ne _ _ ua] at U;exact U
    refine ws ?_;refine au ?_;refine ab (nL ZY ?_);by_cases hz:L i=[]
    .have kA:jc (ρ i) ((L i).map I)=.z:=by rw[hz];rfl
     rw[kA] at kd;refine aL ?_;refine bF ?_;refine bk (by simp[apartT];omega) ?_;refine af ?_;refine ab (aJ (j+1,up (up (up m nx (some (.cells [I k] 3))) (nx+1) (some (.cells [I k] 3))) 2 (some (.cells ((gA ρ (fun i=>(L i).map I) n).set i (.rs (nx+1) 0 1)) 27)),nx+2) (av eH) ⟨by dsimp only;omega,by dsimp only;omega,?_,?_,⟨up ρ i (nx+1),?_,DO⟩,nU⟩ oM)
     .dsimp only;exact ap oG (ap oG (ap oG m1))
     .dsimp only;exact ap oG (ap oG (ap oG m3))
     dsimp only;rw[sy];refine C.iF bd oS oG oG ?_ ?_ (fun q hq oq _=>?_)
     .rw[hz];exact up_same _ _ _
     .rw[hz];exact ap oG (up_same _ _ _)
     .exact ap oG (ap oG (ap oG rfl))
    .have U:(L i).map I≠[]:=by simpa using hz
     have kA:jc (ρ i) ((L i).map I)=.rs (ρ i) 0 (L i).length:=by rw[lI U,List.length_map]
     rw[kA] at kd;have ix:=C.n3 i bd U;have uc:=C.lt i bd U;have hρ2:=C.ne i bd U;obtain⟨Ll,Xb⟩:=J i bd U;refine aL ?_;refine bF ?_;refine bk (by simp[apartT];omega) ?_;refine af ?_;refine ab (aJ (j+1,up (up (up (up m nx (some (.cells [I k] 3))) (ρ i) none) (nx+1) (some (.cells ((L i).map I++[I k]) 3))) 2 (some (.cells ((gA ρ (fun i=>(L i).map I) n).set i (.rs (nx+1) 0 ((L i).length+1))) 27)),nx+2) (av eH) ⟨by dsimp only;omega,by dsimp only;omega,?_,?_,⟨up ρ i (nx+1),?_,DO⟩,nU⟩ oM)
     .dsimp only;exact ap oG (ap oG (ap oG (ap oG m1)))
     .dsimp only;exact ap oG (ap oG (ap oG (ap oG m3)))
     dsimp only;rw[sy];refine C.iF bd oS oG oG ?_ ?_ (fun q hq oq lX=>?_)
     .rw[List.length_map,List.length_append];exact up_same _ _ _
     .rw[List.map_append];exact ap oG (up_same _ _ _)
     .have:=lX U;exact ap oG (ap oG (ap oG (ap oG rfl)))
   .have aX:¬ j<l.length:=by simpa using h
    have vl:=jL oG;subst vl;show AOps _ _ _ _ _ _ _ _ _;refine af ?_;refine ab (aJ (k+1,m,nx) (av eH) ⟨by dsimp only;omega,dM,m1,m3,⟨ρ,C,J⟩,fun i=>by have:=hlen i;dsimp only at this ⊢;omega⟩ oM)
  .have aX:¬ k<n:=by simpa using h
   have:k=n:=by omega
   subst this;exact⟨m,nx,ρ,av eH,dM,m1,m3,C,J⟩
 .rintro s ⟨m,nx,ρ,hg,dM,m1,m3,C,J⟩;have om:¬ ∃ i,i<n/\(bA f.blocks n i).map I≠[]/\ρ i=2:=fun⟨i,h1,h2,h3⟩=>C.ne i h1 h2 h3;have Xc:¬ ∃ i,i<n/\(bA f.blocks n i).map I≠[]/\ρ i=1:=fun⟨i,h1,h2,h3⟩=>(J i h1 h2).1 h3;have Xd:¬ ∃ i,i<n/\(bA f.blocks n i).map I≠[]/\ρ i=3:=fun⟨i,h1,h2,h3⟩=>(J i h1 h2).2 h3;have jy:=hg.trans (EB (l:=[(6,.rp 3 0)]) (ml:=[(1,.cells (iR f n n) 27),(3,.cells (gS f (.rs 1 0 n) (.rs 2 0 n) .z) 89)]) (fun r=>∃ i,i<n/\(bA f.blocks n i).map I≠[]/\ρ i=r) C (fun _=>.map) c3 (fun i h1 h2=>⟨i,h1,h2,rfl⟩) om ⟨rfl,trivial⟩ (fun x hx=>by simp at hx;subst hx;exact .rp Xd) ⟨m1,m3,trivial⟩ (fun x hx=>?_))
  rotate_left
  .simp only[List.mem_cons,List.not_mem_nil,or_false] at hx;rcases hx with rfl|rfl
   .refine⟨jf.cells fun d hd=>?_,Xc⟩;obtain⟨i,_,rfl⟩:=List.mem_map.1 hd;split
    .exact .sl _ _
    .exact .z
   .refine⟨jf.cells fun d hd=>?_,Xd⟩;simp only[gS,List.mem_cons,List.not_mem_nil,or_false] at hd;rcases hd with rfl|rfl|rfl|rfl|rfl|rfl|rfl|rfl|rfl|rfl|rfl
    .exact .s _
    .exact .s _
    .exact .s _
    .exact .s _
    .exact .sl _ _
    .exact .sl _ _
    .exact .sl _ _
    .exact .sl _ _
    .exact .rs Xc
    .exact .rs om
    .exact .z
  have Lt:iR f n n=(cm f).map ax:=by
   unfold iR cm;refine List.ext_getElem (by simp[hn]) fun i h1 h2=>?_;have hi:i<n:=by simpa using h1
   simp only[List.getElem_map,List.getElem_range,hi,if_true];exact congrArg ax (vT (List.getElem?_eq_getElem oG))
  have sC:=jy.trans (gQ (i:=1) (e:=27) (cs:=iR f n n) (l:=[(6,.rp 3 0)]) (ml:=[(2,.cells ((List.range n).map fun i=>.sl ((bA f.blocks n i).map I) ((bA f.blocks n i).map I).length) 27),(3,.cells (gS f (bp (cm f)) (.rs 2 0 n) .z) 89)]) rfl eH ⟨?_,?_,trivial⟩)
  rotate_left
  .refine vS oG rfl (jf.cells (X:=fun p=>p=1) (fun d hd=>?_) _ _ _ rfl);obtain⟨i,_,rfl⟩:=List.mem_map.1 hd;exact .sl _ _
  .show some (Row.cells (List.map _ (gS f (.rs 1 0 n) (.rs 2 0 n) .z)) 89)=_
   have e1:sub (fz0 1 (iR f n n) (prog.cellsOf 27)) (.rs 1 0 n)=bp (cm f):=by
    rw[iY (by rw[y6];simp),Lt,bp,show(cm f).length=n by simp[cm,hn]]
   have e2:sub (fz0 1 (iR f n n) (prog.cellsOf 27)) (.rs 2 0 n)=.rs 2 0 n:=zF oG;simp only[gS,List.map_cons,List.map_nil,e1,e2];rfl
  have Lu:=sC.trans (gQ (i:=2) (e:=27) (cs:=(List.range n).map fun i=>.sl ((bA f.blocks n i).map I) ((bA f.blocks n i).map I).length) (l:=[(6,.rp 3 0)]) (ml:=[(3,.cells (gS f (bp (cm f)) (bp (cC f.blocks)) .z) 89)]) rfl eH ⟨?_,trivial⟩)
  rotate_left
  .show some (Row.cells (List.map _ (gS f (bp (cm f)) (.rs 2 0 n) .z)) 89)=_
   have e1:sub (fz0 2 ((List.range n).map fun i=>.sl ((bA f.blocks n i).map I) ((bA f.blocks n i).map I).length) (prog.cellsOf 27)) (.rs 2 0 n)=bp (cC f.blocks):=by
    rw[iY (by rw[y6];simp),H6,cC,hn]
   simp only[gS,List.map_cons,List.map_nil,e1];rfl
  refine⟨_,Lu,aw ?_⟩;have Gd:=Gd (f:=f) (beh:=cm f) (ahd:=cC f.blocks) (c:=.z) (w:= -1) .z rfl (by simp[cm,hn]) hn (by have:=bB.pos;omega) oG oi cI;have pO:=mO (w:= -1) oi (by have:=bB.pos;omega);have iV:ye f=bN f (cm f) (cC f.blocks) (bq (a8 (a7 (cm f)) n (-1))):=by rw[ye,hn]
  rw[iV];generalize a8 (a7 (cm f)) n (-1)=R at Gd pO ⊢;refine af ?_;refine m7 (Ya (rds:=[3]) (args:=[.rp 3 0,I (-1)]) (args':=[.pt (bN f (cm f) (cC f.blocks) .z),I (-1)]) ⟨aek (cs:=bN f (cm f) (cC f.blocks) .z) rfl oS rfl (HE .z),cD (.s _),trivial⟩ Gd (fun d hd=>by obtain⟨x,_,rfl⟩:=List.mem_map.1 hd;rfl)) rfl (by repeat' (first|exact trivial|exact rfl|refine And.intro ?_ ?_)) fun d m' nx' hp=>?_;obtain⟨rfl,rfl,rfl⟩:=hp;have aA:up (aY [(3,.cells (gS f (bp (cm f)) (bp (cC f.blocks)) .z) 89)]) nx (some (.cells (R.map B) 4)) 3=some (.cells (gS f (bp (cm f)) (bp (cC f.blocks)) .z) 89):=ap oG rfl;refine af ?_;refine b9 (eS (d:=.rs _ _ _) (cs':=_) rfl rfl aA rfl rfl) ak (cP V.h V.h (by first|(simp;done)|exact⟨rfl,Nat.le_of_ble_eq_true rfl⟩|(simp;omega)) rfl) ?_;refine ab ?_
  have e0:(fun j=>if j=nx then none else(up (up (aY [(3,.cells (gS f (bp (cm f)) (bp (cC f.blocks)) .z) 89)]) nx (some (.cells (R.map B) 4))) 3 (some (.cells (gS f (bp (cm f)) (bp (cC f.blocks)) (.rs nx 0 n)) 89)) j).map (Row.sub (fz0 nx (R.map B) (prog.cellsOf 4)))) 3=some (.cells (gS f (bp (cm f)) (bp (cC f.blocks)) (bq R)) 89):=by
   dsimp only;rw[if_neg oG,up_same];show some (Row.cells (List.map _ (gS f (bp (cm f)) (bp (cC f.blocks)) (.rs nx 0 n))) 89)=_
   have e1:sub (fz0 nx (R.map B) (prog.cellsOf 4)) (.rs nx 0 n)=bq R:=by
    rw[iY (by rw[c4];simp[pO]),bq,pO]
   simp only[gS,List.map_cons,List.map_nil,e1];rfl
  refine⟨_,(ED (i:=nx) (e:=4) (cs:=R.map B) (l:=[(6,.rp 3 0)]) (ap oG (up_same _ _ _)) ⟨uz oG,trivial⟩).trans (sW (i:=3) (l:=[(6,.pt (bN f (cm f) (cC f.blocks) (bq R)))]) e0 ⟨m9,trivial⟩),aj ?_⟩;refine SS ?_;refine al5 ?_;refine SS ?_;exact ab (j6 rfl rfl rfl)
end Go.Proofs.Tryz.K
end
namespace Go.Argus
open Go Go.Abs
structure LG where
 beh:Nat->List Int
 blk:Nat->bP
 X6:Nat->Int->List Int
 X7:Nat->Int->Int
def Je(l:List Int):Prop:=∀ r∈l,0<=r/\r<1216
structure akr(y:bt):Prop where
 rd:Je (cr y)
 wr:cZ y<1216
structure al8(g:LG)(n:Nat):Prop where
 beh:∀ b,∀ c∈g.beh b,0<=c/\c.toNat<n
 ins:∀ b,∀ y∈(g.blk b).ins,akr y
 X6:∀ b,∀ c∈g.beh b,Je (g.X6 b c)
 X7:∀ b,∀ c∈g.beh b,g.X7 b c<1216
 red:∀ b,Je (cn (g.blk b).fin)
section
variable{g:LG}{n:Nat}
end
end Go.Argus
namespace Go.Argus
section
variable{g:LG}{n:Nat}{ord:List Int}
end
end Go.Argus
section
open Go Go.Abs Go.Proofs Go.Argus
namespace Go.Argus
def Gf(f:aF)(c:Nat):List Int:=bA f.blocks f.blocks.length c
def tJ(f:aF)(b:Nat):bP:=f.blocks.getD b jn
def lgR(f:aF):LG:=⟨a7 (cm f),tJ f,fun b c=>adx (Gf f c.toNat) b (tJ f c.toNat),fun b c=>EP (tJ f b).fin c⟩
theorem H'{f:aF}{b:Nat}{x:bP}(h:f.blocks[b]? =some x):tJ f b=x:=getD_some h
theorem No{f:aF}{b:Nat}(h:f.blocks.length<=b):tJ f b=jn:=by
 unfold tJ;rw[List.getD_eq_getElem?_getD,List.getElem?_eq_none h];rfl
theorem Rj{α:Type}{p:α->Bool}{y:α}:∀ {l:List α},y∈l.takeWhile p->p y=true
 |[],h=>by simp at h
 |a::l,h=>by
  rw[List.takeWhile_cons] at h;split at h
  .rename_i ha;rcases List.mem_cons.1 h with e|e
   .subst e;exact ha
   .exact Rj e
  .simp at h
theorem abk{x:bP}{y:bt}(h:y∈CF x):y.op=19:=by simpa[bT] using Rj h
theorem ZZ{x:bP}{y:bt}(h:y∈CF x):y∈x.ins:=(List.takeWhile_prefix bT).subset h
theorem lD.al6{f:aF}(h:lD f){b:Nat}{x:bP}(hx:f.blocks[b]? =some x){y:bt}(hy:y∈CF x):y.args.length=(Gf f b).length/\∀ r∈y.args,0<=r/\r<1200:=by
 obtain⟨j,hj⟩:=List.getElem?_of_mem (ZZ hy);obtain⟨h1,_,_,_,h2⟩:=(Hm h.ag h.aR.1 h.aR.2 (h.right b x hx j y hj)).2 (abk hy);refine⟨by unfold Gf;omega,fun r hr=>?_⟩;have:=(h2 r hr).2;unfold iy at this;have:=h.ag;omega
def al7(f:aF):List Int:=(bI (a7 (cm f)) f.blocks.length).reverse
end Go.Argus
namespace Go.Proofs.Tryz.K
set_option maxRecDepth 10000
theorem lg_ok{f:aF}(h:lD f):al8 (lgR f) f.blocks.length:=by
 have M:∀ b,∀ y∈(tJ f b).ins,oV y:=fun b y hy=>by
  cases hx:f.blocks[b]? with
  |none=>rw[No (List.getElem?_eq_none_iff.1 hx)] at hy;simp[jn] at hy
  |some x=>rw[H' hx] at hy;exact(h.blk x (List.mem_of_getElem? hx)).ins y hy
 have C:∀ b,b<f.blocks.length->Ak (tJ f b).fin:=fun b hb=>by
  rw[H' (List.getElem?_eq_getElem hb)];exact(h.ends _ (List.getElem_mem hb)).fin
 refine⟨beh_in h,fun b y hy=>?_,fun b c hc=>?_,fun b c hc=>?_,fun b=>?_⟩
 .have:=M b y hy;exact⟨fun r hr=>by have:=this.rd r hr;omega,by have:=this.wr;omega⟩
 .have J:=beh_in h b c hc;have hx:=List.getElem?_eq_getElem J.2;intro r hr;obtain⟨y,hy,rfl⟩:=List.mem_map.1 hr;rw[H' hx] at hy;obtain⟨e1,e2⟩:=h.al6 hx hy;rw[List.getD_eq_getElem?_getD];cases e:y.args[(qv (fun z=>(b:Int)==z) (Gf f c.toNat)).toNat]? with
  |none=>simp
  |some v=>
   have:=e2 v (List.mem_of_getElem? e);simp only[Option.getD_some];omega
 .show EP _ _<1216
  have hb:b<f.blocks.length:=by
   rcases Nat.lt_or_ge b f.blocks.length with g|g
   .exact g
   .have hc:c∈a7 (cm f) b:=hc;rw[HG g] at hc;simp at hc
  have:=(C b hb).wr;show EP (tJ f b).fin c<1216;unfold EP;split<;>omega
 .intro r hr;have hr:r∈cn (tJ f b).fin:=hr;rcases Nat.lt_or_ge b f.blocks.length with g|g
  .have:=(C b g).rd r hr;omega
  .rw[No g] at hr;simp[jn,cn,aN] at hr
theorem ord_in{f:aF}(h:lD f):∀ b∈al7 f,0<=b/\b.toNat<f.blocks.length:=fun b hb=>by
 have C:=h.pos;have hb:=(HH (beh_in h) C).1 (List.mem_reverse.1 hb);refine⟨hb.1,?_⟩;have hl:=mO (w:= -1) (beh_in h) C;rcases Nat.lt_or_ge b.toNat f.blocks.length with g|g
 .exact g
 .rw[List.getD_eq_getElem?_getD,List.getElem?_eq_none oG] at hb;simp at hb
theorem IK{f:aF}(C:cR f≠0):PCall prog 51 [.agg (aG f)] (.tup [.s (.pointer none),I (cR f)]):=by
 have xu:=xu (f:=f);generalize cR f=e at xu C;have gZ:(e !=0)=true:=by simpa using C
 refine a9 mixed Kq (by rw[Vy];rfl) (.cons (.agg (gn f)) .nil) (.tup (.cons (.s _) (.cons (.s _) .nil))) ?_;rw[Vz,VA];refine aw ?_;refine au ?_;refine ab (aO (bw [(0,aG f,26)] eH (l:=[(1,.pt (aG f))]) eH) (aC (aj ?_)));refine SS ?_;refine cl xu ?_;refine SS ?_;refine ab (aC (aj ?_));refine af ?_;refine ab (bh rfl (fun _=>?_) fun h=>oH);refine aC (aj ?_);refine au ?_;exact ab (cU (j6 rfl rfl rfl))
end Go.Proofs.Tryz.K
namespace Go.Abs
theorem agI{i j sz:Nat}{cs0 cs:List D}{e:TypeId}{m:Mem}(C:j≠i)(hm:m j=some (.cells cs e))(h:vd cs):(if j=i then none else(m j).map (Row.sub (fz0 i cs0 sz)))=some (.cells cs e):=
 vS C hm (jf.F6 (X:=fun p=>p=i) h i cs0 sz rfl)
section
variable{P:Program}{m:Mem}{nx:Nat}
end
end Go.Abs
namespace Go.Argus
def Rk(f:aF)(b r:Int):Prop:=acr f.blocks.length b=true/\0<=r/\r<f.ag.length
instance(f:aF)(b r:Int):Decidable (Rk f b r):=by unfold Rk;infer_instance
theorem hd9:∀ a b c d e f g h i:Bool,(if(if(if(if(if(if(if a=true then b else false)=true then true else c)=true then true else(if d=true then e else false))=true then true else f)=true then true else g)=true then true else h)=true then true else i)=((a&&b)||(c||((d&&e)||(f||(g||(h||i)))))):=by decide
theorem al9:∀ a b c d e:Bool,(if(if(if(if a=true then true else b)=true then true else c)=true then true else d)=true then true else e)=(a||(b||(c||(d||e)))):=by decide
def AE(l:List Int)(n:Int):Bool:=l.any fun y=>y==n
theorem On{l:List Int}{x:Int}:AE l x=true↔x∈l:=by simp[AE]
def AF(f:aF):Bool:=(decide (24<(f.blocks.length:Int))&&decide ((f.blocks.length:Int)<=1200))||(decide (1210<(f.blocks.length:Int))||((decide (14<(f.ag.length:Int))&&decide ((f.ag.length:Int)<=1200))||(decide (1210<(f.ag.length:Int))||(decide (130<(f.name.size:Int))||(decide (70<(f.aR.length:Int))||decide (10<(f.signals.length:Int)))))))
def rB(b:bP):Bool:=decide (12<(b.ins.length:Int))||(decide (8<(b.fin.aI.length:Int))||(decide (10<(b.fin.args.length:Int))||(decide (130<(b.fin.name.size:Int))||decide (10<(b.fin.ins.args.length:Int)))))
def rC(y:bt):Bool:=decide (26<(y.args.length:Int))
def po(f:aF):Bool:= !(AF f)&&(f.signals.all (fun s=> !(decide (20<(s.size:Int))))&&f.blocks.all (fun b=> !(rB b)&&b.ins.all fun y=> !(rC y)))
theorem acs{f:aF}(h:po f=true):f.blocks.length<=24\/1200<f.blocks.length:=by
 unfold po AF at h;simp only[Bool.and_eq_true,Bool.not_eq_true',Bool.or_eq_false_iff] at h;have h1:=h.1.1;by_cases h2:24<f.blocks.length
 .by_cases h3:f.blocks.length<=1200
  .simp at h1;omega
  .omega
 .omega
def allI(cnt:List Bool)(k:Nat):List Int:=((List.range k).filter fun i=>cnt.getD i false).map fun(i:Nat)=>(i:Int)
theorem By(cnt:List Bool)(k:Nat):allI cnt (k+1)=if cnt.getD k false=true then allI cnt k++[(k:Int)] else allI cnt k:=by
 unfold allI;rw[List.range_succ,List.filter_append,List.map_append];by_cases h:cnt.getD k false=true
 .rw[if_pos h,List.filter_cons_of_pos (by exact h)];rfl
 .rw[if_neg h,List.filter_cons_of_neg (by exact h),List.filter_nil,List.map_nil,List.append_nil]
theorem Oq(cnt:List Bool):∀ {k n:Nat},k<=n->∃ t,allI cnt n=allI cnt k++t
 |k,0,h=>by
  have:k=0:=by omega
  subst this;exact⟨[],by simp⟩
 |k,n+1,h=>by
  rcases Nat.lt_or_ge k (n+1) with g|g
  .obtain⟨t,ht⟩:=Oq cnt (k:=k) (n:=n) oG;rw[By];split
   .exact⟨t++[(n:Int)],by rw[ht,List.append_assoc]⟩
   .exact⟨t,ht⟩
  .have:k=n+1:=by omega
   subst this;exact⟨[],by simp⟩
theorem acu{cnt:List Bool}{k n:Nat}(hk:k<n)(hc:cnt.getD k false=true):(allI cnt n)[(allI cnt k).length]? =some (k:Int):=by
 obtain⟨t,ht⟩:=Oq cnt (k:=k+1) (n:=n) oG;rw[ht,By,if_pos hc,List.append_assoc,List.getElem?_append_right (Nat.le_refl _),Nat.sub_self];rfl
def C0(k a to fm:Int)(x:bt):End:=⟨k,a,0,to,fm,⟨#[]⟩,x,[],[], -1⟩
def tK:aF:=⟨⟨#[115,117,109]⟩,false,1,1,[1,1,1],[],[],[⟨[⟨1,1,0,0,0,[]⟩],C0 1 0 1 0 dt⟩,⟨[],C0 2 0 2 3 dt⟩,⟨[⟨1,2,0,0, -1,[]⟩],C0 5 0 4 0 ⟨30,1,1,0,0,[]⟩⟩,⟨[],C0 3 1 0 0 dt⟩,⟨[],C0 5 0 1 0 ⟨30,0,0,2,0,[]⟩⟩]⟩
def vf:List D:=bN tK [[1],[2,3],[4],[],[1]] [[],[0,4],[1],[1],[2]] (bq [true,true,true,true,true])
end Go.Argus
namespace Go.Proofs.Tryz.K
set_option maxRecDepth 10000
set_option maxHeartbeats 1000000 in
theorem DP{f:aF}:PCall prog 15 [.agg (aG f)] (B (po f)):=by
 have aW:∀ a∈[D.agg (aG f)],Tr a:=.cons (.agg (gn f)) .nil;refine a9 mixed VB (by rw[al'];rfl) aW (Tr.s _) ?_;rw[ama,amb];refine aw ?_;refine af ?_;refine ab (aO (bw [(0,aG f,26)] eH (l:=[(1,.pt (aG f))]) eH) (aC (aw ?_)));refine aL ?_;refine aL ?_;refine aL ?_;refine bF ?_;refine af ?_;refine bG rfl rfl (IW rfl) (fun hc=>⟨ak,V.h⟩) ?_;refine aL ?_;refine aK ?_;have hd:AF f=_:=(hd9 (decide (24<(f.blocks.length:Int))) (decide ((f.blocks.length:Int)<=1200)) (decide (1210<(f.blocks.length:Int))) (decide (14<(f.ag.length:Int))) (decide ((f.ag.length:Int)<=1200)) (decide (1210<(f.ag.length:Int))) (decide (130<(f.name.size:Int))) (decide (70<(f.aR.length:Int))) (decide (10<(f.signals.length:Int)))).symm;refine ab ⟨_,.refl _,bh rfl (fun h=>?_) fun h=>bS (aC (aw ?_))⟩
 .have h1:AF f=true:=hd.trans h;refine aC (aj ?_);refine SS ?_;refine ab (cU (ay (d:=B false) rfl ?_));rw[po,h1];rfl
 have h1:AF f=false:=hd.trans h;clear hd h
 have aqL:f.blocks.length<=100000/\f.signals.length<=100000:=by
  unfold AF at h1;simp only[Bool.or_eq_false_iff,decide_eq_false_iff_not] at h1;omega
 refine SS ?_
 refine ab (bO (fun s=>Ghost prog s ⟨az [(1,.pt (aG f))],fun _=>none,1⟩/\f.signals.all (fun s=> !(decide (20<(s.size:Int))))=true) (b8 (α:=Nat) (fun k=>⟨az [(1,.pt (aG f)),(3,I k)],fun _=>none,1⟩)
  (fun k=>k<=f.signals.length/\(f.signals.take k).all (fun s=> !(decide (20<(s.size:Int))))=true) (fun k=>f.signals.length - k) 0 (av eH) ⟨by omega,rfl⟩ ?_) ?_)
 .rintro k ⟨hk,hinv⟩;refine aK ?_;refine ab ⟨_,rfl,fun h=>?_,fun h=>?_⟩
  .have ao:k<f.signals.length:=by simpa using h
   have hx:f.signals[k]? =some f.signals[k]:=by simp[ao]
   have J:f.signals[k]∈f.signals:=List.getElem_mem _;generalize f.signals[k]=x at hx J;refine ws ?_;refine c8 ?_;refine ab (aq rfl (fun hp=>?_) fun hp=>?_)
   .refine ws ?_;refine SS ?_;refine ab (aV (cq (aT (ay (d:=B false) rfl ?_))))
    have:f.signals.all (fun s=> !(decide (20<(s.size:Int))))=false:=by
     refine Bool.eq_false_iff.2 fun ht=>?_;have:=List.all_eq_true.1 ht x J;rw[hp] at this;cases this
    rw[po,this];simp
   .refine cg ?_;refine au ?_;refine ab (aJ (k+1) (av eH) ⟨by omega,?_⟩ oG);rw[List.take_add_one,hx,List.all_append,hinv];show(true&&(!(decide (20<(x.size:Int)))&&true))=true;rw[hp];rfl
  .have U:¬ k<f.signals.length:=by simpa using h
   rw[List.take_of_length_le oG] at hinv;exact⟨av eH,hinv⟩
 rintro s ⟨hg,VC⟩;refine⟨_,hg,aC (aw ?_)⟩;refine SS ?_
 refine ab (bO (fun s=>(∃ nx,Ghost prog s ⟨az [],fun _=>none,nx⟩)/\f.blocks.all (fun b=> !(rB b)&&b.ins.all fun y=> !(rC y))=true) (b8 (α:=Nat×Nat) (fun k=>⟨az [(1,.pt (aG f)),(4,I k.1)],fun _=>none,k.2⟩)
  (fun k=>k.1<=f.blocks.length/\(f.blocks.take k.1).all (fun b=> !(rB b)&&b.ins.all fun y=> !(rC y))=true) (fun k=>f.blocks.length - k.1) (0,1) (av eH) ⟨Nat.zero_le _,rfl⟩ ?_) ?_)
 .rintro⟨k,nx⟩ ⟨hk,hinv⟩;dsimp only at hk hinv ⊢;refine aK ?_;refine ab ⟨_,rfl,fun h=>?_,fun h=>?_⟩
  .have ao:k<f.blocks.length:=by simpa using h
   have hx:f.blocks[k]? =some f.blocks[k]:=by simp[ao]
   have J:f.blocks[k]∈f.blocks:=List.getElem_mem _;generalize f.blocks[k]=x at hx J
   have C:(!(rB x)&&x.ins.all fun y=> !(rC y))=false->po f=false:=fun hb=>by
    have:f.blocks.all (fun b=> !(rB b)&&b.ins.all fun y=> !(rC y))=false:=by
     refine Bool.eq_false_iff.2 fun ht=>?_;have:=List.all_eq_true.1 ht x J;rw[hb] at this;cases this
    rw[po,this];simp
   refine aw ?_;refine c8 ?_;refine ab (aO (sW (i:=nx) (l:=[(1,.pt (aG f)),(4,I k),(5,.pt (eC x))]) (up_same _ _ _) ⟨rfl,rfl,m9,trivial⟩) (aC (aj ?_)));refine aL ?_;refine aL ?_;refine aP ?_;refine bG rfl rfl (IW rfl) (fun hc=>⟨ak,V.h⟩) ?_;refine bF ?_;refine af ?_;have hd:rB x=_:=(al9 (decide (12<(x.ins.length:Int))) (decide (8<(x.fin.aI.length:Int))) (decide (10<(x.fin.args.length:Int))) (decide (130<(x.fin.name.size:Int))) (decide (10<(x.fin.ins.args.length:Int)))).symm;refine ab (bh rfl (fun h=>?_) fun h=>bS (aw ?_))
   .have hb:rB x=true:=hd.trans h;refine aC (aj ?_);refine SS ?_;refine ab (cU (cq (aT (ay (d:=B false) rfl ?_))));rw[C (by rw[hb];rfl)]
   .have hb:rB x=false:=hd.trans h;clear hd h
    have hZ:x.ins.length<=100000:=by
     unfold rB at hb;simp only[Bool.or_eq_false_iff,decide_eq_false_iff_not] at hb;omega
    refine SS ?_
    refine ab (b8 (α:=Nat) (fun j=>⟨az [(1,.pt (aG f)),(4,I k),(5,.pt (eC x)),(6,I j)],fun _=>none,nx+1⟩)
     (fun j=>j<=x.ins.length/\(x.ins.take j).all (fun y=> !(rC y))=true) (fun j=>x.ins.length - j) 0 (av eH) ⟨Nat.zero_le _,rfl⟩ ?_)
    rintro j ⟨hj,M⟩;refine aK ?_;refine ab ⟨_,rfl,fun h=>?_,fun h=>?_⟩
    .have ct:j<x.ins.length:=by simpa using h
     have hy:x.ins[j]? =some x.ins[j]:=by simp[ct]
     have X:x.ins[j]∈x.ins:=List.getElem_mem _;generalize x.ins[j]=y at hy X;refine ws ?_;refine bF ?_;refine ab (aq rfl (fun hp=>?_) fun hp=>?_)
     .have hp:rC y=true:=hp;refine ws ?_;refine SS ?_;refine ab (aV (cq (cq (aT (ay (d:=B false) rfl ?_)))));rw[C]
      have:x.ins.all (fun y=> !(rC y))=false:=by
       refine Bool.eq_false_iff.2 fun ht=>?_;have:=List.all_eq_true.1 ht y X;rw[hp] at this;cases this
      rw[this];simp
     .have hp:rC y=false:=hp;refine cg ?_;refine au ?_;refine ab (aJ (j+1) (av eH) ⟨by omega,?_⟩ oG);rw[List.take_add_one,hy,List.all_append,M];show(true&&(!(rC y)&&true))=true;rw[hp];rfl
    .have U:¬ j<x.ins.length:=by simpa using h
     rw[List.take_of_length_le oG] at M;show AOps _ _ _ _ _ _ _ _ _;refine au ?_;refine ab (aJ (k+1,nx+1) (av eH) ⟨by dsimp only;omega,?_⟩ oM);dsimp only;rw[List.take_add_one,hx,List.all_append,hinv];show(true&&((!(rB x)&&x.ins.all fun y=> !(rC y))&&true))=true;rw[hb,M];rfl
  .have U:¬ k<f.blocks.length:=by simpa using h
   rw[List.take_of_length_le oG] at hinv;exact⟨⟨nx,av trivial⟩,hinv⟩
 rintro s ⟨⟨nx,hg⟩,br⟩;refine⟨_,hg,aj ?_⟩;refine SS ?_;refine ab (ay (d:=B true) rfl ?_);rw[po,h1,VC,br];rfl
theorem fP{f:aF}{beh ahd:List (List Int)}{cnt:List Bool}(hlen:cnt.length<=100000):SeqA prog 61 [.pt (bN f beh ahd (bq cnt))] [] ((allI cnt cnt.length).map fun n=>[I n]):=by
 refine IX mixed VD (by rw[amc];rfl) fun L U Stop m nx hI X h0=>?_;rw[amd,ame];refine aw ?_;refine bD ?_
 refine ab (dK (α:=Nat×Mem×Nat) (fun k=>⟨az [(1,.fn (.yield L) [] []),(9,bq cnt),(10,I cnt.length),(11,I k.1)],k.2.1,k.2.2⟩)
  (fun k=>k.1<=cnt.length/\U (allI cnt k.1).length k.2.1 k.2.2) (fun k=>cnt.length - k.1) (0,m,nx) (av eH) ⟨Nat.zero_le _,h0⟩ ?_)
 rintro⟨k,m,nx⟩ ⟨hk,J⟩;dsimp only at hk J ⊢;refine SS ?_;refine ab ⟨_,rfl,fun h=>?_,fun h=>?_⟩
 .have ao:k<cnt.length:=by simpa using h
  have hx:cnt[k]? =some cnt[k]:=List.getElem?_eq_getElem ao;have hg:cnt.getD k false=cnt[k]:=getD_some hx;have C:=By cnt k
  have M:cnt.getD k false=true->((allI cnt cnt.length).map fun n=>[I n])[(allI cnt k).length]? =some [I k]:=fun h=>by
   rw[List.getElem?_map,acu ao h];rfl
  rw[hg] at C M;generalize cnt[k]=c at hx C M;refine ws ?_;refine aK ?_;refine er ?_;cases c with
  |false=>
   refine af ?_;(iterate 4 refine z fun _ _=>?_);refine SS ?_;refine ab (aq rfl (fun h=>oH) fun _=>cg ?_);refine af ?_;refine ab (aJ (k+1,m,nx) (av eH) ⟨by dsimp only;omega,?_⟩ oM);dsimp only;rw[C];exact J
  |true=>
   refine aP ?_;refine FJ rfl rfl rfl rfl (by repeat' (first|exact trivial|exact rfl|refine And.intro ?_ ?_)) ⟨rfl,_,M rfl,J,fun d m' nx' hp=>?_⟩;rcases hp with⟨rfl,hp⟩|⟨rfl,hp⟩
   .refine af ?_;refine ab (aq rfl (fun h=>oH) fun _=>cg ?_);refine af ?_;refine ab (aJ (k+1,m',nx') (av eH) ⟨by dsimp only;omega,?_⟩ oM);dsimp only;rw[C,if_pos rfl,List.length_append];exact hp
   .refine af ?_;exact ab (aq rfl (fun _=>aV (cq (qf (.inr hp)))) fun h=>oH)
 .have aX:¬ k<cnt.length:=by simpa using h
  have:k=cnt.length:=by omega
  subst this;exact qg (.inl (by rw[List.length_map];exact J))
end Go.Proofs.Tryz.K
namespace Go.Abs
def GQ:Value->Value->Bool
 | .int k n,.int k' n'=>decide (k=k')&&decide (n=n')
 | .bool a,.bool b=>a==b
 | .string a,.string b=>decide (a=b)
 |_,_=>false
theorem Rn{a b:Value}(h:GQ a b=true):a=b:=by
 unfold GQ at h;split at h
 .rw[Bool.and_eq_true,decide_eq_true_eq,decide_eq_true_eq] at h;rw[h.1,h.2]
 .rw[show _=_ from eq_of_beq h]
 .rw[of_decide_eq_true h]
 .cases h
def kV(g:D->D->Bool):List D->List D->Bool
 |[],[]=>true
 |a::xs,b::bs=>g a b&&kV g xs bs
 |_,_=>false
def sD:Nat->D->D->Bool
 |0,_,_=>false
 |_+1,.s a,.s b=>GQ a b
 |_+1,.z,.z=>true
 |_+1,.sl [] 0,.z=>true
 |k+1,.agg a,.agg b=>kV (sD k) a b
 |k+1,.tup a,.tup b=>kV (sD k) a b
 |k+1,.sl a n,.sl b m=>Nat.beq n m&&kV (sD k) a b
 |k+1,.pt a,.pt b=>kV (sD k) a b
 |_+1,_,_=>false
theorem xN{g:D->D->Bool}:∀ {xs bs:List D},kV g xs bs=true->xs.length=bs.length/\∀ (k:Nat) a,xs[k]? =some a->∃ b,bs[k]? =some b/\g a b=true
 |[],[],_=>⟨rfl,fun k a h=>by simp at h⟩
 |a::xs,b::bs,h=>by
  simp only[kV,Bool.and_eq_true] at h;obtain⟨h1,h2⟩:=xN h.2;refine⟨by simp[h1],fun k x hx=>?_⟩;cases k with
  |zero=>simp at hx;subst hx;exact⟨b,rfl,h.1⟩
  |succ k=>exact h2 k x (by simpa using hx)
 |[],_::_,h=>by simp[kV] at h
 |_::_,[],h=>by simp[kV] at h
theorem Al{F:Nat->Prop}{β:Pla}{w:World}:∀ (k:Nat) {a b:D} {v:Value},sD k a b=true->R F β w b v->R F β w a v
 |0,a,b,v,h,_=>by simp[sD] at h
 |k+1,a,b,v,h,hv=>by
  unfold sD at h;split at h
  .cases h
  .rename_i e;rw[Rn h];exact hv
  .exact hv
  .obtain⟨x,rfl⟩:=hv.z_inv;exact .sln x 0
  .rename_i a b e;cases e;obtain⟨h1,h2⟩:=xN h;cases hv with
   |agg _ vs hl hh=>
    refine .agg _ vs oG fun j d u hd hu=>?_;obtain⟨C,hb,hg⟩:=h2 j d hd;exact Al k hg (hh j C u hb hu)
  .rename_i a b e;cases e;obtain⟨h1,h2⟩:=xN h;cases hv with
   |tup _ vs hl hh=>
    refine .tup _ vs oG fun j d u hd hu=>?_;obtain⟨C,hb,hg⟩:=h2 j d hd;exact Al k hg (hh j C u hb hu)
  .rename_i a n b m e;cases e;rw[Bool.and_eq_true] at h;have ze:n=m:=Nat.eq_of_beq_eq_true h.1;obtain⟨h1,h2⟩:=xN h.2;subst ze;cases hv with
   |sln a' cap=>
    have:a=[]:=List.length_eq_zero_iff.1 (by simpa using h1);subst this;exact .sln _ _
   |sl _ _ C o cap us J M U g4 g5 X g7=>
    refine .sl _ _ C o cap us J M U g4 g5 (fun j hj=>X j oG) fun j d hd=>?_;obtain⟨d',hb,hg⟩:=h2 j d hd;exact Al k hg (g7 j d' hb)
  .rename_i a b e;cases e;obtain⟨h1,h2⟩:=xN h;cases hv with
   |pt _ C o us J M U X g7=>
    refine .pt _ C o us J M U (fun j hj=>X j oG) fun j d hd=>?_;obtain⟨d',hb,hg⟩:=h2 j d hd;exact Al k hg (g7 j d' hb)
  .cases h
theorem Y5{P:Program}{f:FuncId}{args args':List D}{r:D}{k:Nat}(hc:PCall P f args' r)(h:kV (sD k) args' args=true)(ht:∀ a∈args,Tr a):PCall P f args r:=by
 obtain⟨h1,h2⟩:=xN h;refine⟨hc.1,ht,fun F w vs C hR=>hc.2.2 F w vs C ⟨by rw[hR.1,h1],fun j d v hd hv=>?_⟩⟩;obtain⟨b,hb,hg⟩:=h2 j d hd;exact Al k hg (hR.2 j b v hb hv)
theorem abl{P:Program}{f:FuncId}{fs C:List D}{xs:List (List D)}{k:Nat}(hc:SeqA P f C [] xs)(h:kV (sD k) C fs=true):SeqA P f fs [] xs:=by
 obtain⟨h1,h2⟩:=xN h;refine⟨hc.1,fun F l I Stop m nx β w vs J hS hm hn hR hy h0=>hc.2 F l I Stop m nx β w vs J hS hm hn ⟨?_,fun j d v hd hv=>?_⟩ hy h0⟩
 .have:=hR.1;simp only[List.length_append] at this ⊢;omega
 .rcases Nat.lt_or_ge j C.length with g|g
  .rw[List.append_nil,List.getElem?_append_left g] at hd;obtain⟨b,hb,hg⟩:=h2 j d hd;exact Al k hg (hR.2 j b v (by rw[List.append_nil,List.getElem?_append_left oG];exact hb) hv)
  .rw[List.append_nil,List.getElem?_append_right g] at hd;exact hR.2 j d v (by rw[List.append_nil,List.getElem?_append_right oG, <- h1];exact hd) hv
def Fs(t:List (FuncId×List D×D))(f:FuncId)(args:List D):Option D:=(t.find? fun x=>Nat.beq x.1 f&&(kV (sD 20) x.2.1 args&&args.all (pE depth))).map (·.2.2)
def FR(t:List (FuncId×List D×List (List D)))(f:FuncId)(fs cs:List D):Option (List (List D)):=match cs with
 |[]=>(t.find? fun x=>Nat.beq x.1 f&&kV (sD 20) x.2.1 fs).map (·.2.2)
 |_=>none
theorem Nq{P:Program}{t:List (FuncId×List D×D)}(h:∀ x∈t,PCall P x.1 x.2.1 x.2.2){f:FuncId}{args:List D}{r:D}(hr:Fs t f args=some r):PCall P f args r:=by
 unfold Fs at hr;rw[Option.map_eq_some_iff] at hr;obtain⟨x,hx,rfl⟩:=hr;have h1:=List.find?_some hx;rw[Bool.and_eq_true,Bool.and_eq_true] at h1;have hf:x.1=f:=Nat.eq_of_beq_eq_true h1.1;have:=h x (List.mem_of_find?_eq_some hx);rw[hf] at this;exact Y5 this h1.2.1 fun a ha=>qh (List.all_eq_true.1 h1.2.2 a ha)
theorem Oo{P:Program}{t:List (FuncId×List D×List (List D))}(h:∀ x∈t,SeqA P x.1 x.2.1 [] x.2.2/\∀ y∈x.2.2,∀ d∈y,Tr d){f:FuncId}{fs cs:List D}{xs:List (List D)}(hr:FR t f fs cs=some xs):SeqA P f fs cs xs/\∀ y∈xs,∀ d∈y,Tr d:=by
 unfold FR at hr;split at hr
 .rw[Option.map_eq_some_iff] at hr;obtain⟨x,hx,rfl⟩:=hr;have h1:=List.find?_some hx;rw[Bool.and_eq_true] at h1;have hf:x.1=f:=Nat.eq_of_beq_eq_true h1.1;have h2:=h x (List.mem_of_find?_eq_some hx);rw[hf] at h2;exact⟨abl h2.1 h1.2,h2.2⟩
 .cases hr
def Bd:Nat->D->D->Bool
 |0,_,_=>false
 |_+1,.s a,.s b=>GQ a b
 |_+1,.z,.z=>true
 |k+1,.sl a n,.sl b m=>Nat.beq n m&&kV (Bd k) a b
 |_+1,_,_=>false
theorem O1{g:D->D->Bool}(hg:∀ a b,g a b=true->a=b):∀ {xs bs:List D},kV g xs bs=true->xs=bs
 |[],[],_=>rfl
 |a::xs,b::bs,h=>by
  simp only[kV,Bool.and_eq_true] at h;rw[hg a b h.1,O1 hg h.2]
 |[],_::_,h=>by simp[kV] at h
 |_::_,[],h=>by simp[kV] at h
theorem adA:∀ (k:Nat) (a b:D),Bd k a b=true->a=b:=fun k=>by
 induction k with
 |zero=>exact fun a b h=>by simp[Bd] at h
 |succ k ih=>
  intro a b h;cases a<;>cases b<;>simp only[Bd,Bool.and_eq_true,reduceCtorEq,Bool.false_eq_true] at h ⊢
  .rw[Rn h]
  .rw[Nat.eq_of_beq_eq_true h.1,O1 ih h.2]
section
variable{P:Program}{env:Env}{m:Mem}{nx:Nat}{x y:Operand}{t p:TypeId}{n n':Int}
theorem I3(hx:(opd env x).core=.s (.int .i64 n))(hy:(opd env y).core=.s (.int .i64 n')){r:Int}(hd:n*n'=r/\ -9223372036854775808<=r/\r<=9223372036854775807):Ef P (.binOp .mul t x y p) env m nx ⟨IntKind.i64=IntKind.i64,.s (.int .i64 r),[],[],0⟩:=by
 obtain⟨rfl,h⟩:=hd;have:=ac9 (P:=P) (m:=m) (nx:=nx) (t:=t) (p:=p) hx hy
 rwa[i64_in _ h] at this
variable{Y:YSpec}{rf:Bool}{Q:Exit->St->Prop}{st:St}{id gm i1:Nat}{rc:Array Oper}{body:Code}{α:Type}{cf:List (Nat×Nat)}{u:Nat}
theorem abo[dG Y](hi:drawInfo rc=some cf)(S:α->St)(J:α->Prop)(μ:α->Nat)(C:α)(h0:st=S C)(U:J C)
 (h:∀ x,J x->AOps P Y rc true cf (fK fun s=>∃ g,opd s.env (.tmp u)=.s (.bool g)/\(g=true->AW P Y rf body (mv gm id (uL P S J μ x) Q) s)/\(g=false->Q .normal s)) rc.toList (S x) []):
 AW P Y rf (.block id (.loop (.seq (.seq (.region i1 rc true) (.cond (.tmp u) .skip (.exit id))) (.block gm body)))) Q st:=by
 refine OT (Q:=blockQ id Q) S J μ C h0 U fun x hx=>?_
 refine sZ _ (Q:=seqQ (uL P S J μ x) (blockQ id Q)) (fun e st' hq=>by
  cases e with
  |normal=>
   obtain⟨M,h1,h2,h3⟩:=hq;exact⟨S M,M,h1,rfl,h2,h3⟩
  |_=>exact hq) ?_
 refine aC (z7 (rf:=rf) (id:=i1) hi (AOps.kQ (h x hx) fun s X=>?_));obtain⟨g,h1,h2,h3⟩:=X;refine⟨s,.refl s,bh h1 (fun pF=>?_) fun vt=>?_⟩
 .exact bS (N9 (h2 pF))
 .refine kF ?_;simp only[seqQ,blockQ,if_true];exact h3 vt
end
end Go.Abs
namespace Go.Proofs.Tryz.K
set_option maxRecDepth 100000
theorem Nr:cR tK=0:=kr
theorem Z0:ye tK=vf:=kr
end Go.Proofs.Tryz.K
namespace Go.Argus
def TT(n:Int):List Int:=n::List.replicate 18 0
def TU:D:=.sl (cy ([1,3,3,2,7].map TT)) 5
def Rp:D:=.sl (cy ([3,3,7,2,7].map TT)) 5
def Cr:List (List D):=[[I 0],[I 1],[I 2],[I 3],[I 4]]
def VE:List (List bt):=[[],[⟨1,1,0,0,0,[]⟩],[⟨1,2,0,0, -1,[]⟩]]
def Kr(f:FuncId)(fs cs:List D):Option (List (List D)):=match FR [(61,[.pt vf],Cr)] f fs cs with
 |some x=>some x
 |none=>match fs,cs with
  |[],[.pt [e]]=>if Nat.beq f 176 then(VE.find? fun l=>Bd 10 (gp l) e).map ww else none
  |_,_=>none
end Go.Argus
namespace Go.Proofs.Tryz.K
set_option maxRecDepth 100000
theorem TV:PCall prog 51 [.agg (aG tK)] (.tup [.pt vf,I 0]):=by
 have h:=Fq Nr;rw[Z0] at h;exact h
theorem TW:SeqA prog 61 [.pt vf] [] Cr:=fP (f:=tK) (cnt:=[true,true,true,true,true]) oC
theorem abm{l:List bt}{y:List D}{d:D}(hy:y∈ww l)(hd:d∈y):Tr d:=by
 unfold ww at hy;rw[List.mem_map] at hy;obtain⟨i,_,rfl⟩:=hy;simp only[List.mem_cons,List.not_mem_nil,or_false] at hd;rcases hd with rfl|rfl
 .exact .s _
 .exact .agg (p8 _)
theorem acv{f:FuncId}{fs cs:List D}{xs:List (List D)}(h:Kr f fs cs=some xs):SeqA prog f fs cs xs/\∀ y∈xs,∀ d∈y,Tr d:=by
 unfold Kr at h;split at h
 .rename_i x hx;cases h
  exact Oo (fun x hx=>by
   simp only[List.mem_singleton] at hx;subst hx;refine⟨TW,fun y hy d hd=>?_⟩;simp only[Cr,List.mem_cons,List.not_mem_nil,or_false] at hy
   rcases hy with rfl|rfl|rfl|rfl|rfl<;>(simp only[List.mem_singleton] at hd;subst hd;exact .s _)) hx
 .rename_i hn;clear hn;split at h
  .rename_i e;split at h
   .rename_i hf;rw[Option.map_eq_some_iff] at h;obtain⟨l,hl,rfl⟩:=h;have hm:=List.mem_of_find?_eq_some hl;have he:=adA 10 _ _ (List.find?_some (p:=fun l=>Bd 10 (gp l) e) hl);subst he;have hf:f=176:=Nat.eq_of_beq_eq_true hf;subst hf
    have hlen:l.length<=100000:=by
     simp only[VE,List.mem_cons,List.not_mem_nil,or_false] at hm;rcases hm with rfl|rfl|rfl<;>decide
    refine⟨alW hlen,fun y hy d hd=>?_⟩;exact abm hy hd
   .cases h
  .cases h
noncomputable def cx1:Ctx:=⟨fun f=>CQ.get f,Kr,Fs [(51,[.agg (aG tK)],.tup [.pt vf,I 0])]⟩
theorem adB:cx1.Ok prog:=⟨mixed,I1,fun _ _ _ _ h=>acv h,
 fun _ _ _ h=>Nq (fun x hx=>by
  simp only[List.mem_singleton] at hx;subst hx
  exact TV) h⟩
theorem agQ:PCall prog 65 [.pt vf] (.tup [TU,Rp]):=jW adB 1000 rfl kr
end Go.Proofs.Tryz.K
end
namespace Go.Argus
inductive bE(N:Nat->Nat):Nat->Nat->Prop
 |refl (x:Nat):bE N x x
 |up {w x:Nat}:bE N w (N x)->bE N w x
structure j9(V:Nat->Prop)(pl N:Nat->Nat):Prop where
 root:V 0
 kC:N 0=0
 aM:∀ x,V x->x≠0->V (N x)/\pl (N x)<pl x
theorem bE.trans{N:Nat->Nat}{w z x:Nat}(h1:bE N w z)(h2:bE N z x):bE N w x:=by
 induction h2 with
 |refl=>exact h1
 |up _ ih=>exact .up ih
theorem bE.inv{N:Nat->Nat}{w x:Nat}(h:bE N w x):w=x\/bE N w (N x):=by
 cases h with
 |refl=>exact .inl rfl
 |up h=>exact .inr h
theorem bE.zero{N:Nat->Nat}(h0:N 0=0){w x:Nat}(h:bE N w x)(hx:x=0):w=0:=by
 induction h with
 |refl=>exact hx
 |up _ ih=>exact ih (by rw[hx,h0])
section
variable{V:Nat->Prop}{pl N O:Nat->Nat}
theorem j9.ind(h:j9 V pl N){p:Nat->Prop}(h0:p 0)(J:∀ x,V x->x≠0->V (N x)->pl (N x)<pl x->p (N x)->p x):∀ x,V x->p x:=by
 have key:∀ k x,pl x<k->V x->p x:=fun k=>by
  induction k with
  |zero=>exact fun x hx=>absurd hx (Nat.not_lt_zero _)
  |succ k ih=>
   intro x hx hv;by_cases C:x=0
   .rw[C];exact h0
   .obtain⟨a,b⟩:=h.aM x hv C;exact J x hv C a b (ih _ oG a)
 exact fun x hv=>key (pl x+1) x (Nat.lt_succ_self _) hv
theorem j9.low(h:j9 V pl N){w x:Nat}(hv:V x)(ha:bE N w x):V w/\(w=x\/pl w<pl x):=by
 induction ha with
 |refl=>exact⟨hv,.inl rfl⟩
 |@up x ha ih=>
  by_cases C:x=0
  .subst C;rw[h.kC] at ih;exact ih hv
  .obtain⟨a,b⟩:=h.aM x hv C;obtain⟨c,d⟩:=ih a;refine⟨c,.inr ?_⟩;rcases d with d|d
   .rw[d];exact b
   .omega
theorem shrink(J:j9 V pl O)(C:N 0=0)(rel:∀ x,V x->bE N (N x) (O x)):∀ x,V x->∀ w,bE N w x->bE O w x:=
 J.ind (fun w h=>by rw[h.zero C rfl];exact .refl 0) fun x hv _ _ _ ih w h=>by
  rcases h.inv with e|h
  .rw[e];exact .refl x
  .exact .up (ih w (h.trans (rel x hv)))
theorem akn(C:j9 V pl O)(X:N 0=0)(rel:∀ x,V x->bE N (N x) (O x)):∀ t,V t->∀ z w,bE O z t->bE O w z->bE N w t->bE N w z:=
 C.ind (fun z w h1 _ h3=>by rw[h1.zero C.kC rfl];exact h3) fun t hv hz hp hl ih z w h1 h2 h3=>by
  rcases h1.inv with e|J
  .rw[e];exact h3
  .rcases h3.inv with e|M
   .obtain⟨U,a⟩:=C.low hv h1;obtain⟨_,b⟩:=C.low U h2;rcases a with a|a
    .rw[a];exact h3
    .rcases b with b|b
     .rw[<- b];exact .refl w
     .rw[e] at b;omega
   .exact ih z w J h2 (M.trans (rel t hv))
theorem ako(C:j9 V pl O):∀ x,V x->∀ w,bE O w x->¬ bE N w x->∃ c,V c/\bE O c x/\bE O w c/\N c≠O c/\¬ bE N w c:=
 C.ind (fun w h1 h2=>by
  rw[h1.zero C.kC rfl] at h2
  exact absurd (bE.refl 0) h2) fun x hv M hp _ ih w h1 h2=>by
  by_cases e:N x=O x
  .rcases h1.inv with e'|J
   .rw[e'] at h2;exact absurd (bE.refl x) h2
   .obtain⟨c,a1,a2,a3,a4,a5⟩:=ih w J fun h=>h2 (.up (by rw[e];exact h));exact⟨c,a1,.up a2,a3,a4,a5⟩
  .exact⟨x,hv,.refl x,h1,e,h2⟩
def iF(N:Nat->Nat)(c q x:Nat):Nat:=if x=c then q else N x
theorem rI(c q:Nat):iF N c q c=q:=if_pos rfl
theorem nS{c x:Nat}(q:Nat)(h:x≠c):iF N c q x=N x:=if_neg h
theorem abN(h:j9 V pl N){c q:Nat}(J:c≠0)(C:V q)(hl:pl q<pl c):j9 V pl (iF N c q):=⟨h.root,by rw[nS q oG];exact h.kC,fun x hv hx=>by
 by_cases e:x=c
 .subst e;rw[rI];exact⟨C,hl⟩
 .rw[nS q e];exact h.aM x hv hx⟩
theorem IP(h:j9 V pl N){c q:Nat}(C:c≠0):∀ x,V x->pl x<pl c->∀ w,(bE (iF N c q) w x↔bE N w x):=
 h.ind (fun _ w=>⟨fun h'=>by rw[h'.zero (by rw[nS q oG];exact h.kC) rfl];exact .refl 0,fun h'=>by rw[h'.zero h.kC rfl];exact .refl 0⟩) fun x hv _ _ hl ih hx w=>by
  have e:iF N c q x=N x:=nS q fun e=>by rw[e] at hx;omega
  have ih:=ih oG w;constructor
  .intro h';rcases h'.inv with e'|h'
   .rw[e'];exact .refl x
   .rw[e] at h';exact .up (ih.1 h')
  .intro h';rcases h'.inv with e'|h'
   .rw[e'];exact .refl x
   .exact .up (by rw[e];exact ih.2 h')
theorem acQ(h:j9 V pl N){c q:Nat}(J:V c)(C:c≠0)(hq:bE N q (N c)):∀ x,V x->bE (iF N c q) (iF N c q x) (N x):=fun x hv=>by
 by_cases e:x=c
 .subst e;rw[rI];obtain⟨a,b⟩:=h.aM x J C;exact(IP h C (N x) a b q).2 hq
 .rw[nS q e];exact .refl _
def tS(pl N:Nat->Nat):Nat->Nat->Nat->Nat
 |0,x,_=>x
 |k+1,x,a=>if x=a then x else if pl a<pl x then tS pl N k (N x) a else tS pl N k x (N a)
theorem Ih(h:j9 V pl N)(h0:pl 0=0)(inj:∀ x a,V x->V a->pl x=pl a->x=a):∀ (k x a:Nat),V x->V a->pl x+pl a<k->
 V (tS pl N k x a)/\bE N (tS pl N k x a) x/\bE N (tS pl N k x a) a/\∀ w,bE N w x->bE N w a->bE N w (tS pl N k x a)
 |0,x,a,_,_,hk=>absurd hk (Nat.not_lt_zero _)
 |k+1,x,a,vx,va,hk=>by
  rw[tS];split
  .rename_i e;subst e;exact⟨vx,.refl x,.refl x,fun w h _=>h⟩
  .rename_i e;split
   .rename_i hl;have X:x≠0:=fun e=>by rw[e,h0] at hl;omega
    obtain⟨p1,p2⟩:=h.aM x vx X;obtain⟨q1,q2,q3,q4⟩:=Ih h h0 inj k (N x) a p1 va oG;refine⟨q1,.up q2,q3,fun w C J=>?_⟩;rcases C.inv with e'|M
    .obtain⟨_,b⟩:=h.low va J;rcases b with b|b
     .exact absurd (e'.symm.trans b) e
     .rw[e'] at b;omega
    .exact q4 w M J
   .rename_i hl;have aB:pl x≠pl a:=fun e'=>e (inj x a vx va e');have X:a≠0:=fun e=>by rw[e,h0] at aB hl;omega
    obtain⟨p1,p2⟩:=h.aM a va X;obtain⟨q1,q2,q3,q4⟩:=Ih h h0 inj k x (N a) vx p1 oG;refine⟨q1,q2,.up q3,fun w C J=>?_⟩;rcases J.inv with e'|U
    .obtain⟨_,b⟩:=h.low vx C;rcases b with b|b
     .exact absurd (b.symm.trans e') e
     .rw[e'] at b;omega
    .exact q4 w C U
end
structure xJ(E:Nat->Nat->Prop)(R:Nat->Prop)(pl:Nat->Nat):Prop where
 root:R 0
 next:∀ a c,E a c->R a->R c
 inj:∀ x a,R x->R a->pl x=pl a->x=a
 oz:pl 0=0
 pre:∀ c,c≠0->R c->∃ t,E t c/\R t/\pl t<pl c
inductive Av(E:Nat->Nat->Prop)(w:Nat):Nat->Prop
 |zero:0≠w->Av E w 0
 |step {x c:Nat}:Av E w x->E x c->c≠w->Av E w c
section
variable{E:Nat->Nat->Prop}{R:Nat->Prop}{pl:Nat->Nat}
theorem Av.reach(hg:xJ E R pl){w x:Nat}(h:Av E w x):R x:=by
 induction h with
 |zero=>exact hg.root
 |step _ e _ ih=>exact hg.next _ _ e ih
structure tT(E:Nat->Nat->Prop)(R:Nat->Prop)(pl O:Nat->Nat):Prop where
 tree:j9 R pl O
 i1:∀ c,R c->c≠0->∀ w,(∀ a,E a c->R a->bE O w a)->bE O w (O c)
 i2:∀ c,R c->c≠0->∃ t,E t c/\R t/\pl t<pl c/\bE O (O c) t
 i3:∀ x,R x->∀ w,¬ Av E w x->bE O w x
structure yQ(E:Nat->Nat->Prop)(R:Nat->Prop)(pl O N:Nat->Nat)(k:Nat):Prop where
 mG:tT E R pl O
 tree:j9 R pl N
 rel:∀ x,R x->bE N (N x) (O x)
 DV:∀ x,R x->k<=pl x->N x=O x
 m3:∀ c,R c->c≠0->pl c<k->∀ w,(∀ a,E a c->R a->bE N w a)->bE N w (N c)
 m4:∀ c,R c->c≠0->pl c<k->∃ t,E t c/\R t/\pl t<pl c/\bE N (N c) t
 m5:∀ x,R x->pl x<k->∀ w,¬ Av E w x->bE N w x
theorem tT.start(hg:xJ E R pl){O:Nat->Nat}(h:tT E R pl O):yQ E R pl O O 1:=⟨h,h.tree,fun x _=>.refl _,fun _ _ _=>rfl,fun c rc C hl=>absurd (hg.inj c 0 rc hg.root (by rw[hg.oz];omega)) C,
 fun c rc C hl=>absurd (hg.inj c 0 rc hg.root (by rw[hg.oz];omega)) C,fun x M _ w J=>h.i3 x M w J⟩
theorem yQ.fin{O N:Nat->Nat}{k:Nat}(h:yQ E R pl O N k)(hk:∀ x,R x->pl x<k):tT E R pl N:=⟨h.tree,fun c rc C=>h.m3 c rc C (hk c rc),fun c rc C=>h.m4 c rc C (hk c rc),fun x J=>h.m5 x J (hk x J)⟩
theorem tT.down{O:Nat->Nat}(h:tT E R pl O)(hg:xJ E R pl){c w:Nat}(hc:Av E w c)(C:pl w<pl c):∀ k x,pl x<k->R x->bE O c x->Av E w x
 |0,x,hk,_,_=>absurd hk (Nat.not_lt_zero _)
 |k+1,x,hk,rx,ha=>by
  rcases ha.inv with e|M
  .rw[<- e];exact hc
  .by_cases J:x=0
   .subst J;rw[<- ha.zero h.tree.kC rfl];exact hc
   .obtain⟨t,e1,e2,e3,e4⟩:=h.i2 x rx J;refine .step (h.down hg hc C k t oG e2 (M.trans e4)) e1 fun e=>?_;obtain⟨_,b⟩:=h.tree.low rx ha;rw[e] at b;rcases b with b|b
    .rw[b] at C;omega
    .omega
theorem yQ.step(hg:xJ E R pl){O N:Nat->Nat}{k c q:Nat}(h:yQ E R pl O N k)(rc:R c)(hz:c≠0)(hk:pl c=k)(rq:R q)
 (hq:∀ a,E a c->R a->bE N q a) (hm:∀ w,(∀ a,E a c->R a->bE N w a)->bE N w q):
 bE N q (N c)/\yQ E R pl O (iF N c q) (k+1):=by
 have U:=h.mG;have e:=h.DV c rc oG;have sh:=shrink U.tree h.tree.kC h.rel
 have up:bE N q (N c):=by
  rw[e];obtain⟨t,e1,e2,_,e4⟩:=U.i2 c rc hz;exact akn U.tree h.tree.kC h.rel t e2 (O c) q e4 (U.i1 c rc hz q fun a X M=>sh a M q (hq a X M)) (hq t e1 e2)
 obtain⟨p1,p2⟩:=h.tree.aM c rc hz;obtain⟨_,q2⟩:=h.tree.low p1 up
 have ql:pl q<pl c:=by
  rcases q2 with q2|q2
  .rw[q2];exact p2
  .omega
 have tr:=abN h.tree hz rq ql;have rl:=acQ h.tree rc hz up;have XU:=shrink h.tree tr.kC rl;have nt:=fun x C hl w=>IP (q:=q) h.tree hz x C hl w;have CB:∀ w,bE (iF N c q) w q↔bE N w q:=fun w=>nt q rq ql w;refine⟨up,U,tr,fun x C=>?_,fun x C hx=>?_,fun x C xz hx w hw=>?_,fun x C xz hx=>?_,fun x C hx w hw=>?_⟩
 .by_cases J:x=c
  .subst J;have:=rl x C
   rwa[e] at this
  .rw[nS q J];rcases Nat.lt_or_ge (pl x) (pl c) with g|g
   .by_cases xz:x=0
    .subst xz;rw[U.tree.kC,h.tree.kC];exact .refl 0
    .obtain⟨o1,o2⟩:=U.tree.aM x C xz;exact(nt (O x) o1 oG _).2 (h.rel x C)
   .rw[h.DV x C oG];exact .refl _
 .rw[nS q fun e'=>by rw[e'] at hx;omega];exact h.DV x C oG
 .by_cases J:x=c
  .subst J;rw[rI,CB];exact hm w fun a X M=>XU a M w (hw a X M)
  .have qQ:pl x<k:=by
    rcases Nat.lt_or_ge (pl x) k with g|g
    .exact g
    .exact absurd (hg.inj x c C rc oG) J
   obtain⟨o1,o2⟩:=h.tree.aM x C xz;rw[nS q J,nt (N x) o1 oG];exact h.m3 x C xz qQ w fun a X M=>XU a M w (hw a X M)
 .by_cases J:x=c
  .subst J;obtain⟨t,e1,e2,e3⟩:=hg.pre x hz rc;refine⟨t,e1,e2,e3,?_⟩;rw[rI,nt t e2 e3];exact hq t e1 e2
  .have qQ:pl x<k:=by
    rcases Nat.lt_or_ge (pl x) k with g|g
    .exact g
    .exact absurd (hg.inj x c C rc oG) J
   obtain⟨t,e1,e2,e3,e4⟩:=h.m4 x C xz qQ;refine⟨t,e1,e2,e3,?_⟩;rw[nS q J,nt t e2 oG];exact e4
 .by_cases J:x=c
  .subst J;by_cases ew:w=x
   .subst ew;exact .refl w
   .refine .up ?_;rw[rI,CB];refine hm w fun a X M=>?_;have XV:¬ Av E w a:=fun ha=>hw (.step ha X fun e=>ew e.symm);by_cases XW:bE N w a
    .exact XW
    .exfalso;obtain⟨d,d1,d2,d3,d4,d5⟩:=ako (N:=N) U.tree a M w (U.i3 a M w XV) XW
     have hdk:pl d<k:=by
      rcases Nat.lt_or_ge (pl d) k with g|g
      .exact g
      .exact absurd (h.DV d d1 g) d4
     have Mg:Av E w d:=by
      refine Classical.byContradiction fun hn=>?_;exact d5 (h.m5 d d1 hdk w hn)
     have hl:pl w<pl d:=by
      obtain⟨_,b⟩:=U.tree.low d1 d3;rcases b with b|b
      .rw[b] at d5;exact absurd (.refl d) d5
      .exact b
     exact XV (U.down hg Mg hl _ a (Nat.lt_succ_self _) M d2)
  .have qQ:pl x<k:=by
    rcases Nat.lt_or_ge (pl x) k with g|g
    .exact g
    .exact absurd (hg.inj x c C rc oG) J
   rw[nt x C oG];exact h.m5 x C qQ w hw
structure wS(E:Nat->Nat->Prop)(R:Nat->Prop)(pl N:Nat->Nat)(k:Nat):Prop where
 tree:j9 (fun x=>R x/\pl x<k) pl N
 m3:∀ c,R c->c≠0->pl c<k->∀ w,(∀ a,E a c->R a->pl a<pl c->bE N w a)->bE N w (N c)
 m4:∀ c,R c->c≠0->pl c<k->∃ t,E t c/\R t/\pl t<pl c/\bE N (N c) t
 m5:∀ x,R x->pl x<k->∀ w,¬ Av E w x->bE N w x
theorem wS.start(hg:xJ E R pl){N:Nat->Nat}(h:N 0=0):wS E R pl N 1:=by
 have key:∀ c,R c->pl c<1->c=0:=fun c rc hl=>hg.inj c 0 rc hg.root (by rw[hg.oz];omega);refine⟨⟨⟨hg.root,by rw[hg.oz];omega⟩,h,fun x hx C=>absurd (key x hx.1 hx.2) C⟩,fun c rc C hl=>absurd (key c rc hl) C,fun c rc C hl=>absurd (key c rc hl) C,fun x U hl w M=>?_⟩;have e:=key x U hl;subst e;by_cases J:w=0
 .rw[J];exact .refl 0
 .exact absurd (.zero fun e=>J e.symm) M
theorem wS.fin{N:Nat->Nat}{k:Nat}(h:wS E R pl N k)(hk:∀ x,R x->pl x<k):tT E R pl N:=
 ⟨⟨h.tree.root.1,h.tree.kC,fun x C J=>⟨(h.tree.aM x ⟨C,hk x C⟩ J).1.1,(h.tree.aM x ⟨C,hk x C⟩ J).2⟩⟩,fun c rc J w U=>h.m3 c rc J (hk c rc) w fun a M X _=>U a M X,fun c rc J=>h.m4 c rc J (hk c rc),fun x C=>h.m5 x C (hk x C)⟩
theorem wS.step(hg:xJ E R pl){N:Nat->Nat}{k c q:Nat}(h:wS E R pl N k)(rc:R c)(hz:c≠0)(hk:pl c=k)(rq:R q)
 (hq:∀ a,E a c->R a->pl a<k->bE N q a) (hm:∀ w,(∀ a,E a c->R a->pl a<k->bE N w a)->bE N w q):wS E R pl (iF N c q) (k+1):=by
 obtain⟨t,t1,t2,t3⟩:=hg.pre c hz rc;obtain⟨⟨_,q1⟩,q2⟩:=h.tree.low (w:=q) (x:=t) ⟨t2,by omega⟩ (hq t t1 t2 oG);have M:=fun x (J:R x) (hl:pl x<k) w=>IP (q:=q) h.tree hz x ⟨J,hl⟩ (by omega:pl x<pl c) w
 have mG:∀ x,R x->x≠c->pl x<k+1->pl x<k:=fun x J C hx=>by
  rcases Nat.lt_or_ge (pl x) k with g|g
  .exact g
  .exact absurd (hg.inj x c J rc oG) C
 refine⟨⟨⟨hg.root,by rw[hg.oz];omega⟩,by rw[nS q oG];exact h.tree.kC,fun x hx X=>?_⟩,fun x J X hx w hw=>?_,fun x J X hx=>?_,fun x J hx w hw=>?_⟩
 .by_cases C:x=c
  .subst C;rw[rI];exact⟨⟨rq,by omega⟩,by omega⟩
  .obtain⟨a,b⟩:=h.tree.aM x ⟨hx.1,mG x hx.1 C hx.2⟩ X;rw[nS q C];exact⟨⟨a.1,by omega⟩,b⟩
 .by_cases C:x=c
  .subst C;rw[rI,M q rq q1];exact hm w fun a ea U hl=>(M a U hl w).1 (hw a ea U oG)
  .have qQ:=mG x J C hx;obtain⟨o1,o2⟩:=h.tree.aM x ⟨J,qQ⟩ X;rw[nS q C,M (N x) o1.1 o1.2];exact h.m3 x J X qQ w fun a ea U hl=>(M a U oG w).1 (hw a ea U hl)
 .by_cases C:x=c
  .subst C;refine⟨t,t1,t2,t3,?_⟩;rw[rI,M t t2 oG];exact hq t t1 t2 oG
  .have qQ:=mG x J C hx;obtain⟨t,e1,e2,e3,e4⟩:=h.m4 x J X qQ;refine⟨t,e1,e2,e3,?_⟩;rw[nS q C,M t e2 oG];exact e4
 .by_cases C:x=c
  .subst C;by_cases ew:w=x
   .subst ew;exact .refl w
   .refine .up ?_;rw[rI,M q rq q1];exact hm w fun a ea U hl=>h.m5 a U hl w fun ha=>hw (.step ha ea fun e=>ew e.symm)
  .rw[M x J (mG x J C hx)];exact h.m5 x J (mG x J C hx) w hw
theorem tT.AU(hg:xJ E R pl){O:Nat->Nat}(h:tT E R pl O)(hf:∀ c,R c->c≠0->∀ a,E a c->R a->bE O (O c) a){w x:Nat}(M:R x):bE O w x↔¬ Av E w x:=by
 refine⟨fun ha X=>?_,h.i3 x M w⟩
 induction X with
 |zero hw=>exact hw (ha.zero h.tree.kC rfl).symm
 |@step x c hx e hc ih=>
  have J:=hx.reach hg;rcases ha.inv with e'|U
  .exact hc e'.symm
  .by_cases C:c=0
   .exact hc (C.trans (ha.zero h.tree.kC C).symm)
   .exact ih J (U.trans (hf c M C x e J))
end
def n5(beh:Nat->List Int)(l J:List Int):Prop:=∀ M x C,l=M++x::C->x∈J\/∃ t∈C,0<=t/\x∈beh t.toNat
theorem n5.nil{beh:Nat->List Int}{C:List Int}:n5 beh [] C:=fun J x M h=>by simp at h
theorem n5.mono{beh:Nat->List Int}{l J C:List Int}(h:n5 beh l J)(M:∀ x∈J,x∈C):n5 beh l C:=fun U x X e=>(h U x X e).imp (M x) id
theorem n5.app{beh:Nat->List Int}{l J C:List Int}(h:n5 beh l C)(h':n5 beh J C):n5 beh (l++J) C:=fun U x M e=>by
 rcases List.append_eq_append_iff.1 e with⟨a,e1,e2⟩|⟨a,e1,e2⟩
 .exact h' a x M e2
 .cases a with
  |nil=>
   simp only[List.nil_append] at e2;exact h' [] x M e2.symm
  |cons y a=>
   simp only[List.cons_append,List.cons.injEq] at e2;obtain⟨rfl,rfl⟩:=e2;exact(h U x a e1).imp id fun⟨t,ht,r⟩=>⟨t,List.mem_append_left _ ht,r⟩
theorem n5.last{beh:Nat->List Int}{l:List Int}{b:Nat}(h:n5 beh l (beh b)):n5 beh (l++[(b:Int)]) [(b:Int)]:=fun C x J e=>by
 rcases List.append_eq_append_iff.1 e with⟨a,e1,e2⟩|⟨a,e1,e2⟩
 .cases a with
  |nil=>
   simp only[List.nil_append,List.cons.injEq] at e2;exact .inl (by simp[e2.1])
  |cons y a=>simp at e2
 .cases a with
  |nil=>
   simp only[List.nil_append,List.cons.injEq] at e2;exact .inl (by simp[e2.1])
  |cons y a=>
   simp only[List.cons_append,List.cons.injEq] at e2;obtain⟨rfl,rfl⟩:=e2;rcases h C x a e1 with h|⟨t,ht,r⟩
   .exact .inr ⟨b,by simp,by omega,by simpa using h⟩
   .exact .inr ⟨t,List.mem_append_left _ ht,r⟩
theorem Qz{beh:Nat->List Int}{w:Int}(hb:∀ b,∀ c∈beh b,0<=c):∀ (k:Nat) (s:List Bool×List Int) (b:Nat),∃ l,(du beh w k s b).2=s.2++l/\n5 beh l [(b:Int)]
 |0,s,b=>⟨[],by simp[du],.nil⟩
 |k+1,s,b=>by
  have C:∀ cs:List Int,(∀ c∈cs,0<=c)->∀ s:List Bool×List Int,∃ l,(cV beh w k s cs).2=s.2++l/\n5 beh l cs:=fun cs=>by
   induction cs using s7 with
   |h0=>exact fun _ s=>⟨[],by simp[cV],.nil⟩
   |h1 cs c ih=>
    intro hc s;obtain⟨l,e,h⟩:=ih (fun c h=>hc c (by simp[h])) s;rw[Bx];split
    .obtain⟨J,e',h'⟩:=Qz hb k (cV beh w k s cs) c.toNat;refine⟨l++J,by rw[e',e,List.append_assoc],(h.mono fun x hx=>by simp[hx]).app (h'.mono fun x hx=>?_)⟩;have:=hc c oS;simp only[List.mem_singleton] at hx;rw[hx,Int.toNat_of_nonneg this];simp
    .exact⟨l,e,h.mono fun x hx=>by simp[hx]⟩
  rw[sN];obtain⟨l,e,h⟩:=C (beh b) (hb b) (s.1.set b true,s.2);exact⟨l++[(b:Int)],by simp only;rw[e,List.append_assoc],h.last⟩
section
variable{beh:Nat->List Int}{n:Nat}(hb:∀ b,∀ c∈beh b,0<=c/\c.toNat<n)(hn:0<n)
include hb hn
theorem zz:∃ t,bI beh n=0::t:=by
 obtain⟨k,rfl⟩:∃ k,n=k+1:=⟨n - 1,by omega⟩
 refine⟨_,by unfold bI;rw[sN,List.reverse_append];rfl⟩
omit hn in
theorem aaB{i:Nat}{x:Int}(hx:(bI beh n)[i]? =some x)(h0:x≠0):∃ j t,j<i/\(bI beh n)[j]? =some t/\0<=t/\x∈beh t.toNat:=by
 obtain⟨l,e,h⟩:=Qz (w:= -1) (fun b c hc=>(hb b c hc).1) n (List.replicate n false,[]) 0;have C:bI beh n=l.reverse:=by unfold bI;rw[e];rfl
 rw[C] at hx ⊢;obtain⟨hi,hx⟩:=List.getElem?_eq_some_iff.1 hx;rw[List.length_reverse] at hi;rw[List.getElem_reverse] at hx;have hk:l.length - 1 - i<l.length:=by omega
 rcases h (l.take (l.length - 1 - i)) x (l.drop (l.length - 1 - i+1)) (by rw[<- hx, <- List.drop_eq_getElem_cons hk,List.take_append_drop]) with h|⟨t,ht,r⟩
 .simp at h;exact absurd h h0
 .obtain⟨m,hm⟩:=List.getElem?_of_mem ht;rw[List.getElem?_drop] at hm;obtain⟨J,hm⟩:=List.getElem?_eq_some_iff.1 hm;refine⟨l.length - 1 - (l.length - 1 - i+1+m),t,by omega,?_,r⟩;rw[List.getElem?_eq_getElem (by rw[List.length_reverse];omega),List.getElem_reverse];congr 1;rw[<- hm];congr 1;omega
end
def sE(ord:List Int)(n:Nat):Nat->List Int
 |0=>List.replicate n 0
 |i+1=>(sE ord n i).set (ord.getD i 0).toNat i
def Aa(ord:List Int)(n:Nat):List Int:=sE ord n ord.length
theorem E5{ord:List Int}{n:Nat}:∀ i,(sE ord n i).length=n
 |0=>by simp[sE]
 |i+1=>by simp[sE,E5 i]
theorem QA{ord:List Int}{n:Nat}(nd:ord.Nodup)(C:∀ b∈ord,0<=b/\b.toNat<n):∀ i,i<=ord.length->∀ j b,j<i->ord[j]? =some b->(sE ord n i).getD b.toNat 0=j
 |0,_,j,_,h,_=>absurd h (Nat.not_lt_zero j)
 |i+1,hi,j,b,hj,hb=>by
  have hl:i<ord.length:=hi;have ha:=List.getElem?_eq_getElem hl;have hd:ord.getD i 0=ord[i]:=by rw[List.getD_eq_getElem?_getD,ha];rfl
  rw[sE,hd,List.getD_eq_getElem?_getD,List.getElem?_set];have U:=C _ (List.getElem_mem hl);by_cases e:j=i
  .subst e;rw[ha] at hb;cases hb;rw[if_pos rfl,if_pos (by rw[E5];exact U.2)];rfl
  .have J:¬ ord[i].toNat=b.toNat:=fun e'=>by
    obtain⟨X,e2⟩:=List.getElem?_eq_some_iff.1 hb;have M:=C b (e2▸List.getElem_mem X);have:ord[i]=ord[j]:=by rw[e2];omega
    have:=(List.getElem_inj nd).1 this;omega
   rw[if_neg J, <- List.getD_eq_getElem?_getD];exact QA nd C i oG j b oG hb
theorem NG{ord:List Int}{n:Nat}(nd:ord.Nodup)(C:∀ b∈ord,0<=b/\b.toNat<n){j:Nat}{b:Int}(h:ord[j]? =some b):(Aa ord n).getD b.toNat 0=j:=by
 obtain⟨hj,_⟩:=List.getElem?_eq_some_iff.1 h;exact QA nd C _ (Nat.le_refl _) j b hj h
theorem Ns{ord:List Int}{n:Nat}:(Aa ord n).length=n:=E5 _
def bR(out:List Int)(x:Int):Int:=out.getD x.toNat (-1)
def lj(pl:List Int)(x:Int):Int:=pl.getD x.toNat 0
def tN(pl out:List Int):Nat->Int->Int->Int
 |0,x,_=>x
 |k+1,x,a=>if x=a then x else if lj pl a<lj pl x then tN pl out k (bR out x) a else tN pl out k x (bR out a)
def kP(pl out:List Int)(nx a:Int):Int:=if bR out a= -1 then nx else if nx= -1 then a else tN pl out (2*pl.length) nx a
def my(pl out l:List Int):Int:=l.foldl (kP pl out) (-1)
def jr(pl:List Int)(ahd:Nat->List Int)(s:List Int×Bool)(b:Int):List Int×Bool:=
 if bR s.1 b=my pl s.1 (ahd b.toNat) then s else(s.1.set b.toNat (my pl s.1 (ahd b.toNat)),true)
def qa(pl:List Int)(ahd:Nat->List Int)(rest out:List Int):List Int×Bool:=rest.foldl (jr pl ahd) (out,false)
def Fg(pl:List Int)(ahd:Nat->List Int)(rest:List Int):Nat->List Int->List Int
 |0,out=>out
 |k+1,out=>if(qa pl ahd rest out).2=true then Fg pl ahd rest k (qa pl ahd rest out).1 else(qa pl ahd rest out).1
def kO(n:Nat):List Int:=(List.replicate n (-1)).set 0 0
def cX(out:List Int)(x:Nat):Nat:=(bR out x).toNat
structure Ap(V:Nat->Prop)(n:Nat)(out:List Int):Prop where
 len:out.length=n
 set:∀ x,V x->0<=bR out x
 un:∀ x:Nat,¬ V x->bR out x= -1
theorem xX{out:List Int}{b x:Nat}{q:Int}(h:b<out.length):bR (out.set b q) x=if x=b then q else bR out x:=by
 unfold bR;simp only[Int.toNat_natCast,List.getD_eq_getElem?_getD,List.getElem?_set];by_cases e:b=x
 .subst e;simp[h]
 .rw[if_neg e,if_neg fun e'=>e e'.symm]
theorem Oz{out:List Int}{b q:Nat}(h:b<out.length):cX (out.set b (q:Int))=iF (cX out) b q:=by
 funext x;unfold cX iF;rw[xX h];split<;>simp
section
variable{V:Nat->Prop}{plL out:List Int}{pl:Nat->Nat}{n:Nat}
theorem I7(hp:∀ x:Nat,V x->lj plL x=pl x)(hg:Ap V n out)(ht:j9 V pl (cX out))(h0:pl 0=0)(inj:∀ x a,V x->V a->pl x=pl a->x=a):
 ∀ (k x a:Nat),V x->V a->tN plL out k x a=(tS pl (cX out) k x a:Nat)
 |0,x,a,_,_=>rfl
 |k+1,x,a,vx,va=>by
  have M:bR out x=(cX out x:Nat):=by unfold cX;rw[Int.toNat_of_nonneg (hg.set x vx)]
  have J:bR out a=(cX out a:Nat):=by unfold cX;rw[Int.toNat_of_nonneg (hg.set a va)]
  rw[tN,tS,hp x vx,hp a va,M,J];have e1:((x:Int)=a)=(x=a):=propext Int.natCast_inj;have e2:((pl a:Int)<pl x)=(pl a<pl x):=propext Int.ofNat_lt;simp only[e1,e2];split
  .rfl
  .rename_i C;split
   .rename_i hl;exact I7 hp hg ht h0 inj k _ a (ht.aM x vx fun e=>by rw[e,h0] at hl;omega).1 va
   .rename_i hl
    exact I7 hp hg ht h0 inj k x _ vx (ht.aM a va fun e=>by
     subst e
     exact C (inj x 0 vx va oG)).1
theorem IQ(hp:∀ x:Nat,V x->lj plL x=pl x)(hn:∀ x,V x->pl x<plL.length)(hg:Ap V n out)(ht:j9 V pl (cX out))(h0:pl 0=0)(inj:∀ x a,V x->V a->pl x=pl a->x=a)
 {l:List Int} (hl:∀ a∈l,0<=a):(my plL out l= -1/\∀ a∈l,¬ V a.toNat)\/
 ∃ q:Nat,my plL out l=q/\V q/\(∀ a∈l,V a.toNat->bE (cX out) q a.toNat)/\∀ w,(∀ a∈l,V a.toNat->bE (cX out) w a.toNat)->bE (cX out) w q:=by
 induction l using s7 with
 |h0=>exact .inl ⟨rfl,fun a h=>by simp at h⟩
 |h1 l a ih=>
  have ih:=ih fun a h=>hl a (by simp[h]);have ha:=hl a oS;have e:my plL out (l++[a])=kP plL out (my plL out l) a:=by unfold my;rw[List.foldl_append];rfl
  rw[e];have U:∀ x∈l++[a],x∈l\/x=a:=fun x hx=>by simpa using hx
  have X:∀ x∈l,x∈l++[a]:=fun x hx=>by simp[hx]
  obtain⟨m,rfl⟩:=Int.eq_ofNat_of_zero_le ha;by_cases hv:V m
  .have M:¬ bR out (m:Int)= -1:=by have:=hg.set m hv;omega
   rcases ih with⟨h1,h2⟩|⟨q,h1,h2,h3,h4⟩
   .refine .inr ⟨m,by unfold kP;rw[if_neg M,if_pos h1],hv,fun x hx C=>?_,fun w J=>by simpa using J m oS hv⟩;rcases U x hx with h|h
    .exact absurd C (h2 x h)
    .subst h;exact .refl _
   .have hk:pl q+pl m<2*plL.length:=by have:=hn q h2;have:=hn m hv;omega
    obtain⟨s1,s2,s3,s4⟩:=Ih ht h0 inj (2*plL.length) q m h2 hv hk;refine .inr ⟨tS pl (cX out) (2*plL.length) q m,?_,s1,fun x hx C=>?_,fun w J=>?_⟩
    .unfold kP;rw[if_neg M,h1,if_neg oG,I7 hp hg ht h0 inj _ q m h2 hv]
    .rcases U x hx with h|h
     .exact s2.trans (h3 x h C)
     .subst h;exact s3
    .exact s4 w (h4 w fun x hx=>J x (X x hx)) (by simpa using J m oS hv)
  .have M:bR out (m:Int)= -1:=hg.un m hv;have e':kP plL out (my plL out l) (m:Int)=my plL out l:=by unfold kP;rw[if_pos M]
   rw[e'];rcases ih with⟨h1,h2⟩|⟨q,h1,h2,h3,h4⟩
   .refine .inl ⟨h1,fun x hx C=>?_⟩;rcases U x hx with h|h
    .exact h2 x h C
    .subst h;exact hv C
   .refine .inr ⟨q,h1,h2,fun x hx C=>?_,fun w J=>h4 w fun x hx=>J x (X x hx)⟩;rcases U x hx with h|h
    .exact h3 x h C
    .subst h;exact absurd C hv
end
structure nk(beh ahd:Nat->List Int)(n:Nat):Prop where
 pos:0<n
 to:∀ b,∀ c∈beh b,0<=c/\c.toNat<n
 nE:∀ (c:Nat) (a:Int),a∈ahd c↔0<=a/\a.toNat<n/\(c:Int)∈beh a.toNat
def fU(beh:Nat->List Int)(a c:Nat):Prop:=(c:Int)∈beh a
def bj(beh:Nat->List Int)(n x:Nat):Prop:=(a8 beh n (-1)).getD x false=true
def plL(beh:Nat->List Int)(n:Nat):List Int:=Aa (bI beh n) n
def cv(beh:Nat->List Int)(n x:Nat):Nat:=(lj (plL beh n) x).toNat
section
variable{beh ahd:Nat->List Int}{n:Nat}(h:nk beh ahd n)
include h
theorem uF{x:Nat}:(x:Int)∈bI beh n↔bj beh n x:=by
 rw[HH h.to h.pos];simp[bj]
theorem vV:∀ b∈bI beh n,0<=b/\b.toNat<n:=fun b hb=>by
 have hb:=(HH h.to h.pos).1 hb;refine⟨hb.1,?_⟩;have hl:=mO (w:= -1) h.to h.pos;rcases Nat.lt_or_ge b.toNat n with g|g
 .exact g
 .rw[List.getD_eq_getElem?_getD,List.getElem?_eq_none oG] at hb;simp at hb
theorem oK{x:Nat}(hx:bj beh n x):x<n:=by simpa using(vV h x ((uF h).2 hx)).2
theorem tf{x:Nat}(hx:bj beh n x):∃ i:Nat,(bI beh n)[i]? =some (x:Int)/\lj (plL beh n) x=i/\cv beh n x=i:=by
 obtain⟨i,hi⟩:=List.getElem?_of_mem ((uF h).2 hx);have:=NG (Em h.to h.pos) (vV h) hi;exact⟨i,hi,this,by unfold cv lj plL;rw[this];rfl⟩
theorem adS{x:Nat}(hx:bj beh n x):lj (plL beh n) x=cv beh n x:=by
 obtain⟨i,_,a,b⟩:=tf h hx;rw[a,b]
theorem yi{i:Nat}{x:Int}(hi:(bI beh n)[i]? =some x):∃ m:Nat,x=m/\bj beh n m/\cv beh n m=i:=by
 have hm:=List.mem_of_getElem? hi;obtain⟨m,rfl⟩:=Int.eq_ofNat_of_zero_le (vV h x hm).1;refine⟨m,rfl,(uF h).1 hm,?_⟩;have:=NG (Em h.to h.pos) (vV h) hi;unfold cv lj plL;rw[this];rfl
theorem qk:(bI beh n).length<=n:=by
 have M:(List.replicate n false).getD 0 false=false:=by rw[List.getD_eq_getElem?_getD,List.getElem?_replicate];split<;>rfl
 have nd:=Em h.to h.pos;have hr:=vV h
 have J:((bI beh n).map Int.toNat).Nodup:=by
  rw[List.nodup_iff_pairwise_ne,List.pairwise_map];refine(List.Pairwise.and_mem.1 nd).imp fun {a b} C e=>?_;have:=hr a C.1;have:=hr b C.2.1;exact C.2.2 oG
 have:=List.Nodup.length_le_of_subset J (l₂:=List.range n) fun x hx=>by
  obtain⟨y,hy,rfl⟩:=List.mem_map.1 hx;exact List.mem_range.2 (hr y hy).2
 simpa using this
theorem rD{x:Nat}(hx:bj beh n x):cv beh n x<(bI beh n).length:=by
 obtain⟨i,a,_,b⟩:=tf h hx;rw[b];exact(List.getElem?_eq_some_iff.1 a).1
theorem sJ:xJ (fU beh) (bj beh n) (cv beh n):=by
 obtain⟨t,ht⟩:=zz h.to h.pos;have J:(bI beh n)[0]? =some ((0:Nat):Int):=by rw[ht];rfl
 obtain⟨m,e,hm,hp⟩:=yi h J;have:m=0:=by omega
 subst this;refine⟨hm,fun a c e C=>?_,fun x a M C e=>?_,hp,fun c U rc=>?_⟩
 .have:=Yr h.to h.pos C c e;simpa[bj] using this
 .obtain⟨i,a1,_,a3⟩:=tf h M;obtain⟨j,b1,_,b3⟩:=tf h C;have:i=j:=by omega
  subst this;rw[a1] at b1;have:=Option.some.inj b1;omega
 .obtain⟨i,a1,_,a3⟩:=tf h rc;obtain⟨j,t,hj,ht,h0,hc⟩:=aaB h.to a1 oG;obtain⟨m,rfl,hm,hp⟩:=yi h ht;exact⟨m,by simpa[fU] using hc,hm,by omega⟩
def wz(beh:Nat->List Int)(n:Nat)(out:List Int):Prop:=tT (fU beh) (bj beh n) (cv beh n) (cX out)/\Ap (bj beh n) n out
theorem Cy{x:Nat}(hx:bj beh n x):lj (plL beh n) x=cv beh n x:=adS h hx
theorem I8{x:Nat}(hx:bj beh n x):cv beh n x<(plL beh n).length:=by
 have:=rD h hx;have:=qk h;rw[plL,Ns];omega
omit h in
theorem Ml{α β:Type}{g:β->α->β}{s:β}{l:List α}{i:Nat}{a:α}(hi:l[i]? =some a):(l.take (i+1)).foldl g s=g ((l.take i).foldl g s) a:=by
 rw[List.take_add_one,hi,List.foldl_append];rfl
theorem EU{i:Nat}{a:Int}(hi:(bI beh n).tail[i]? =some a):∃ c:Nat,a=c/\bj beh n c/\cv beh n c=i+1/\c≠0:=by
 obtain⟨t,ht⟩:=zz h.to h.pos;obtain⟨m,e,hm,hp⟩:=yi h (i:=i+1) (x:=a) (by rw[ht] at hi ⊢;simpa using hi);refine⟨m,e,hm,hp,fun e=>?_⟩;have:=(sJ h).oz;rw[e] at hp;omega
theorem OA{c:Nat}(rc:bj beh n c)(C:c≠0):∃ i,(bI beh n).tail[i]? =some (c:Int)/\cv beh n c=i+1:=by
 obtain⟨t,ht⟩:=zz h.to h.pos;obtain⟨i,hi,_,hp⟩:=tf h rc;cases i with
 |zero=>exact absurd ((sJ h).inj c 0 rc (sJ h).root (by rw[hp,(sJ h).oz])) C
 |succ i=>exact⟨i,by rw[ht] at hi ⊢;simpa using hi,hp⟩
theorem BS(c:Nat):∀ a∈ahd c,0<=a:=fun a ha=>((h.nE c a).1 ha).1
theorem ij{c a:Nat}(C:bj beh n a):(a:Int)∈ahd c↔fU beh a c:=by
 rw[h.nE];have:=oK h C;simp only[Int.toNat_natCast,fU];exact⟨fun x=>x.2.2,fun x=>⟨by omega,this,x⟩⟩
def aok(beh:Nat->List Int)(n k x:Nat):Prop:=bj beh n x/\cv beh n x<k
omit h in
theorem Ii(hn:0<n)(x:Nat):bR (kO n) x=if x=0 then 0 else -1:=by
 have:=xX (out:=List.replicate n (-1)) (b:=0) (x:=x) (q:=0) (by simpa using hn);unfold kO;rw[this]
 have e:bR (List.replicate n (-1)) (x:Int)= -1:=by
  unfold bR;rw[List.getD_eq_getElem?_getD,List.getElem?_replicate];split<;>rfl
 rw[e]
theorem Ij:∀ i,i<=(bI beh n).tail.length->let s:=((bI beh n).tail.take i).foldl (jr (plL beh n) ahd) (kO n,false)
 wS (fU beh) (bj beh n) (cv beh n) (cX s.1) (i+1)/\Ap (aok beh n (i+1)) n s.1/\(0<i->s.2=true)
 |0,_=>by
  have g:=sJ h;refine⟨.start g (by show(bR (kO n) ((0:Nat):Int)).toNat=0;rw[Ii h.pos];rfl),⟨by simp[kO],fun x hx=>?_,fun x hx=>?_⟩,fun h=>absurd h (Nat.lt_irrefl 0)⟩
  .have:x=0:=g.inj x 0 hx.1 g.root (by rw[g.oz];have:=hx.2;omega);show 0<=bR (kO n) x;rw[Ii h.pos,if_pos this];omega
  .show bR (kO n) x= -1;rw[Ii h.pos,if_neg fun e=>hx (by subst e;exact⟨g.root,by rw[g.oz];omega⟩)]
 |i+1,hi=>by
  have g:=sJ h;obtain⟨h1,h2,h3⟩:=Ij i oG;have hx:=List.getElem?_eq_getElem (show i<(bI beh n).tail.length from hi);obtain⟨c,e,rc,hp,X⟩:=EU h hx;rw[e] at hx;simp only;rw[Ml hx];generalize ((bI beh n).tail.take i).foldl (jr (plL beh n) ahd) (kO n,false)=s at h1 h2 h3;obtain⟨out,fl⟩:=s;dsimp only at h1 h2 h3 ⊢;have hc:bR out (c:Int)= -1:=h2.un c fun hv=>by have:=hv.2;omega
  have J:=oK h rc;rcases IQ (l:=ahd c) (plL:=plL beh n) (pl:=cv beh n) (fun x hx=>Cy h hx.1) (fun x hx=>I8 h hx.1) h2 h1.tree g.oz (fun x a rx C=>g.inj x a rx.1 C.1) (BS h c) with⟨q1,q2⟩|⟨q,q1,q2,q3,q4⟩
  .obtain⟨t,t1,t2,t3⟩:=g.pre c X rc;exact absurd ⟨t2,by rw[Int.toNat_natCast];omega⟩ (q2 t ((ij h t2).2 t1))
  .have e':jr (plL beh n) ahd (out,fl) c=(out.set c q,true):=by
    unfold jr;simp only[Int.toNat_natCast,q1,hc];rw[if_neg oG]
   rw[e'];dsimp only;rw[Oz (by rw[h2.len];exact J)];refine⟨h1.step g rc X oG q2.1 (fun a ea C hl=>?_) (fun w hw=>q4 w fun a ha M=>?_),⟨by simp[h2.len],fun x hx=>?_,fun x hx=>?_⟩,fun _=>rfl⟩
   .simpa using q3 a ((ij h C).2 ea) ⟨C,by rw[Int.toNat_natCast];omega⟩
   .have Ec:=BS h c a ha;obtain⟨m,rfl⟩:=Int.eq_ofNat_of_zero_le Ec;exact hw m ((ij h M.1).1 ha) M.1 M.2
   .rw[xX (by rw[h2.len];exact J)];split
    .omega
    .rename_i aB
     exact h2.set x ⟨hx.1,by
      rcases Nat.lt_or_ge (cv beh n x) (i+1) with U|U
      .exact U
      .exact absurd (g.inj x c hx.1 rc (by have:=hx.2;omega)) aB⟩
   .rw[xX (by rw[h2.len];exact J),if_neg fun e=>hx (by rw[e];exact⟨rc,by omega⟩)];exact h2.un x fun hv=>hx ⟨hv.1,by have:=hv.2;omega⟩
theorem MZ:wz beh n (qa (plL beh n) ahd (bI beh n).tail (kO n)).1/\((qa (plL beh n) ahd (bI beh n).tail (kO n)).2=false->(bI beh n).tail=[]):=by
 obtain⟨h1,h2,h3⟩:=Ij h _ (Nat.le_refl _);rw[List.take_length] at h1 h2 h3;unfold qa;obtain⟨t,ht⟩:=zz h.to h.pos
 have C:∀ x,bj beh n x->cv beh n x<(bI beh n).tail.length+1:=fun x hx=>by
  have:=rD h hx;rw[ht] at this ⊢;simpa using this
 refine⟨⟨h1.fin C,h2.len,fun x hx=>h2.set x ⟨hx,C x hx⟩,fun x hx=>h2.un x fun hv=>hx hv.1⟩,fun e=>?_⟩;cases hl:(bI beh n).tail with
 |nil=>rfl
 |cons a l=>rw[hl] at h3 e;rw[h3 oS] at e;cases e
theorem Ik{out:List Int}(ho:wz beh n out):∀ i,i<=(bI beh n).tail.length->let s:=((bI beh n).tail.take i).foldl (jr (plL beh n) ahd) (out,false)
 yQ (fU beh) (bj beh n) (cv beh n) (cX out) (cX s.1) (i+1)/\Ap (bj beh n) n s.1/\(∀ x,bj beh n x->cv beh n (cX s.1 x)<=cv beh n (cX out x))/\
 (s.2=true->∃ x,bj beh n x/\x≠0/\cv beh n (cX s.1 x)<cv beh n (cX out x))/\
 (s.2=false->s.1=out/\∀ c,bj beh n c->c≠0->cv beh n c<i+1->∀ a,fU beh a c->bj beh n a->bE (cX out) (cX out c) a)
 |0,_=>by
  have g:=sJ h;refine⟨ho.1.start g,ho.2,fun _ _=>Nat.le_refl _,fun e=>by exact Bool.noConfusion e,fun _=>⟨rfl,fun c rc J hl=>absurd (g.inj c 0 rc g.root (by rw[g.oz];omega)) J⟩⟩
 |i+1,hi=>by
  have g:=sJ h;obtain⟨h1,h2,h3,h4,h5⟩:=Ik ho i oG;have hx:=List.getElem?_eq_getElem (show i<(bI beh n).tail.length from hi);obtain⟨c,e,rc,hp,J⟩:=EU h hx;rw[e] at hx;simp only;rw[Ml hx];generalize ((bI beh n).tail.take i).foldl (jr (plL beh n) ahd) (out,false)=s at h1 h2 h3 h4 h5;obtain⟨o,fl⟩:=s;dsimp only at h1 h2 h3 h4 h5 ⊢;have iT:=oK h rc;rcases IQ (l:=ahd c) (plL:=plL beh n) (pl:=cv beh n) (fun x hx=>Cy h hx) (fun x hx=>I8 h hx) h2 h1.tree g.oz g.inj (BS h c) with⟨q1,q2⟩|⟨q,q1,q2,q3,q4⟩
  .obtain⟨t,t1,t2,t3⟩:=g.pre c J rc;exact absurd t2 (q2 t ((ij h t2).2 t1))
  .have hq:∀ a,fU beh a c->bj beh n a->bE (cX o) q a:=fun a X M=>by simpa using q3 a ((ij h M).2 X) M
   have hm:∀ w,(∀ a,fU beh a c->bj beh n a->bE (cX o) w a)->bE (cX o) w q:=fun w hw=>q4 w fun a ha va=>by
    obtain⟨m,rfl⟩:=Int.eq_ofNat_of_zero_le (BS h c a ha);exact hw m ((ij h va).1 ha) va
   obtain⟨up,st⟩:=h1.step g rc J oG q2 hq hm;obtain⟨p1,_⟩:=h1.tree.aM c rc J;obtain⟨_,lo⟩:=h1.tree.low p1 up;by_cases hs:bR o (c:Int)=q
   .have e':jr (plL beh n) ahd (o,fl) c=(o,fl):=by
     unfold jr;simp only[Int.toNat_natCast,q1];rw[if_pos hs]
    have eo:cX o c=q:=by unfold cX;rw[hs];simp
    have eu:iF (cX o) c q=cX o:=by
     funext x;unfold iF;split
     .rename_i C;rw[C,eo]
     .rfl
    rw[eu] at st;rw[e'];refine⟨st,h2,h3,h4,fun ef=>?_⟩;obtain⟨XY,hf⟩:=h5 ef;refine⟨XY,fun x U xz hl a X M=>?_⟩;by_cases C:x=c
    .subst C;rw[<- XY,eo];exact hq a X M
    .exact hf x U xz (by
      rcases Nat.lt_or_ge (cv beh n x) (i+1) with g'|g'
      .exact g'
      .exact absurd (g.inj x c U rc oG) C) a X M
   .have e':jr (plL beh n) ahd (o,fl) c=(o.set c q,true):=by
     unfold jr;simp only[Int.toNat_natCast,q1];rw[if_neg hs]
    have ao:cv beh n q<cv beh n (cX o c):=by
     rcases lo with lo|lo
     .refine absurd ?_ hs;rw[lo];unfold cX;rw[Int.toNat_of_nonneg (h2.set c rc)]
     .exact lo
    rw[e'];dsimp only;rw[Oz (by rw[h2.len];exact iT)];refine⟨st,⟨by simp[h2.len],fun x hx=>?_,fun x hx=>?_⟩,fun x U=>?_,fun _=>⟨c,rc,J,by rw[rI];exact Nat.lt_of_lt_of_le ao (h3 c rc)⟩,fun e=>by cases e⟩
    .rw[xX (by rw[h2.len];exact iT)];split
     .omega
     .exact h2.set x hx
    .rw[xX (by rw[h2.len];exact iT),if_neg fun e=>hx (by rw[e];exact rc)];exact h2.un x hx
    .by_cases C:x=c
     .subst C;rw[rI];exact Nat.le_trans (Nat.le_of_lt ao) (h3 x U)
     .rw[nS q C];exact h3 x U
theorem HN{out:List Int}(J:wz beh n out):let s:=qa (plL beh n) ahd (bI beh n).tail out
 wz beh n s.1/\(∀ x,bj beh n x->cv beh n (cX s.1 x)<=cv beh n (cX out x))/\
 (s.2=true->∃ x,bj beh n x/\x≠0/\cv beh n (cX s.1 x)<cv beh n (cX out x))/\
 (s.2=false->s.1=out/\∀ c,bj beh n c->c≠0->∀ a,fU beh a c->bj beh n a->bE (cX out) (cX out c) a):=by
 obtain⟨h1,h2,h3,h4,h5⟩:=Ik h J _ (Nat.le_refl _);rw[List.take_length] at h1 h2 h3 h4 h5;obtain⟨t,ht⟩:=zz h.to h.pos
 have C:∀ x,bj beh n x->cv beh n x<(bI beh n).tail.length+1:=fun x hx=>by
  have:=rD h hx;rw[ht] at this ⊢;simpa using this
 exact⟨⟨h1.fin C,h2⟩,h3,h4,fun e=>⟨(h5 e).1,fun c rc M=>(h5 e).2 c rc M (C c rc)⟩⟩
end
section
variable{beh ahd:Nat->List Int}{n:Nat}(h:nk beh ahd n)
include h
def I9(beh:Nat->List Int)(n:Nat)(out:List Int):Prop:=wz beh n out/\∀ c,bj beh n c->c≠0->∀ a,fU beh a c->bj beh n a->bE (cX out) (cX out c) a
def Ed(beh:Nat->List Int)(n:Nat)(out:List Int):Nat:=((bI beh n).tail.map fun b=>cv beh n (cX out b.toNat)).sum
omit h in
theorem SB{l:List Int}{f g:Int->Nat}(hl:∀ x∈l,f x<=g x):(l.map f).sum<=(l.map g).sum/\((∃ x∈l,f x<g x)->(l.map f).sum<(l.map g).sum):=by
 induction l with
 |nil=>exact⟨Nat.le_refl _,fun⟨x,hx,_⟩=>by simp at hx⟩
 |cons a l ih=>
  obtain⟨i1,i2⟩:=ih fun x hx=>hl x (by simp[hx]);have ha:=hl a oS;simp only[List.map_cons,List.sum_cons];refine⟨by omega,fun⟨x,hx,ao⟩=>?_⟩;rcases List.mem_cons.1 hx with e|e
  .subst e;omega
  .have:=i2 ⟨x,e,ao⟩;omega
theorem adT{out:List Int}(C:wz beh n out):Ed beh n out<=n*n:=by
 have h1:Ed beh n out<=((bI beh n).tail.map fun _=>n).sum:=(SB fun x hx=>by
  obtain⟨i,hi⟩:=List.getElem?_of_mem hx;obtain⟨c,rfl,rc,_,J⟩:=EU h hi;have:=rD h (C.1.tree.aM c rc J).1;have:=qk h;simp only[Int.toNat_natCast]
  omega).1
 have h2:((bI beh n).tail.map fun _=>n).sum=(bI beh n).tail.length*n:=by
  generalize (bI beh n).tail=l;clear h1
  induction l with
  |nil=>simp
  |cons a l ih=>simp only[List.map_cons,List.sum_cons,ih,List.length_cons,Nat.succ_mul];omega
 have h3:(bI beh n).tail.length<=n:=by have:=qk h;rw[List.length_tail];omega
 have:=Nat.mul_le_mul_right n h3;omega
theorem adU{out:List Int}(C:wz beh n out)(hc:(qa (plL beh n) ahd (bI beh n).tail out).2=true):Ed beh n (qa (plL beh n) ahd (bI beh n).tail out).1<Ed beh n out:=by
 obtain⟨_,h2,h3,_⟩:=HN h C;obtain⟨x,J,M,ao⟩:=h3 hc;refine(SB fun b hb=>?_).2 ?_
 .obtain⟨i,hi⟩:=List.getElem?_of_mem hb;obtain⟨c,rfl,rc,_,U⟩:=EU h hi;exact h2 _ (by simpa using rc)
 .obtain⟨i,hi,_⟩:=OA h J M;exact⟨x,List.mem_of_getElem? hi,by simpa using ao⟩
def AH(beh ahd:Nat->List Int)(n:Nat)(F:List Int)(k:Nat)(out:List Int):Prop:=
 Fg (plL beh n) ahd (bI beh n).tail k out=F/\(out=kO n/\n*n+1<k\/wz beh n out/\Ed beh n out<k)
theorem HI{F out:List Int}{k:Nat}(C:AH beh ahd n F k out):let s:=qa (plL beh n) ahd (bI beh n).tail out
 0<k/\(s.2=true->AH beh ahd n F (k - 1) s.1)/\(s.2=false->s.1=F/\I9 beh n F):=by
 obtain⟨e,C⟩:=C;have hk:0<k:=by rcases C with⟨_,C⟩|⟨_,C⟩<;>omega
 obtain⟨k,rfl⟩:∃ j,k=j+1:=⟨k - 1,by omega⟩
 rw[Fg] at e;refine⟨hk,fun hc=>?_,fun hc=>?_⟩
 .rw[if_pos hc] at e;refine⟨e,.inr ?_⟩;rcases C with⟨rfl,C⟩|⟨J,C⟩
  .have:=(MZ h).1;exact⟨this,by have:=adT h this;omega⟩
  .exact⟨(HN h J).1,by have:=adU h J hc;omega⟩
 .rw[if_neg (by rw[hc];exact Bool.noConfusion)] at e;refine⟨e,?_⟩;rw[<- e];rcases C with⟨rfl,C⟩|⟨J,C⟩
  .obtain⟨M,X⟩:=MZ h;refine⟨M,fun c rc U=>?_⟩;obtain⟨i,hi,_⟩:=OA h rc U;rw[X hc] at hi;simp at hi
  .obtain⟨M,_,_,p4⟩:=HN h J;obtain⟨q1,q2⟩:=p4 hc;rw[q1];exact⟨J,q2⟩
def US(C:List Int)(n:Nat)(o:List Int)(V:Nat->Prop)(pl:Nat->Nat):Prop:=
 o.length=n/\(∀ x,V x->x<n/\pl x<n)/\(∀ x:Nat,¬ bR o x= -1->V x)/\
 (∀ l:List Int,(∀ a∈l,0<=a)->my C o l= -1\/∃ q:Nat,my C o l=q/\V q)/\
 (∀ x a:Nat,V x->V a->x≠a->if lj C a<lj C x then(∃ y:Nat,bR o x=y/\V y/\pl y<pl x) else(∃ y:Nat,bR o a=y/\V y/\pl y<pl a))
theorem SC{V:Nat->Prop}{o:List Int}(ht:j9 V (cv beh n) (cX o))(hg:Ap V n o)(J:∀ x,V x->bj beh n x):US (plL beh n) n o V (cv beh n):=by
 have g:=sJ h
 have lt:∀ x,V x->cv beh n x<n:=fun x C=>by
  have:=rD h (J x C);have:=qk h;omega
 refine⟨hg.len,fun x C=>⟨oK h (J x C),lt x C⟩,fun x hx=>?_,fun l hl=>?_,fun x a C M X=>?_⟩
 .exact Classical.byContradiction fun hn=>hx (hg.un x hn)
 .rcases IQ (plL:=plL beh n) (pl:=cv beh n) (fun x C=>Cy h (J x C)) (fun x C=>I8 h (J x C)) hg ht g.oz (fun x a C M=>g.inj x a (J x C) (J a M)) hl with⟨h1,_⟩|⟨q,h1,h2,_⟩
  .exact .inl h1
  .exact .inr ⟨q,h1,h2⟩
 .rw[Cy h (J x C),Cy h (J a M)]
  have U:∀ x,V x->x≠0->∃ y:Nat,bR o x=y/\V y/\cv beh n y<cv beh n x:=fun x C hz=>by
   obtain⟨p1,p2⟩:=ht.aM x C hz;exact⟨cX o x,by unfold cX;rw[Int.toNat_of_nonneg (hg.set x C)],p1,p2⟩
  have h0:=g.oz;split
  .rename_i hl;exact U x C fun e=>by rw[e,h0] at hl;omega
  .rename_i hl
   exact U a M fun e=>by
    subst e;exact X (g.inj x 0 (J x C) (J 0 M) oG)
theorem abn{F out:List Int}{k:Nat}(J:AH beh ahd n F k out):out.length=n/\∀ j,j<=(bI beh n).tail.length->
 ∃ (V:Nat->Prop) (pl:Nat->Nat),US (plL beh n) n (((bI beh n).tail.take j).foldl (jr (plL beh n) ahd) (out,false)).1 V pl:=by
 rcases J.2 with⟨rfl,_⟩|⟨C,_⟩
 .refine⟨by simp[kO],fun j hj=>?_⟩;obtain⟨h1,h2,_⟩:=Ij h j hj;exact⟨_,_,SC h h1.tree h2 fun x hx=>hx.1⟩
 .refine⟨C.2.len,fun j hj=>?_⟩;obtain⟨h1,h2,_⟩:=Ik h C j hj;exact⟨_,_,SC h h1.tree h2 fun x hx=>hx⟩
def yH(beh ahd:Nat->List Int)(n:Nat):List Int:=Fg (plL beh n) ahd (bI beh n).tail (n*n+2) (kO n)
def bM(beh ahd:Nat->List Int)(n:Nat):List Int:=(yH beh ahd n).set 0 (-1)
omit h in
theorem MV:AH beh ahd n (yH beh ahd n) (n*n+2) (kO n):=⟨rfl,.inl ⟨rfl,by omega⟩⟩
theorem OB{F:List Int}:∀ {k:Nat} {out:List Int},AH beh ahd n F k out->I9 beh n F
 |0,out,hs=>absurd (HI h hs).1 (Nat.lt_irrefl 0)
 |k+1,out,hs=>by
  obtain⟨_,h2,h3⟩:=HI h hs;cases e:(qa (plL beh n) ahd (bI beh n).tail out).2 with
  |true=>exact OB (h2 e)
  |false=>exact(h3 e).2
theorem xY:I9 beh n (yH beh ahd n):=OB h MV
theorem MB:(bM beh ahd n).length=n:=by
 unfold bM;rw[List.length_set];exact(xY h).1.2.len
theorem MD(x:Nat):bR (bM beh ahd n) x=if x=0 then -1 else bR (yH beh ahd n) x:=by
 unfold bM;exact xX (b:=0) (by rw[(xY h).1.2.len];exact h.pos)
def gB(beh:Nat->List Int)(a b:Nat):Prop:=¬ Av (fU beh) a b
def kD(beh ahd:Nat->List Int)(n:Nat):Nat->Nat:=cX (yH beh ahd n)
theorem zZ:j9 (bj beh n) (cv beh n) (kD beh ahd n):=(xY h).1.1.tree
theorem v9{a b:Nat}(C:bj beh n b):bE (kD beh ahd n) a b↔gB beh a b:=(xY h).1.1.AU (sJ h) (xY h).2 C
theorem Ab{b:Nat}(J:bj beh n b)(C:b≠0):bR (bM beh ahd n) b=(kD beh ahd n b:Nat)/\bj beh n (kD beh ahd n b)/\cv beh n (kD beh ahd n b)<cv beh n b:=by
 refine⟨?_,(zZ h).aM b J C⟩;rw[MD h,if_neg C];unfold kD cX;rw[Int.toNat_of_nonneg ((xY h).1.2.set b J)]
theorem xO:bR (bM beh ahd n) (0:Nat)= -1:=by
 rw[MD h,if_pos rfl]
def gy(aM:List Int):Nat->Int->Int->Bool
 |0,a,b=>decide (b=a)
 |k+1,a,b=>if b≠ -1/\b≠a then gy aM k a (bR aM b) else decide (b=a)
theorem IS{a:Nat}:∀ {k b:Nat},bj beh n b->cv beh n b<k->(gy (bM beh ahd n) k a b=true↔gB beh a b)
 |0,b,_,hk=>absurd hk (Nat.not_lt_zero _)
 |k+1,b,rb,hk=>by
  rw[gy];by_cases e:b=a
  .subst e;rw[if_neg oS];simp only[decide_true,true_iff];exact(v9 h rb).1 (.refl b)
  .rw[if_pos ⟨by omega,by omega⟩];by_cases C:b=0
   .subst C;rw[xO h]
    have hl:gy (bM beh ahd n) k a (-1)=false:=by
     have:¬ (-1:Int)=a:=by omega
     cases k with
     |zero=>simp[gy,this]
     |succ k=>simp[gy,this]
    rw[hl, <- v9 h rb];refine⟨fun e=>Bool.noConfusion e,fun ha=>?_⟩;exact absurd (ha.zero (zZ h).kC rfl).symm e
   .obtain⟨M,J,U⟩:=Ab h rb C;rw[M,IS J oG, <- v9 h J, <- v9 h rb];refine⟨.up,fun ha=>?_⟩;rcases ha.inv with e'|ha
    .exact absurd e'.symm e
    .exact ha
end
def yR(beh ahd:Nat->List Int)(n:Nat)(a b:Nat):Bool:=
 (a8 beh n (-1)).getD a false&&((a8 beh n (-1)).getD b false&&gy (bM beh ahd n) (n+1) a b)
theorem acR{beh ahd:Nat->List Int}{n:Nat}(h:nk beh ahd n){a b:Nat}:yR beh ahd n a b=true↔bj beh n a/\bj beh n b/\gB beh a b:=by
 unfold yR;rw[Bool.and_eq_true,Bool.and_eq_true];show bj beh n a/\bj beh n b/\_↔_;refine and_congr_right fun _=>and_congr_right fun C=>?_;have:=rD h C;have:=qk h;exact IS h C oG
end Go.Argus
section
open Go Go.Abs Go.Proofs Go.Argus
namespace Go.Proofs.Tryz.K
set_option maxRecDepth 10000
theorem O2(n:Nat)(b:Int):replD n [I b]=(List.replicate n b).map I:=by
 unfold replD
 induction n with
 |zero=>rfl
 |succ n ih=>rw[List.replicate_succ,List.replicate_succ,List.flatten_cons,List.map_cons,ih];rfl
theorem zg{n:Nat}{x:Int}(U:n<=100000):OCall prog 94 [I n,I x] ((List.replicate n x).map I) n 3:=by
 refine uu mixed VF (by rw[amg];rfl) (.cons (Tr.s _) (.cons (Tr.s _) .nil)) (.map fun _=>.s _) ?_;rw[amh,ami];refine ws ?_;refine SS ?_;refine ab (aw ?_);have C:((n:Nat):Int).toNat=n:=Int.toNat_natCast n;refine SS ?_;refine fX (zH rfl rfl V.h V.h) ak ⟨by omega,rfl,by omega,by rw[b3];omega,V.h⟩ ?_;refine SS ?_;refine ab (aO (aE (l:=[(1,I x),(5,.rs 0 0 n)]) (ml:=[(0,.cells ((List.replicate n (0:Int)).map I) 3)]) ⟨rfl,?_,trivial⟩ ⟨?_,trivial⟩) (aC (aw ?_)))
 .exact congrArg (fun k=>D.rs 0 0 k) C
 .exact congrArg (fun c=>some (Row.cells c 3)) ((congrArg (fun k=>replD k [I 0]) C).trans (O2 n 0))
 refine au ?_
 refine ab (bO (fun s=>Ghost prog s ⟨az [(5,.rs 0 0 n)],aY [(0,.cells ((List.replicate n x).map I) 3)],1⟩) (dK (α:=Nat)
  (fun k=>⟨az [(1,I x),(5,.rs 0 0 n),(10,I n),(11,I k)],aY [(0,.cells ((List.replicate k x++List.replicate (n - k) 0).map I) 3)],1⟩)
  (fun k=>k<=n) (fun k=>n - k) 0 (aE eH eH) oG ?_) ?_)
 .intro k hk;refine SS ?_;refine ab ⟨_,rfl,fun h=>?_,fun h=>?_⟩
  .have ao:k<n:=by simpa using h
   have J:=E3 (x:=x) (y:=0) ao;have hl:(List.replicate k x++List.replicate (n - k) (0:Int)).length=n:=by simp;omega
   refine ws ?_;refine af ?_;refine ab (dz ?_);refine aK ?_;refine ab ?_;refine af ?_;refine ab (aJ (k+1) (aE eH ⟨?_,trivial⟩) oG oG);rw[<- J,List.map_set];rfl
  .have M:¬ k<n:=by simpa using h
   have:k=n:=by omega
   subst this;refine aE eH ⟨?_,trivial⟩;rw[Nat.sub_self,List.replicate_zero,List.append_nil];rfl
 rintro s hg;refine⟨_,hg,aj ?_⟩;refine af ?_;refine ab (ay rfl ⟨0,rfl,rfl⟩)
set_option maxHeartbeats 1000000 in
theorem jB{f:aF}{beh ahd:List (List Int)}{c:D}(hc:Tr c)(fF:c.one=true){n:Nat}(hn:beh.length=n)(oh:ahd.length=n)(qD:f.blocks.length=n)(jR:n<=1200)(hg:nk (a7 beh) (a7 ahd) n)(cI:∀ b,(a7 beh b).length<=100000)(dT:∀ b,(a7 ahd b).length<=100000):
 PCall prog 60 [.pt (bN f beh ahd c)] (ax (bM (a7 beh) (a7 ahd) n)):=by
 have lY:=hg.pos;have nD:=nD (f:=f) (beh:=beh) (ahd:=ahd) hc fF hn qD lY oG hg.to cI;refine a9 mixed VG (by rw[amj];rfl) (.cons (H9 hc) .nil) (cB _) ?_;rw[amk,aml];refine ws ?_;refine SS ?_;refine ab (aw ?_);have Lw:=MV (beh:=a7 beh) (ahd:=a7 ahd) (n:=n);have Xe:bM (a7 beh) (a7 ahd) n=(yH (a7 beh) (a7 ahd) n).set 0 (-1):=rfl;have zh:=vV hg;have kW:=qk hg;have iC:plL (a7 beh) n=Aa (bI (a7 beh) n) n:=rfl;obtain⟨T,hT⟩:=zz hg.to lY;have AG:=fun F k out=>HI (beh:=a7 beh) (ahd:=a7 ahd) (n:=n) hg (F:=F) (k:=k) (out:=out);have tM:=fun F k out=>abn (beh:=a7 beh) (ahd:=a7 ahd) (n:=n) hg (F:=F) (k:=k) (out:=out);rw[Xe];clear Xe;generalize yH (a7 beh) (a7 ahd) n=F at Lw ⊢;have AG:=AG F;have tM:=tM F;generalize bI (a7 beh) n=O at nD zh kW iC hT AG tM;refine SS ?_;refine uM nD rfl (by repeat' (first|exact trivial|exact rfl|refine And.intro ?_ ?_)) ?_;refine SS ?_;have cE:((f.blocks.length:Nat):Int).toNat=n:=qD;refine ab (aO (gQ (i:=0) (e:=3) (cs:=O.map I) (l:=[(0,.pt (bN f beh ahd c)),(3,ax O)]) (ml:=[]) rfl ⟨rfl,?_,trivial⟩ trivial) (aw ?_))
 .exact iY (by rw[c3];simp)
 refine bD ?_;refine fX (zH rfl rfl V.h V.h) ak ⟨by omega,rfl,by omega,by rw[b3];omega,V.h⟩ ?_;refine SS ?_;refine ab (aO (aE (l:=[(0,.pt (bN f beh ahd c)),(3,ax O),(4,.rs 1 0 n)]) (ml:=[(1,.cells ((sE O n 0).map I) 3)]) ⟨rfl,rfl,?_,trivial⟩ ⟨?_,trivial⟩) (aC (aw ?_)))
 .exact congrArg (fun k=>D.rs 1 0 k) cE
 .exact congrArg (fun c=>some (Row.cells c 3)) ((congrArg (fun k=>replD k [I 0]) cE).trans (O2 n 0))
 refine au ?_
 refine ab (bO (fun s=>Ghost prog s ⟨az [(0,.pt (bN f beh ahd c)),(3,ax O),(4,.rs 1 0 n)],aY [(1,.cells ((Aa O n).map I) 3)],2⟩) (dK (α:=Nat)
  (fun k=>⟨az [(0,.pt (bN f beh ahd c)),(3,ax O),(4,.rs 1 0 n),(23,ax O),(24,I O.length),(25,I k)],aY [(1,.cells ((sE O n k).map I) 3)],2⟩)
  (fun k=>k<=O.length) (fun k=>O.length - k) 0 (aE eH eH) (Nat.zero_le _) ?_) ?_)
 .intro k hk;clear nD AG tM;have Lx:=E5 (ord:=O) (n:=n) k;refine SS ?_;refine ab ⟨_,rfl,fun h=>?_,fun h=>?_⟩
  .have ao:k<O.length:=by simpa using h
   have hx:O[k]? =some O[k]:=List.getElem?_eq_getElem ao;have sr:=zh _ (List.getElem_mem ao);have J:sE O n (k+1)=(sE O n k).set (O.getD k 0).toNat k:=rfl;rw[getD_some hx] at J;generalize O[k]=b at hx sr J;obtain⟨C,rfl⟩:=Int.eq_ofNat_of_zero_le sr.1;have gP:C<n:=sr.2;rw[Int.toNat_natCast] at J;refine ws ?_;refine aK ?_;refine ab (dz ?_);refine aK ?_;refine ab ?_;refine af ?_;refine ab (aJ (k+1) (aE eH ⟨?_,trivial⟩) oG oG);rw[J,List.map_set];rfl
  .have aX:¬ k<O.length:=by simpa using h
   have:k=O.length:=by omega
   subst this;exact aE eH eH
 have C':(Aa O n).length=n:=Ns;rw[<- iC] at C' ⊢;clear iC;generalize plL (a7 beh) n=PL at C' AG tM ⊢;rintro s hg0;refine⟨_,hg0.trans (gQ (i:=1) (e:=3) (cs:=PL.map I) (l:=[(0,.pt (bN f beh ahd c)),(3,ax O),(4,ax PL)]) (ml:=[]) rfl ⟨rfl,rfl,?_,trivial⟩ trivial),aw ?_⟩
 .exact(iY (by rw[c3];simp[C'])).trans (by rw[ax,C'])
 have zg:OCall prog 94 [I f.blocks.length,I (-1)] ((List.replicate n (-1)).map I) n 3:=by rw[qD];exact zg oG
 clear nD;refine bD ?_;refine uM zg rfl (by repeat' (first|exact trivial|exact rfl|refine And.intro ?_ ?_)) ?_;refine SS ?_;refine ab (aO (aE (l:=[(0,.pt (bN f beh ahd c)),(3,ax O),(4,ax PL),(7,.rs 2 0 n)]) (ml:=[(2,.cells ((List.replicate n (-1)).map I) 3)]) ⟨rfl,rfl,rfl,?_,trivial⟩ eH) (aw ?_))
 .exact congrArg (fun k=>D.rs 2 0 k) oS
 have DG:(List.replicate n (-1:Int))[0]? =some (-1):=by simp[lY]
 refine au ?_;refine ab (aO (aE (l:=[(0,.pt (bN f beh ahd c)),(3,ax O),(4,ax PL),(7,.rs 2 0 n)]) (ml:=[(2,.cells ((kO n).map I) 3)]) eH ⟨?_,trivial⟩) (aC (aw ?_)))
 .unfold kO;rw[List.map_set];rfl
 clear DG;refine SS ?_
 refine ab (bO (fun s=>Ghost prog s ⟨az [(7,.rs 2 0 n)],aY [(2,.cells (F.map I) 3)],3⟩/\F.length=n) (uA (α:=Nat×List Int×Bool)
  (fun s=>⟨az [(0,.pt (bN f beh ahd c)),(3,ax O),(4,ax PL),(7,.rs 2 0 n),(8,B s.2.2)],aY [(2,.cells (s.2.1.map I) 3)],3⟩)
  (fun s=>s.2.1.length=n/\(s.2.2=true->AH (a7 beh) (a7 ahd) n F s.1 s.2.1)/\(s.2.2=false->s.2.1=F)) (fun s=>2*s.1+if s.2.2=true then 1 else 0) (n*n+2,kO n,true)
  (aE eH eH) ⟨by simp[kO],fun _=>Lw,fun h=>by cases h⟩ ?_) ?_)
 .clear Lw;rintro⟨k,out,ch⟩ ⟨VH,xq,wJ⟩;dsimp only at VH xq wJ ⊢;refine SS ?_;refine ab ⟨_,rfl,fun h0=>?_,fun h=>?_⟩
  .have hS:=xq h0;obtain⟨y0,eL,pP⟩:=AG _ _ hS;obtain⟨_,tM⟩:=tM _ _ hS;subst hT;refine ws ?_;refine SS ?_;refine ab (aw ?_);have aqS:T.length+1<=n:=by simpa using kW
   have VJ:(0::T).length=T.length+1:=rfl;refine SS ?_;refine aH (xQ rfl V.h V.h rfl rfl rfl) ak ⟨V.h,by omega,by omega,by omega⟩ ?_;refine af ?_;simp only[List.tail_cons] at tM
   refine ab (dK (α:=Nat)
    (fun j=>⟨az [(0,.pt (bN f beh ahd c)),(3,ax (0::T)),(4,ax PL),(7,.rs 2 0 n),(8,B ((T.take j).foldl (jr PL (a7 ahd)) (out,false)).2),(46,ax T),(47,I T.length),(48,I j)],aY [(2,.cells (((T.take j).foldl (jr PL (a7 ahd)) (out,false)).1.map I) 3)],3⟩)
    (fun j=>j<=T.length) (fun j=>T.length - j) 0 (aE ⟨rfl,rfl,rfl,rfl,rfl,?_,?_,rfl,trivial⟩ eH) (Nat.zero_le _) ?_)
   .have e:((((0:Int)::T).length:Int) - 1).toNat=T.length:=by rw[VJ];omega
    show D.sl (List.take (((((0:Int)::T).length:Int) - 1).toNat*1) (List.map I T)) ((((0:Int)::T).length:Int) - 1).toNat=ax T;rw[e,Nat.mul_one,ax,List.take_of_length_le oS]
   .exact congrArg I (by rw[VJ];omega)
   intro j hj;have bC:∀ b,T[j]? =some b->(T.take (j+1)).foldl (jr PL (a7 ahd)) (out,false)=jr PL (a7 ahd) ((T.take j).foldl (jr PL (a7 ahd)) (out,false)) b:=fun b hb=>iG (f:=jr PL (a7 ahd)) hb;have fB:j=T.length->(T.take j).foldl (jr PL (a7 ahd)) (out,false)=qa PL (a7 ahd) T out:=fun e=>by rw[e,List.take_length];rfl
   obtain⟨VV,pl,hV⟩:=tM j hj;generalize (T.take j).foldl (jr PL (a7 ahd)) (out,false)=s at bC fB hV;obtain⟨o,fl⟩:=s;dsimp only at hV ⊢;obtain⟨Ly,DQ,Xf,VK,kX⟩:=hV;refine SS ?_;refine ab ⟨_,rfl,fun h=>?_,fun h=>?_⟩
   .have ao:j<T.length:=by simpa using h
    have Be:T[j]? =some T[j]:=List.getElem?_eq_getElem ao;have DR:=zh T[j] oS;generalize T[j]=b at Be DR;obtain⟨C,rfl⟩:=Int.eq_ofNat_of_zero_le DR.1;have gP:C<n:=DR.2;have J:=bC _ Be;have DT:jr PL (a7 ahd) (o,fl) (C:Int)=if bR o C=my PL o (a7 ahd C) then(o,fl) else(o.set C (my PL o (a7 ahd C)),true):=rfl
    rw[DT] at J;clear DT;refine ws ?_;refine au ?_;refine er ?_;refine SS ?_;have xh:ahd[C]? =some (a7 ahd C):=zK oG;have A0:=BS hg C;have br:=dT C;have so:=fun a=>(hg.nE C a).1;refine ab (aC (aw ?_));generalize a7 ahd C=l at xh A0 so J br
    have dM:∀ i,(l.take i).foldl (kP PL o) (-1)= -1\/∃ q:Nat,(l.take i).foldl (kP PL o) (-1)=q/\VV q:=fun i=>by
     exact VK (l.take i) fun a h=>A0 a (List.mem_of_mem_take h)
    refine aL ?_
    refine ab (bO (fun s=>Ghost prog s ⟨az [(0,.pt (bN f beh ahd c)),(3,ax (0::T)),(4,ax PL),(7,.rs 2 0 n),(8,B fl),(10,I C),(11,I (my PL o l)),(46,ax T),(47,I T.length),(48,I j)],aY [(2,.cells (o.map I) 3)],3⟩) (dK (α:=Nat)
     (fun i=>⟨az [(0,.pt (bN f beh ahd c)),(3,ax (0::T)),(4,ax PL),(7,.rs 2 0 n),(8,B fl),(10,I C),(11,I ((l.take i).foldl (kP PL o) (-1))),(46,ax T),(47,I T.length),(48,I j),(58,ax l),(59,I l.length),(60,I i)],aY [(2,.cells (o.map I) 3)],3⟩)
     (fun i=>i<=l.length) (fun i=>l.length - i) 0 (aE eH eH) (Nat.zero_le _) ?_) ?_)
    .intro i hi;have M:∀ a,l[i]? =some a->(l.take (i+1)).foldl (kP PL o) (-1)=kP PL o ((l.take i).foldl (kP PL o) (-1)) a:=fun a ha=>iG ha;have sm:i=l.length->(l.take i).foldl (kP PL o) (-1)=my PL o l:=fun e=>by rw[e,List.take_length];rfl
     have dM:=dM i;generalize (l.take i).foldl (kP PL o) (-1)=nx at dM M sm;refine SS ?_;refine ab ⟨_,rfl,fun h=>?_,fun h=>?_⟩
     .have hZ:i<l.length:=by simpa using h
      have ie:l[i]? =some l[i]:=List.getElem?_eq_getElem hZ;have Lz:=List.getElem_mem hZ;generalize l[i]=a at ie Lz;have di:=so a Lz;have M:=M a ie;obtain⟨U,rfl⟩:=Int.eq_ofNat_of_zero_le di.1;have vC:U<n:=di.2.1;refine ws ?_;refine au ?_;refine ab (aC (aj ?_))
      have Bf:o[U]? =some (bR o U):=by
       have:=List.getElem?_eq_getElem (show U<o.length by omega);rw[this];simp[bR,List.getD_eq_getElem?_getD,this]
      have kd:=fu (f:=I) Bf;have DT:kP PL o nx (U:Int)=if bR o U= -1 then nx else if nx= -1 then(U:Int) else tN PL o (2*PL.length) nx U:=rfl
      rw[DT] at M;clear DT;have LA:=Xf U;generalize bR o U=v at Bf kd M LA;refine aK ?_;refine ab (bh rfl (fun h=>kF (qj ?_)) fun h=>bS (aC (aj ?_)))
      .have hv:v= -1:=by simpa using h
       rw[if_pos hv] at M;refine af ?_;refine ab (aJ (i+1) (aE ⟨rfl,rfl,rfl,rfl,rfl,rfl,?_,rfl,rfl,rfl,rfl,rfl,rfl,trivial⟩ eH) oG oG);rw[M];rfl
      .have hv:¬ v= -1:=by simpa using h
       have va:=LA hv;rw[if_neg hv] at M;clear LA kd Bf;refine af ?_;refine ab (bh rfl (fun h=>aC (aj ?_)) fun h=>Ym ?_)
       .have hx:nx= -1:=by simpa using h
        rw[if_pos hx] at M;refine af ?_;refine ab (kF (qj ?_));refine af ?_;refine ab (aJ (i+1) (aE ⟨rfl,rfl,rfl,rfl,rfl,rfl,?_,rfl,rfl,rfl,rfl,rfl,rfl,trivial⟩ eH) oG oG);rw[M];rfl
       .have hx:¬ nx= -1:=by simpa using h
        rw[if_neg hx] at M;obtain⟨q,rfl,vq⟩:=dM.resolve_left hx;have M:(l.take (i+1)).foldl (kP PL o) (-1)=tN PL o (2*n) q U:=by rw[M,C']
        have hvq:=DQ q vq;have DU:=DQ U va
        refine uA (α:=Nat×Nat×Nat)
         (fun s=>⟨az [(0,.pt (bN f beh ahd c)),(3,ax (0::T)),(4,ax PL),(7,.rs 2 0 n),(8,B fl),(10,I C),(11,I s.2.1),(13,I s.2.2),(46,ax T),(47,I T.length),(48,I j),(58,ax l),(59,I l.length),(60,I i)],aY [(2,.cells (o.map I) 3)],3⟩)
         (fun s=>VV s.2.1/\VV s.2.2/\pl s.2.1+pl s.2.2<s.1/\(l.take (i+1)).foldl (kP PL o) (-1)=tN PL o s.1 s.2.1 s.2.2) (fun s=>s.1) (2*n,q,U)
         (aE eH eH) ⟨vq,va,by dsimp only;omega,M⟩ ?_
        clear vq va hvq DU M hv hx ie Lz di vC;rintro⟨k,x,a⟩ ⟨vx,va,sw,X⟩;dsimp only at vx va sw X ⊢;refine au ?_;refine ab ⟨_,rfl,fun h=>?_,fun h=>?_⟩
        .have aB:¬ (x:Int)=a:=by simpa using h
         obtain⟨k,rfl⟩:∃ k',k=k'+1:=⟨k - 1,by omega⟩
         rw[tN,if_neg aB] at X;have zi:=DQ x vx;have vC:=DQ a va;have kX:=kX x a vx va oG
         have LB:PL[x]? =some (lj PL x):=by
          have:=List.getElem?_eq_getElem (show x<PL.length by omega);rw[this];simp[lj,List.getD_eq_getElem?_getD,this]
         have tW:PL[a]? =some (lj PL a):=by
          have:=List.getElem?_eq_getElem (show a<PL.length by omega);rw[this];simp[lj,List.getD_eq_getElem?_getD,this]
         have gG:o[x]? =some (bR o x):=by
          have:=List.getElem?_eq_getElem (show x<o.length by omega);rw[this];simp[bR,List.getD_eq_getElem?_getD,this]
         have Bf:o[a]? =some (bR o a):=by
          have:=List.getElem?_eq_getElem (show a<o.length by omega);rw[this];simp[bR,List.getD_eq_getElem?_getD,this]
         generalize lj PL x=px at LB X kX;generalize lj PL a=pa at tW X kX;generalize bR o x=ox at gG X kX;generalize bR o a=oa at Bf X kX;refine dm Z1 ?_;refine aL ?_;refine bk (by simp[apartT]) (aq rfl (fun h=>dz ?_) fun h=>dz ?_)
         .have pF:pa<px:=by simpa using h
          rw[if_pos pF] at X kX;obtain⟨y,rfl,vy,hy⟩:=kX;have kd:=fu (f:=I) gG;refine aK ?_;refine ab (aJ (k,y,a) (aE eH eH) ⟨vy,va,by dsimp only;omega,X⟩ (Nat.lt_succ_self _))
         .have pF:¬ pa<px:=by simpa using h
          rw[if_neg pF] at X kX;obtain⟨y,rfl,vy,hy⟩:=kX;have kd:=fu (f:=I) Bf;refine aK ?_;refine ab (aJ (k,x,y) (aE eH eH) ⟨vx,vy,by dsimp only;omega,X⟩ (Nat.lt_succ_self _))
        .have he:(x:Int)=a:=by simpa using h
         have hr:(l.take (i+1)).foldl (kP PL o) (-1)=x:=by
          rw[X];cases k with
          |zero=>rfl
          |succ k=>rw[tN,if_pos he]
         refine af ?_;refine ab (aJ (i+1) (aE ⟨rfl,rfl,rfl,rfl,rfl,rfl,?_,rfl,rfl,rfl,rfl,rfl,rfl,trivial⟩ eH) oG oG);rw[hr];rfl
     .have aX:¬ i<l.length:=by simpa using h
      have:=sm oG;subst this;exact av eH
    rintro s jy;refine⟨_,jy,aj ?_⟩
    have VL:o[C]? =some (bR o C):=by
     have:=List.getElem?_eq_getElem (show C<o.length by omega);rw[this];simp[bR,List.getD_eq_getElem?_getD,this]
    have kd:=fu (f:=I) VL;generalize bR o C=v at VL kd J;generalize my PL o l=q at J;refine bD ?_;refine ab (aq rfl (fun h=>dz ?_) fun h=>cg ?_)
    .have aB:¬ v=q:=by simpa using h
     rw[if_neg aB] at J;refine bD ?_;refine ab ?_;refine af ?_;refine ab (aJ (j+1) (aE ⟨rfl,rfl,rfl,rfl,?_,rfl,rfl,rfl,trivial⟩ ⟨?_,trivial⟩) oG oG)
     .rw[J];rfl
     .rw[J,List.map_set];rfl
    .have aB:v=q:=by simpa using h
     rw[if_pos aB] at J;refine af ?_;refine ab (aJ (j+1) (aE ⟨rfl,rfl,rfl,rfl,?_,rfl,rfl,rfl,trivial⟩ ⟨?_,trivial⟩) oG oG)
     .rw[J];rfl
     .rw[J];rfl
   .have aX:¬ j<T.length:=by simpa using h
    have hl:=fB oG;rw[List.tail_cons, <- hl] at eL pP;dsimp only at eL pP;have hL:True->o.length=n:=fun _=>Ly;clear VK kX bC fB DQ Xf tM;cases fl with
    |true=>exact aJ (k - 1,o,true) (aE eH eH) ⟨Ly,fun _=>eL rfl,fun h=>by cases h⟩ (by dsimp only;rw[h0];simp;omega)
    |false=>exact aJ (0,o,false) (aE eH eH) ⟨Ly,fun h=>Bool.noConfusion h,fun _=>(pP rfl).1⟩ (by dsimp only;rw[h0];simp)
  .have:=wJ h;subst this;exact⟨aE eH eH,VH⟩
 rintro s ⟨sC,Xg⟩;refine⟨_,sC,aw ?_⟩;have DG:F[0]? =some (F[0]'oG):=List.getElem?_eq_getElem oG;refine au ?_;refine ab (aO (gQ (i:=2) (e:=3) (cs:=(F.set 0 (-1)).map I) (l:=[(7,ax (F.set 0 (-1)))]) (ml:=[]) ?_ ⟨?_,trivial⟩ trivial) (aj ?_))
 .rw[List.map_set];rfl
 .exact(iY (by rw[c3];simp[Xg])).trans (by rw[ax,List.length_set,Xg])
 refine af ?_;refine ab (ay rfl rfl)
end Go.Proofs.Tryz.K
namespace Go.Argus
theorem Y6{aM:List Int}{a x:Int}(h:¬ (x≠ -1/\x≠a)):∀ k,gy aM k a x=decide (x=a)
 |0=>rfl
 |k+1=>by rw[gy,if_neg h]
def vg(beh:Nat->List Int)(n k:Nat)(x:Int):Prop:=x= -1\/∃ m:Nat,x=m/\bj beh n m/\cv beh n m<k
theorem HJ{beh ahd:Nat->List Int}{n:Nat}(h:nk beh ahd n)(k:Nat)(x:Int)(hx:vg beh n k x)(M:x≠ -1):
 ∃ m j:Nat,x=m/\m<(bM beh ahd n).length/\k=j+1/\vg beh n j (bR (bM beh ahd n) m):=by
 obtain⟨m,rfl,J,hk⟩:=hx.resolve_left M;refine⟨m,k - 1,rfl,by rw[MB h];exact oK h J,by omega,?_⟩;by_cases C:m=0
 .subst C;exact .inl (xO h)
 .obtain⟨U,X,p3⟩:=Ab h J C;exact .inr ⟨_,U,X,by omega⟩
def aD(f:aF):Nat->List Int:=a7 (cm f)
def bu(f:aF):Nat->List Int:=a7 (cC f.blocks)
theorem E6{f:aF}{c:Nat}(h:c<f.blocks.length):bu f c=bA f.blocks f.blocks.length c:=by
 unfold bu a7;rw[List.getD_eq_getElem?_getD,Hu rfl h];rfl
theorem Ia{f:aF}{c:Nat}(h:f.blocks.length<=c):bu f c=[]:=by
 unfold bu a7;rw[List.getD_eq_getElem?_getD,List.getElem?_eq_none (by simp[cC];omega)];rfl
theorem tO{f:aF}(h:lD f):nk (aD f) (bu f) f.blocks.length:=by
 refine⟨h.pos,Go.Proofs.Tryz.K.beh_in h,fun c a=>?_⟩;rcases Nat.lt_or_ge c f.blocks.length with g|g
 .rw[E6 g,Bt];constructor
  .rintro⟨b,rfl,hb,x,hx,t,ht,e⟩;refine⟨by omega,hb,?_⟩;show(c:Int)∈a7 (cm f) _;rw[Int.toNat_natCast,vT hx];have:=Go.Proofs.Tryz.K.beh_in h b t (by rw[vT hx];exact ht);have e2:(c:Int)=t:=by omega
   rw[e2];exact ht
  .rintro⟨h0,hl,hm⟩;obtain⟨b,rfl⟩:=Int.eq_ofNat_of_zero_le h0;rw[Int.toNat_natCast] at hl hm;have hx:=List.getElem?_eq_getElem hl;have hm:(c:Int)∈a7 (cm f) b:=hm;rw[vT hx] at hm;exact⟨b,rfl,hl,_,hx,c,hm,by omega⟩
 .rw[Ia g];refine⟨fun x=>by simp at x,fun⟨_,_,hm⟩=>?_⟩;have:=(Go.Proofs.Tryz.K.beh_in h _ _ hm).2;omega
theorem BH{f:aF}(h:lD f)(b:Nat):(bu f b).length<=100000:=by
 rcases Nat.lt_or_ge b f.blocks.length with g|g
 .rw[E6 g];have:=Ep (bs:=f.blocks) (fun b hb=>by have:=(h.ends b hb).wh;omega) f.blocks.length b;have:=h.gO;omega
 .rw[Ia g];simp
def mT(l:List Int):Prop:=∀ (i j:Nat) x y,i<=j->l[i]? =some x->l[j]? =some y->x<=y
theorem acx{l:List Int}{k:Nat}(h:¬ l.getD (k+1) 0<l.getD k 0):mB l (k+1)=l:=by rw[mB,if_neg h]
theorem Ot{l:List Int}(h:mT l):∀ k,k<l.length->kN l k=l
 |0,_=>rfl
 |k+1,hk=>by
  rw[kN,Ot h k oG];refine acx fun ao=>?_;have ha:l[k+1]? =some l[k+1]:=List.getElem?_eq_getElem hk;have hb:l[k]? =some l[k]:=List.getElem?_eq_getElem oG;have:=h k (k+1) _ _ oG hb ha;rw[List.getD_eq_getElem?_getD,List.getD_eq_getElem?_getD,ha,hb] at ao;simp only[Option.getD_some] at ao;omega
theorem abp{l:List Int}(h:mT l):eN l=l:=by
 unfold eN;cases l with
 |nil=>rfl
 |cons a l=>exact Ot h _ oS
end Go.Argus
namespace Go.Proofs.Tryz.K
set_option maxRecDepth 10000
theorem xy{aM:List Int}{a b:Int}{k0:Nat}(P:Nat->Int->Prop)(h0:P k0 b)(U:∀ k x,P k x->x≠ -1->∃ m j:Nat,x=m/\m<aM.length/\k=j+1/\P j (bR aM m)):
 PCall prog 87 [ax aM,I a,I b] (B (gy aM k0 a b)):=by
 refine a9 mixed VM (by rw[amm];rfl) (.cons (cB _) (.cons (.s _) (.cons (.s _) .nil))) (Tr.s _) ?_;rw[amn,amo];refine aw ?_;refine SS ?_
 refine ab (bO (fun s=>∃ x:Int,Ghost prog s ⟨az [(1,I a),(2,I x)],fun _=>none,0⟩/\gy aM k0 a b=decide (x=a)) (uA (α:=Nat×Int) (fun s=>⟨az [(0,ax aM),(1,I a),(2,I s.2)],fun _=>none,0⟩)
  (fun s=>P s.1 s.2/\gy aM k0 a b=gy aM s.1 a s.2) (fun s=>s.1) (k0,b) (av eH) ⟨h0,rfl⟩ ?_) ?_)
 .rintro⟨k,x⟩ ⟨M,hR⟩;dsimp only at M hR ⊢;refine c8 ?_;refine ab ⟨_,rfl,fun h=>?_,fun h=>?_⟩
  .have hx:x≠ -1/\x≠a:=by simpa using h
   obtain⟨m,j,rfl,hm,rfl,J⟩:=U k x M hx.1;rw[gy,if_pos hx] at hR
   have C:aM[m]? =some (bR aM m):=by
    have:=List.getElem?_eq_getElem hm;rw[this];simp[bR,List.getD_eq_getElem?_getD,this]
   generalize bR aM m=y at C J hR;refine dz ?_;refine aK ?_;refine ab (aJ (j,y) (av eH) ⟨J,hR⟩ (Nat.lt_succ_self _))
  .have hx:¬ (x≠ -1/\x≠a):=by simpa using h
   exact⟨x,av eH,hR.trans (Y6 hx k)⟩
 .rintro s ⟨x,hg,hR⟩;refine⟨_,hg,aj ?_⟩;refine aP ?_;refine ab (ay rfl ?_);show B (x==a)=_;rw[hR];exact congrArg B (by by_cases e:x=a<;>simp[e])
theorem Ku{f:aF}(h:lD f){c:D}(hc:Tr c)(fF:c.one=true):PCall prog 60 [.pt (bN f (cm f) (cC f.blocks) c)] (ax (bM (aD f) (bu f) f.blocks.length)):=
 jB hc fF (by simp[cm]) (by simp[cC]) rfl h.gO (tO h) (IJ h) (BH h)
theorem vh{l:List Int}{a b:Nat}(U:mT l)(M:a<=b)(hb:b<l.length):PCall prog 251 [ax l,I a,I b,.pt [I 0]] (.tup [I a,I b]):=by
 refine a9 mixed T0 (by rw[ag3];rfl) (.cons (cB _) (.cons (.s _) (.cons (.s _) (.cons (.pt (.cons (.s _) .nil)) .nil)))) (.tup (.cons (.s _) (.cons (.s _) .nil))) ?_;rw[ag4,ag5];have ha:l[a]? =some l[a]:=List.getElem?_eq_getElem oG;have C:l[b]? =some l[b]:=List.getElem?_eq_getElem hb;have J:=U a b _ _ M ha C;generalize l[a]=x at ha J;generalize l[b]=y at C J;have u7:=u7 (a:=y) (b:=x);have e:decide (y<x)=false:=by simp;omega
 rw[e] at u7;clear e;refine ws ?_;refine af ?_;refine ab (aC (dm Z2 ?_));refine bF ?_;refine cl u7 ?_;refine bk (by simp[apartT]) (bh rfl (fun h=>oH) fun _=>bS (aj ?_));refine aP ?_;exact ab (j6 rfl rfl rfl)
theorem rY{l:List Int}{a b c:Nat}(C:mT l)(M:a<=b)(J:b<=c)(hc:c<l.length):PCall prog 226 [ax l,I a,I b,I c,.pt [I 0]] (I b):=by
 refine a9 mixed T1 (by rw[ag6];rfl) (.cons (cB _) (.cons (.s _) (.cons (.s _) (.cons (.s _) (.cons (.pt (.cons (.s _) .nil)) .nil))))) (.s _) ?_;rw[ag7,ag8];have U:=vh C J hc;have vh:=vh C M oG;have X:=vh;refine ws ?_;refine SS ?_;refine er ?_;refine aP ?_;refine cl vh ?_;refine aK ?_;refine er ?_;have vh:=U;refine aP ?_;refine cl vh ?_;refine aK ?_;refine er ?_;have vh:=X;refine aP ?_;refine cl vh ?_;refine aK ?_;refine er ?_;refine af ?_;exact ab (ay rfl rfl)
theorem yI{l:List Int}{a:Nat}(C:mT l)(h0:0<a)(hc:a+1<l.length)(hn:l.length<=100000):PCall prog 225 [ax l,I a,.pt [I 0]] (I a):=by
 refine a9 mixed T2 (by rw[ag9];rfl) (.cons (cB _) (.cons (.s _) (.cons (.pt (.cons (.s _) .nil)) .nil))) (.s _) ?_;rw[ag',aha]
 have rY:PCall prog 226 [ax l,I ((a:Int) - 1),I a,I ((a:Int)+1),.pt [I 0]] (I a):=by
  have:=rY (a:=a - 1) (b:=a) (c:=a+1) C oG oG hc
  rwa[show((a - 1:Nat):Int)=(a:Int) - 1 by omega,show((a+1:Nat):Int)=(a:Int)+1 by omega] at this
 refine ws ?_;refine SS ?_;refine er ?_;refine c8 ?_;refine cl rY ?_;refine SS ?_;exact ab (ay rfl rfl)
theorem Kv{l:List Int}{n:Nat}(J:mT l)(hn:l.length=n)(X:12<n)(hl:n<=100000):∃ p:Int,PCall prog 181 [ax l,I 0,I n] (.tup [I p,I 1]):=by
 obtain⟨q,hq⟩:∃ q,n / 4=q:=⟨_,rfl⟩
 have fk:3<=q:=by omega
 have U:4*q<=n:=by omega
 have F1:IntKind.i64.wrap (((n:Int) - 0).tdiv 4)=(q:Int):=by
  rw[Int.sub_zero,Int.tdiv_eq_ediv_of_nonneg oG,show(n:Int) / 4=q by omega];exact i64_in _ oG
 refine⟨(2*q:Nat),?_⟩;refine a9 mixed T3 (by rw[ahb];rfl) (.cons (cB _) (.cons (.s _) (.cons (.s _) .nil))) (.tup (.cons (.s _) (.cons (.s _) .nil))) ?_;rw[ahc,ahe];refine ws ?_;refine af ?_;refine er ?_;refine aP ?_;refine ab (aw ?_);refine SS ?_;refine ab (aO (bw [(0,[I 0],3)] eH (l:=[(0,ax l),(1,I 0),(8,I ((n:Int) - 0)),(9,.pt [I 0])]) eH) (aj ?_));refine au ?_;refine aH (I3 rfl rfl (r:=((q:Nat):Int)) oG) (by repeat' (first|exact trivial|exact rfl|refine And.intro ?_ ?_)) rfl ?_;refine af ?_;refine er ?_;refine au ?_;refine aH (I3 rfl rfl (r:=((2*q:Nat):Int)) oG) (by repeat' (first|exact trivial|exact rfl|refine And.intro ?_ ?_)) rfl ?_;refine af ?_;refine er ?_;refine au ?_;refine aH (I3 rfl rfl (r:=((3*q:Nat):Int)) oG) (by repeat' (first|exact trivial|exact rfl|refine And.intro ?_ ?_)) rfl ?_;refine af ?_;refine ab (aC (aj ?_));clear F1
 have rY:∀ a b c:Int,a=q->b=(2*q:Nat)->c=(3*q:Nat)->PCall prog 226 [ax l,I a,I b,I c,.pt [I 0]] (I ((2*q:Nat):Int)):=fun a b c e1 e2 e3=>by
  subst e1 e2 e3;exact rY J oG oG oG
 have C:∀ a:Nat,0<a->a+1<n->PCall prog 225 [ax l,I (0+(a:Int)),.pt [I 0]] (I a):=fun a h0 h1=>by
  rw[Int.zero_add];exact yI J h0 oG oG
 have wF:decide ((8:Int)<=(n:Int) - 0)=true:=by simp;omega
 refine af ?_;refine ab (bh rfl (fun _=>aC (aC (aj ?_))) fun h=>oH);clear wF;by_cases M:50<=n
 .have wF:decide ((50:Int)<=(n:Int) - 0)=true:=by simp;omega
  refine af ?_;refine ab (bh rfl (fun _=>aC (aj ?_)) fun h=>oH);clear wF;have yI:=C q oG oG;refine af ?_;refine cl yI ?_;refine SS ?_;refine ab (aC (aj ?_));have yI:=C (2*q) oG oG;refine af ?_;refine cl yI ?_;refine SS ?_;refine er ?_;have yI:=C (3*q) oG oG;refine af ?_;refine cl yI ?_;refine SS ?_;refine er ?_;have rY:=rY _ _ _ rfl rfl rfl;refine aP ?_;refine cl rY ?_;refine SS ?_;refine er ?_;refine SS ?_;refine ab (ja (aj ?_));refine af ?_;refine ab (aq rfl (fun _=>aj ?_) fun h=>oH);refine au ?_;exact ab (aV (bx (j6 rfl rfl rfl)))
 .have wF:decide ((50:Int)<=(n:Int) - 0)=false:=by simp;omega
  refine af ?_;refine ab (bh rfl (fun h=>oH) fun _=>bS (aj ?_));clear wF;have rY:=rY (0+(q:Nat)) (0+(2*q:Nat)) (0+(3*q:Nat)) oG oG oG;refine aP ?_;refine cl rY ?_;refine SS ?_;refine er ?_;refine SS ?_;refine ab (ja (aj ?_));refine af ?_;refine ab (aq rfl (fun _=>aj ?_) fun h=>oH);refine au ?_;exact ab (aV (bx (j6 rfl rfl rfl)))
theorem Kw{l:List Int}{n:Nat}(J:mT l)(hn:l.length=n)(h1:0<n)(hl:n<=100000):PCall prog 183 [ax l,I 0,I n] (B true):=by
 refine a9 mixed T4 (by rw[ahf];rfl) (.cons (cB _) (.cons (.s _) (.cons (.s _) .nil))) (.s _) ?_;rw[ahg,ahh];refine ws ?_;refine SS ?_;refine er ?_;refine au ?_;refine ab (aC (aw ?_));refine SS ?_;refine ab (bO (fun _=>False) (b8 (α:=Unit) (fun _=>⟨az [(0,ax l),(1,I 0),(2,I n),(7,I ((1:Nat):Int)),(8,I 0)],fun _=>none,0⟩) (fun _=>True) (fun _=>0) () (av eH) trivial ?_) fun s h=>h.elim);intro _ _;refine af ?_;refine ab ⟨_,rfl,fun _=>?_,fun h=>oH⟩;refine dE (fun s=>Ghost prog s ⟨az [(2,I n),(7,I n)],fun _=>none,0⟩) (abo Z3 (α:=Nat) (fun k=>⟨az [(14,B true),(13,I 0),(0,ax l),(1,I 0),(2,I n),(7,I k),(8,I 0)],fun _=>none,0⟩) (fun k=>1<=k/\k<=n) (fun k=>n - k) 1 rfl ⟨Nat.le_refl _,h1⟩ ?_) ?_
 .rintro k ⟨M,hk⟩;by_cases ao:k<n
  .have tI:decide ((k:Int)<(n:Int))=true:=by simpa using ao
   have uW:(k:Int) - 1=((k - 1:Nat):Int)/\ -9223372036854775808<=((k - 1:Nat):Int)/\((k - 1:Nat):Int)<=9223372036854775807:=by omega
   have ha:l[k]? =some l[k]:=List.getElem?_eq_getElem oG;have hb:l[k - 1]? =some l[k - 1]:=List.getElem?_eq_getElem oG;have C:=J (k - 1) k _ _ oG hb ha;generalize l[k]=x at ha C;generalize l[k - 1]=y at hb C;have u7:=u7 (a:=x) (b:=y);have e:decide (x<y)=false:=by simp;omega
   rw[e] at u7;clear e;refine aL ?_;refine aP ?_;refine gc u7 ?_;refine af ?_;refine bk (by simp[apartT]) ⟨_,rfl,fun h=>?_,fun h=>oH⟩;refine dz ?_;refine au ?_;refine ab (aJ (k+1) (av eH) ⟨by omega,by omega⟩ oG)
  .have tI:decide ((k:Int)<(n:Int))=false:=by simpa using ao
   have:k=n:=by omega
   subst this;refine aP ?_;(iterate 11 refine z fun _ _=>?_);refine SS ?_;refine bk (by simp[apartT]) ⟨_,rfl,fun h=>oH,fun h=>?_⟩;exact av eH
 .rintro s hg;refine⟨_,hg,aC (aj ?_)⟩;have fh:((n:Int)==n)=true:=by simp
  refine au ?_;refine ab (bh rfl (fun h=>?_) fun h=>oH);refine aC (aj ?_);refine SS ?_;exact ab (cU (cq (aT (ay rfl rfl))))
noncomputable def Rq(n:Nat):Bool:=match yk prog Lf (yX prog Lf 100) 152 [.s (.int .u64 (IntKind.u64.wrap (n:Int)))] with
 |some (.inl (.s (.int .i64 r)))=>r !=0
 |_=>false
theorem Z4:(List.range 600).all (fun n=>Rq (n+1))=true:=kr
theorem ahi{n:Nat}(h0:0<n)(hn:n<=600):∃ r:Int,r≠0/\PCall prog 152 [.s (.int .u64 (IntKind.u64.wrap (n:Int)))] (I r):=by
 have h:=List.all_eq_true.1 Z4 (n - 1) (List.mem_range.2 oG);rw[show n - 1+1=n by omega] at h;unfold Rq at h;split at h
 .rename_i r hr;exact⟨r,by simpa using h,jW lA 100 rfl hr⟩
 .cases h
theorem ahj{m:Mem}{nx i n:Nat}{l:List Int}{gO:Int}(U:gO≠0)(hm:m i=some (.cells (l.map I) 3))(C:mT l)(hl:l.length=n)(hn:12<n)(J:n<=100000):
 ACalls prog 151 [.rs i 0 n,I 0,I n,I gO] m nx (fun r m' nx'=>r=.tup []/\nx'=nx/\m'=m):=by
 refine pX mixed JD (by rw[Tp];rfl) ?_;rw[Tq,Ts];obtain⟨p,Kv⟩:=Kv C hl hn J;have Kw:=Kw C hl oG J;have M:Sns prog [i] m [.rs i 0 n,I 0,I n] [ax l,I 0,I n]:=⟨by rw[ax,hl];exact FI hm oS (by rw[c3,List.drop_zero,Nat.mul_one,List.take_of_length_le (by simp[hl])]) (.map fun _=>.s _),cD (.s _),cD (.s _),trivial⟩
 refine ws ?_;refine SS ?_;refine ab (aw ?_);refine SS ?_;refine ab ⟨_,av (l:=[(0,.rs i 0 n),(1,I 0),(2,I n),(3,I gO),(8,B true),(9,B true)]) eH,ja (Iw (fun s=>s=⟨az [(0,.rs i 0 n),(1,I 0),(2,I n),(3,I gO),(8,B true),(9,B true)],m,nx⟩) (fun _=>0) rfl fun s C=>?_)⟩;subst C;refine ja (aj ?_);refine aP ?_;refine ab (aC (aj ?_));refine af ?_;refine ab (bh rfl (fun h=>?_) fun h=>bS (aC (aj ?_)))
 .have:(n:Int) - 0<=12:=by simpa using h
  omega
 have fh:(gO==0)=false:=by simpa using U
 refine af ?_;refine ab (bh rfl (fun h=>oH) fun _=>bS (aC (aj ?_)));clear fh;refine af ?_;refine ab (bh rfl (fun h=>oH) fun _=>bS (aj ?_));refine au ?_;refine S6 Kv rfl M rfl (by repeat' (first|exact trivial|exact rfl|refine And.intro ?_ ?_)) ?_;refine aK ?_;refine ab (aC (aj ?_));refine af ?_;refine ab (bh rfl (fun h=>oH) fun _=>bS (aC (aj ?_)));refine bF ?_;refine ab (bh rfl (fun _=>aC (aj ?_)) fun h=>oH);refine au ?_;refine S6 Kw rfl M rfl (by repeat' (first|exact trivial|exact rfl|refine And.intro ?_ ?_)) ?_;refine ab (bh rfl (fun _=>cU ?_) fun h=>oH);exact bx (aT (bx (qf ⟨rfl,rfl,rfl⟩)))
theorem amp{m:Mem}{nx i n:Nat}{l:List Int}(hi:i<nx)(hm:m i=some (.cells (l.map I) 3))(C:mT l)(hl:l.length=n)(hn:n<=600):
 ACalls prog 89 [.rs i 0 n] m nx (fun r m' nx'=>r=.tup []/\nx'=nx/\m'=m):=by
 by_cases J:n<=12
 .refine(DE hi hm hl J).mono ?_;rintro r m' nx' ⟨h1,h2,h3⟩;refine⟨h1,h2,?_⟩;rw[h3,abp C];funext j;simp only[up];split
  .rename_i e;rw[e,hm]
  .rfl
 refine pX mixed Kg (by rw[Vh];rfl) ?_;rw[Vi,Vj];obtain⟨gO,M,CT⟩:=ahi (n:=n) oG hn;have aA:=hm;refine ws ?_;refine au ?_;refine ab (fe ?_);refine au ?_;refine aH (QY rfl V.h) ak V.h ?_;refine cl CT ?_;refine m7 (ahj M hm C hl oG oG) rfl (by repeat' (first|exact trivial|exact rfl|refine And.intro ?_ ?_)) fun r m' nx' hp=>?_;obtain⟨rfl,rfl,rfl⟩:=hp;exact ab (qg ⟨rfl,rfl,rfl⟩)
end Go.Proofs.Tryz.K
end
namespace Go.Argus
open Go Go.Abs
def rZ(b:Int)(L:Nat->List Int)(x:Nat):Nat->List Int:=up L x (L x++[b])
def uI(aM:List Int)(stop b:Int):Nat->(Nat->List Int)->Int->(Nat->List Int)
 |0,L,_=>L
 |k+1,L,x=>if x≠ -1/\x≠stop then uI aM stop b k (rZ b L x.toNat) (bR aM x) else L
def kB(cnt:List Bool)(aM:List Int)(n:Nat)(b:Int)(L:Nat->List Int)(a:Int):Nat->List Int:=
 if cnt.getD a.toNat false=true then uI aM (bR aM b) b (n+1) L a else L
def lk(cnt:List Bool)(aM:List Int)(ahd:Nat->List Int)(n:Nat)(L:Nat->List Int)(b:Int):Nat->List Int:=(ahd b.toNat).foldl (kB cnt aM n b) L
def uj(cnt:List Bool)(aM:List Int)(ahd:Nat->List Int)(n:Nat):Nat->List Int:=(allI cnt n).foldl (lk cnt aM ahd n) fun _=>[]
def qm(cnt:List Bool)(aM:List Int)(ahd:Nat->List Int)(n:Nat):List (List Int):=(List.range n).map fun i=>eD (uj cnt aM ahd n i)
theorem O4(b:Int)(L:Nat->List Int)(x:Nat):rZ b L x x=L x++[b]:=by simp[rZ,up]
theorem E8(b:Int)(L:Nat->List Int){x i:Nat}(h:i≠x):rZ b L x i=L i:=by simp[rZ,up,h]
section
variable{beh ahd:Nat->List Int}{n:Nat}(h:nk beh ahd n)
include h
def xZ(N:Nat->Nat)(stop x:Int)(i:Nat):Prop:=0<=x/\bE N i x.toNat/\¬ (0<=stop/\bE N i stop.toNat)
theorem OC{b stop:Int}(U:stop= -1\/∃ s:Nat,stop=s/\bj beh n s):∀ (k q:Nat) (x:Int) (L:Nat->List Int),vg beh n q x->q<=k->
 (∀ s:Nat,stop=s->0<=x->bE (kD beh ahd n) s x.toNat)->∀ i,
 (uI (bM beh ahd n) stop b k L x i=L i/\¬ xZ (kD beh ahd n) stop x i)\/
 (uI (bM beh ahd n) stop b k L x i=L i++[b]/\xZ (kD beh ahd n) stop x i/\bj beh n i/\cv beh n i<q)
 |0,q,x,L,hx,hq,_,i=>by
  rcases hx with rfl|⟨m,rfl,_,hm⟩
  .exact .inl ⟨rfl,fun hc=>by have:=hc.1;omega⟩
  .omega
 |k+1,q,x,L,hx,hq,hs,i=>by
  have ht:=zZ h;rw[uI];by_cases hc:x≠ -1/\x≠stop
  .rw[if_pos hc];obtain⟨m,rfl,M,hm⟩:=hx.resolve_left hc.1;rw[Int.toNat_natCast]
   have ky:¬ (0<=stop/\bE (kD beh ahd n) m stop.toNat):=fun⟨h0,ha⟩=>by
    obtain⟨s,rfl,rs⟩:=U.resolve_left oG;rw[Int.toNat_natCast] at ha;have h1:=(ht.low M (hs s rfl oG)).2;have h2:=(ht.low rs ha).2;rcases h1 with h1|h1
    .exact hc.2 (by rw[h1])
    .rcases h2 with h2|h2
     .exact hc.2 (by rw[h2])
     .omega
   have vn:vg beh n (cv beh n m) (bR (bM beh ahd n) m)/\(∀ j,bE (kD beh ahd n) j m↔j=m\/(0<=bR (bM beh ahd n) m/\bE (kD beh ahd n) j (bR (bM beh ahd n) m).toNat)):=by
    by_cases X:m=0
    .subst X;refine⟨.inl (xO h),fun j=>?_⟩;rw[xO h];refine⟨fun ha=>.inl (ha.zero ht.kC rfl),fun ha=>?_⟩;rcases ha with rfl|⟨h0,_⟩
     .exact .refl _
     .omega
    .obtain⟨p1,p2,p3⟩:=Ab h M X;rw[p1];refine⟨.inr ⟨_,rfl,p2,p3⟩,fun j=>?_⟩;rw[Int.toNat_natCast];refine⟨fun ha=>?_,fun ha=>?_⟩
     .rcases ha.inv with e|ha
      .exact .inl e
      .exact .inr ⟨by omega,ha⟩
     .rcases ha with rfl|⟨_,ha⟩
      .exact .refl _
      .exact .up ha
   obtain⟨u1,u2⟩:=vn
   have dH:∀ s:Nat,stop=s->0<=bR (bM beh ahd n) m->bE (kD beh ahd n) s (bR (bM beh ahd n) m).toNat:=fun s e h0=>by
    have:=hs s e oG;rw[Int.toNat_natCast] at this;rcases(u2 s).1 this with e2|⟨_,ha⟩
    .exact absurd (by rw[e,e2]) hc.2
    .exact ha
   have J:∀ j,xZ (kD beh ahd n) stop (m:Int) j↔(j=m\/xZ (kD beh ahd n) stop (bR (bM beh ahd n) m) j):=fun j=>by
    unfold xZ;rw[Int.toNat_natCast,u2 j];constructor
    .rintro⟨_,e|⟨h0,ha⟩,hn⟩
     .exact .inl e
     .exact .inr ⟨h0,ha,hn⟩
    .rintro(rfl|⟨h0,ha,hn⟩)
     .exact⟨by omega,.inl rfl,ky⟩
     .exact⟨by omega,.inr ⟨h0,ha⟩,hn⟩
   rcases OC U k (cv beh n m) (bR (bM beh ahd n) m) (rZ b L m) u1 oG dH i with⟨h1,h2⟩|⟨h1,h2,h3,h4⟩
   .by_cases e:i=m
    .subst e;refine .inr ⟨by rw[h1,O4],(J i).2 (.inl rfl),M,hm⟩
    .refine .inl ⟨by rw[h1,E8 _ _ e],fun C=>?_⟩;rcases(J i).1 C with e'|C
     .exact e e'
     .exact h2 C
   .have e:i≠m:=fun e=>by subst e;omega
    exact .inr ⟨by rw[h1,E8 _ _ e],(J i).2 (.inr h2),h3,by omega⟩
  .rw[if_neg hc];refine .inl ⟨rfl,fun⟨h0,ha,hn⟩=>?_⟩;have e:x=stop:=Classical.byContradiction fun aB=>hc ⟨by omega,aB⟩;exact hn (by rw[<- e];exact⟨h0,ha⟩)
def Ja(beh:Nat->List Int)(n i b:Nat):Prop:=∃ a,fU beh a b/\bj beh n a/\gB beh i a/\(i=b\/¬ gB beh i b)
theorem ME{a b i:Nat}(ra:bj beh n a)(M:bj beh n b)(e:fU beh a b):xZ (kD beh ahd n) (bR (bM beh ahd n) b) (a:Int) i↔(gB beh i a/\(i=b\/¬ gB beh i b)):=by
 have ht:=zZ h;unfold xZ;rw[Int.toNat_natCast,v9 h ra]
 have key:(¬ (0<=bR (bM beh ahd n) b/\bE (kD beh ahd n) i (bR (bM beh ahd n) b).toNat))↔(i=b\/¬ gB beh i b):=by
  rw[<- v9 h M];by_cases J:b=0
  .subst J;rw[xO h];refine⟨fun _=>?_,fun _ hn=>by omega⟩;by_cases C:i=0
   .exact .inl C
   .exact .inr fun ha=>C (ha.zero ht.kC rfl)
  .obtain⟨U,X,p3⟩:=Ab h M J;rw[U,Int.toNat_natCast];constructor
   .intro hn;by_cases C:i=b
    .exact .inl C
    .refine .inr fun ha=>?_;rcases ha.inv with e'|ha
     .exact C e'
     .exact hn ⟨by omega,ha⟩
   .rintro hn ⟨_,ha⟩;rcases hn with rfl|hn
    .rcases(ht.low X ha).2 with e'|e'
     .rw[<- e'] at p3;omega
     .omega
    .exact hn (.up ha)
 rw[key];exact⟨fun⟨_,x,y⟩=>⟨x,y⟩,fun⟨x,y⟩=>⟨by omega,x,y⟩⟩
theorem adV{a b:Nat}(M:bj beh n b)(e:fU beh a b)(L:Nat->List Int)(i:Nat):
 (kB (a8 beh n (-1)) (bM beh ahd n) n b L a i=L i/\¬ (bj beh n a/\gB beh i a/\(i=b\/¬ gB beh i b)))\/
 (kB (a8 beh n (-1)) (bM beh ahd n) n b L a i=L i++[(b:Int)]/\bj beh n a/\gB beh i a/\(i=b\/¬ gB beh i b)):=by
 unfold kB;rw[Int.toNat_natCast];by_cases U:(a8 beh n (-1)).getD a false=true
 .rw[if_pos U];have C:bj beh n a:=U;have iC:=rD h C;have kW:=qk h
  have aU:bR (bM beh ahd n) b= -1\/∃ s:Nat,bR (bM beh ahd n) b=s/\bj beh n s:=by
   by_cases J:b=0
   .subst J;exact .inl (xO h)
   .obtain⟨p1,p2,_⟩:=Ab h M J;exact .inr ⟨_,p1,p2⟩
  have X:∀ s:Nat,bR (bM beh ahd n) b=s->0<=(a:Int)->bE (kD beh ahd n) s (a:Int).toNat:=fun s es _=>by
   rw[Int.toNat_natCast];by_cases J:b=0
   .subst J;rw[xO h] at es;omega
   .obtain⟨p1,_,_⟩:=Ab h M J;have:s=kD beh ahd n b:=by omega
    subst this;exact(xY h).2 b M J a e C
  rcases OC h (b:=(b:Int)) aU (n+1) (n+1) (a:Int) L (.inr ⟨a,rfl,C,by omega⟩) (Nat.le_refl _) X i with⟨h1,h2⟩|⟨h1,h2,_⟩
  .exact .inl ⟨h1,fun⟨_,hc⟩=>h2 ((ME h C M e).2 hc)⟩
  .exact .inr ⟨h1,C,(ME h C M e).1 h2⟩
 .rw[if_neg U];exact .inl ⟨rfl,fun hc=>U hc.1⟩
theorem adW{b:Nat}(J:bj beh n b)(L:Nat->List Int)(i:Nat):∀ l:List Int,(∀ a∈l,a∈ahd b)->
 ∃ c,c<=l.length/\l.foldl (kB (a8 beh n (-1)) (bM beh ahd n) n b) L i=L i++List.replicate c (b:Int)/\
  (0<c↔∃ a:Nat,(a:Int)∈l/\bj beh n a/\gB beh i a/\(i=b\/¬ gB beh i b)):=fun l=>by
 induction l using s7 with
 |h0=>exact fun _=>⟨0,Nat.le_refl _,by simp,⟨fun h=>absurd h (Nat.lt_irrefl 0),fun⟨a,ha,_⟩=>by simp at ha⟩⟩
 |h1 l a ih=>
  intro hl;obtain⟨c,h1,h2,h3⟩:=ih fun a h=>hl a (by simp[h]);have ha:=(h.nE b a).1 (hl a oS);obtain⟨C,rfl⟩:=Int.eq_ofNat_of_zero_le ha.1;have he:fU beh C b:=by simpa[fU] using ha.2.2
  rw[List.foldl_append];show ∃ c,_/\kB _ _ _ _ (l.foldl _ L) (C:Int) i=_/\_;rcases adV h J he (l.foldl (kB (a8 beh n (-1)) (bM beh ahd n) n b) L) i with⟨e1,e2⟩|⟨e1,e2⟩
  .refine⟨c,by simp;omega,by rw[e1,h2],h3.trans ⟨fun⟨a,ha,r⟩=>⟨a,by simp[ha],r⟩,fun⟨a,ha,r⟩=>?_⟩⟩;rw[List.mem_append,List.mem_singleton] at ha;rcases ha with ha|ha
   .exact⟨a,ha,r⟩
   .have:a=C:=by omega
    subst this;exact absurd r e2
  .refine⟨c+1,by simp;omega,by rw[e1,h2,List.replicate_succ',List.append_assoc],⟨fun _=>⟨C,by simp,e2⟩,fun _=>by omega⟩⟩
theorem Ct(J:∀ b,(ahd b).length<=n)(i:Nat):∀ k,k<=n->let l:=(allI (a8 beh n (-1)) k).foldl (lk (a8 beh n (-1)) (bM beh ahd n) ahd n) (fun _=>[]) i
 mT l/\l.length<=k*n/\(∀ x∈l,0<=x/\x<k)/\∀ b:Nat,b<k->((b:Int)∈l↔bj beh n b/\Ja beh n i b)
 |0,_=>⟨fun i j x y _ hx=>by simp[allI] at hx,by simp[allI],fun x hx=>by simp[allI] at hx,fun b hb=>absurd hb (Nat.not_lt_zero _)⟩
 |k+1,hk=>by
  obtain⟨h1,h2,h3,h4⟩:=Ct J i k oG;simp only;rw[By];by_cases hc:(a8 beh n (-1)).getD k false=true
  .rw[if_pos hc,List.foldl_append];show mT (lk _ _ _ _ _ (k:Int) i)/\(lk _ _ _ _ _ (k:Int) i).length<=_/\(∀ x∈lk _ _ _ _ _ (k:Int) i,_)/\∀ b:Nat,_->((b:Int)∈lk _ _ _ _ _ (k:Int) i↔_)
   generalize (allI (a8 beh n (-1)) k).foldl (lk (a8 beh n (-1)) (bM beh ahd n) ahd n) (fun _=>[])=L at h1 h2 h3 h4;obtain⟨c,c1,U,c3⟩:=adW h (b:=k) hc L i (ahd k) fun a ha=>ha
   have e:lk (a8 beh n (-1)) (bM beh ahd n) ahd n L (k:Int) i=L i++List.replicate c (k:Int):=by
    unfold lk;rw[Int.toNat_natCast];exact U
   rw[e];have iT:=J k;have gN:(k+1)*n=k*n+n:=Nat.succ_mul k n;have M:(0<c)↔Ja beh n i k:=c3.trans ⟨fun⟨a,ha,r,d⟩=>⟨a,(ij h r).1 ha,r,d⟩,fun⟨a,ha,r,d⟩=>⟨a,(ij h r).2 ha,r,d⟩⟩;refine⟨fun p q x y X hx hy=>?_,by rw[List.length_append,List.length_replicate];omega,fun x hx=>?_,fun b hb=>?_⟩
   .rcases Nat.lt_or_ge q (L i).length with g|g
    .rw[List.getElem?_append_left oG] at hx hy;exact h1 p q x y X hx hy
    .rw[List.getElem?_append_right g,List.getElem?_replicate] at hy;split at hy
     .cases hy;rcases Nat.lt_or_ge p (L i).length with C|C
      .rw[List.getElem?_append_left C] at hx;have:=(h3 x (List.mem_of_getElem? hx)).2;omega
      .rw[List.getElem?_append_right C,List.getElem?_replicate] at hx;split at hx
       .cases hx;exact Int.le_refl _
       .cases hx
     .cases hy
   .rw[List.mem_append,List.mem_replicate] at hx;rcases hx with hx|⟨_,rfl⟩
    .have:=h3 x hx;omega
    .omega
   .rw[List.mem_append,List.mem_replicate];rcases Nat.lt_or_ge b k with g|g
    .rw[h4 b g];refine⟨fun x=>x.resolve_right fun y=>by omega,.inl⟩
    .have:b=k:=by omega
     subst this;constructor
     .rintro(hx|⟨hx,_⟩)
      .have:=(h3 _ hx).2;omega
      .exact⟨hc,M.1 oG⟩
     .rintro⟨_,hf⟩;have:=M.2 hf;exact .inr ⟨by omega,rfl⟩
  .rw[if_neg hc];refine⟨h1,by rw[Nat.succ_mul];omega,fun x hx=>by have:=h3 x hx;omega,fun b hb=>?_⟩;rcases Nat.lt_or_ge b k with g|g
   .exact h4 b g
   .have:b=k:=by omega
    subst this;refine⟨fun hx=>by have:=(h3 _ hx).2;omega,fun⟨hr,_⟩=>absurd hr hc⟩
theorem aaC(C:∀ b,(ahd b).length<=n){i b:Nat}(hi:i<n):(b:Int)∈(qm (a8 beh n (-1)) (bM beh ahd n) ahd n).getD i []↔bj beh n b/\Ja beh n i b:=by
 have J:=mO (w:= -1) h.to h.pos;obtain⟨_,_,h3,h4⟩:=Ct h C i n (Nat.le_refl _)
 have e:(qm (a8 beh n (-1)) (bM beh ahd n) ahd n).getD i []=eD (uj (a8 beh n (-1)) (bM beh ahd n) ahd n i):=by
  unfold qm;rw[List.getD_eq_getElem?_getD,List.getElem?_map,List.getElem?_range hi];rfl
 rw[e,eD,BQ (Nat.le_refl _),List.take_length];have e2:uj (a8 beh n (-1)) (bM beh ahd n) ahd n=(allI (a8 beh n (-1)) n).foldl (lk (a8 beh n (-1)) (bM beh ahd n) ahd n) fun _=>[]:=rfl;rw[e2];rcases Nat.lt_or_ge b n with g|g
 .exact h4 b g
 .refine⟨fun hx=>by have:=(h3 _ hx).2;omega,fun⟨hr,_⟩=>?_⟩;have:=oK h hr;omega
end
def aom(l:List Int)(j k:Nat):Prop:=(∀ p q,p<q->q<=k->p≠j->q≠j->l.getD p 0<=l.getD q 0)/\∀ q,j<q->q<=k->l.getD j 0<=l.getD q 0
def Ww(l:List Int)(k:Nat):Prop:=∀ p q,p<=q->q<=k->l.getD p 0<=l.getD q 0
theorem NH{l:List Int}{j:Nat}(h:j+1<l.length)(i:Nat):(swapAt l j).getD i 0=if i=j then l.getD (j+1) 0 else if i=j+1 then l.getD j 0 else l.getD i 0:=by
 unfold swapAt;simp only[List.getD_eq_getElem?_getD,List.getElem?_set,List.length_set];by_cases e:j=i
 .subst e;rw[if_pos rfl,if_pos rfl,if_pos oG];rfl
 .rw[if_neg e,if_neg (show ¬ i=j from fun h=>e h.symm)];by_cases e2:j+1=i
  .subst e2;rw[if_pos rfl,if_pos rfl,if_pos h];rfl
  .rw[if_neg e2,if_neg (show ¬ i=j+1 from fun h=>e2 h.symm)]
theorem QB{k:Nat}:∀ {j:Nat} {l:List Int},j<=k->k<l.length->aom l j k->Ww (mB l j) k
 |0,l,_,_,h=>fun p q J hq=>by
  rw[mB];rcases Nat.lt_or_ge p q with g|g
  .by_cases hp:p=0
   .subst hp;exact h.2 q g hq
   .exact h.1 p q g hq hp oG
  .have:p=q:=by omega
   subst this;exact Int.le_refl _
 |j+1,l,hj,hk,h=>by
  rw[mB];split
  .rename_i ao;have C:=NH (l:=l) (j:=j) oG;refine QB oG (by simpa using hk) ⟨fun p q J hq hp M=>?_,fun q hq U=>?_⟩
   .rw[C,C,if_neg hp,if_neg M];by_cases e1:p=j+1
    .rw[if_pos e1,if_neg oG];exact h.1 j q oG hq oG oG
    .rw[if_neg e1];by_cases e2:q=j+1
     .rw[if_pos e2];exact h.1 p j oG oG e1 oG
     .rw[if_neg e2];exact h.1 p q J hq e1 e2
   .rw[C,C,if_pos rfl,if_neg oG];by_cases e2:q=j+1
    .rw[if_pos e2];omega
    .rw[if_neg e2];exact h.2 q oG U
  .rename_i X;intro p q J hq;rcases Nat.lt_or_ge p q with g|g
   .by_cases e1:p=j+1
    .subst e1;exact h.2 q g hq
    .by_cases e2:q=j+1
     .subst e2;by_cases e3:p=j
      .subst e3;omega
      .have:=h.1 p j oG oG oG oG;omega
     .exact h.1 p q g hq e1 e2
   .have:p=q:=by omega
    subst this;exact Int.le_refl _
theorem OD{i:Nat}:∀ {j:Nat} {l:List Int},j<i->j<l.length->(mB l j).getD i 0=l.getD i 0
 |0,l,_,_=>rfl
 |j+1,l,h,hl=>by
  rw[mB];split
  .rw[OD oG oP,NH oG,if_neg oG,if_neg oG]
  .rfl
theorem OE{l:List Int}:∀ k,k<l.length->Ww (kN l k) k/\∀ i,k<i->(kN l k).getD i 0=l.getD i 0
 |0,_=>⟨fun p q J hq=>by
  have:p=q:=by omega
  subst this;exact Int.le_refl _,fun _ _=>rfl⟩
 |k+1,hk=>by
  obtain⟨h1,h2⟩:=OE (l:=l) k oG;rw[kN];refine⟨QB (Nat.le_refl _) (by simpa using hk) ⟨fun p q J hq hp C=>h1 p q oG oG,fun q hq C=>by omega⟩,fun i hi=>?_⟩;rw[OD hi oP];exact h2 i oG
theorem Ys(l:List Int):mT (eN l):=fun i j x y C hx hy=>by
 obtain⟨hj,J⟩:=List.getElem?_eq_some_iff.1 hy;have hl:(eN l).length=l.length:=HA l;have h:=(OE (l:=l) (l.length - 1) oG).1 i j C oG;have e:kN l (l.length - 1)=eN l:=rfl;rw[e,List.getD_eq_getElem?_getD,List.getD_eq_getElem?_getD,hx,hy] at h;exact h
theorem SD{d:List Int}(J:mT d):∀ t,t<=d.length->(eM d t).Pairwise (·<·)/\(0<t->∀ x∈eM d t,x<=d.getD (t - 1) 0)
 |0,_=>⟨by simp[eM],fun h=>absurd h (Nat.lt_irrefl 0)⟩
 |t+1,ht=>by
  obtain⟨h1,h2⟩:=SD J t oG
  have hg:∀ i,i<d.length->d[i]? =some (d.getD i 0):=fun i hi=>by
   have:=List.getElem?_eq_getElem hi;rw[List.getD_eq_getElem?_getD,this];rfl
  have C:∀ x∈eM d t,x<=d.getD t 0:=fun x hx=>by
   have h0:0<t:=by
    cases t with
    |zero=>simp[eM] at hx
    |succ t=>omega
   have a:=h2 h0 x hx;have b:=J (t - 1) t _ _ oG (hg _ oG) (hg _ oG);omega
  rw[eM];split
  .rw[List.append_nil];exact⟨h1,fun _ x hx=>by rw[Nat.add_sub_cancel];exact C x hx⟩
  .rename_i M;refine⟨?_,fun _ x hx=>?_⟩
   .rw[List.pairwise_append];refine⟨h1,by simp,fun x hx y hy=>?_⟩;rw[List.mem_singleton] at hy;subst hy
    have h0:0<t:=by
     cases t with
     |zero=>simp[eM] at hx
     |succ t=>omega
    have a:=h2 h0 x hx;have b:=J (t - 1) t _ _ oG (hg _ oG) (hg _ oG);have c:d.getD t 0≠d.getD (t - 1) 0:=fun e=>M ⟨by omega,e⟩;omega
   .rw[Nat.add_sub_cancel];rw[List.mem_append,List.mem_singleton] at hx;rcases hx with hx|hx
    .exact C x hx
    .rw[hx];exact Int.le_refl _
theorem MF{d:List Int}(C:mT d):(eD d).Pairwise (·<·):=(SD C _ (Nat.le_refl _)).1
theorem NI(x:End):(Go.Proofs.Tryz.K.nextR x).Pairwise (·<·):=MF (Ys _)
theorem Zt{b:Nat}:∀ (l:List Int) (L:Nat->List Int),l.Pairwise (·<·)->(∀ t∈l,0<=t)->(∀ i,(L i).Pairwise (·<·)/\∀ x∈L i,x<(b:Int))->
 ∀ i,(l.foldl (c6 b) L i).Pairwise (·<·)/\(∀ x∈l.foldl (c6 b) L i,x<(b:Int)+1):=fun l=>by
 have key:∀ (l:List Int) (L:Nat->List Int),l.Pairwise (·<·)->(∀ t∈l,0<=t)->∀ i,l.foldl (c6 b) L i=L i++(if(i:Int)∈l then [(b:Int)] else []):=fun l=>by
  induction l with
  |nil=>intro L _ _ i;simp
  |cons t l ih=>
   intro L hp h0 i;rw[List.pairwise_cons] at hp;have ht:=h0 t oS;obtain⟨C,rfl⟩:=Int.eq_ofNat_of_zero_le ht;rw[List.foldl_cons,ih _ hp.2 (fun t h=>h0 t (by simp[h]))];unfold c6;simp only[Int.toNat_natCast,up];by_cases e:i=C
   .subst e;rw[if_pos rfl,if_neg (fun h=>by have:=hp.1 _ h;omega),if_pos oS,List.append_nil]
   .rw[if_neg e];congr 1;have:¬ (i:Int)=C:=by omega
    simp[this]
 intro L hp h0 J i;rw[key l L hp h0 i];obtain⟨h1,h2⟩:=J i;split
 .refine⟨?_,fun x hx=>?_⟩
  .rw[List.pairwise_append];exact⟨h1,by simp,fun x hx y hy=>by rw[List.mem_singleton] at hy;rw[hy];exact h2 x hx⟩
  .rw[List.mem_append,List.mem_singleton] at hx;rcases hx with hx|hx
   .have:=h2 x hx;omega
   .omega
 .rw[List.append_nil];exact⟨h1,fun x hx=>by have:=h2 x hx;omega⟩
theorem Es{bs:List bP}(h0:∀ b∈bs,∀ t∈Go.Proofs.Tryz.K.nextR b.fin,0<=t):∀ k i,(bA bs k i).Pairwise (·<·)/\∀ x∈bA bs k i,x<(k:Int)
 |0,i=>by simp[bA]
 |k+1,i=>by
  have ih:=Es h0 k;have e:bA bs (k+1)=oJ bs (bA bs k) k:=by rw[bA,List.range_succ,List.foldl_append];rfl
  rw[e];unfold oJ;cases hx:bs[k]? with
  |none=>exact⟨(ih i).1,fun x hx=>by have:=(ih i).2 x hx;omega⟩
  |some b=>
   obtain⟨h1,h2⟩:=Zt (b:=k) (Go.Proofs.Tryz.K.nextR b.fin) (bA bs k) (NI _) (h0 b (List.mem_of_getElem? hx)) ih i;exact⟨h1,fun x hx=>by have:=h2 x hx;omega⟩
theorem E2:∀ {l:List Int} {a k:Nat},l.Pairwise (·<·)->(∀ x∈l,(a:Int)<=x/\x<(k:Int))->l.length<=k - a
 |[],_,_,_,_=>Nat.zero_le _
 |x::l,a,k,hp,h=>by
  rw[List.pairwise_cons] at hp;have hx:=h x oS;obtain⟨C,rfl⟩:=Int.eq_ofNat_of_zero_le (show 0<=x by omega)
  have:=E2 (l:=l) (a:=C+1) (k:=k) hp.2 fun y hy=>by
   have:=hp.1 y hy;have:=h y (by simp[hy]);omega
  rw[List.length_cons];omega
end Go.Argus
section
open Go Go.Abs Go.Proofs Go.Argus
namespace Go.Argus
theorem E7{f:aF}(h:lD f)(b:Nat):(bu f b).length<=f.blocks.length:=by
 rcases Nat.lt_or_ge b f.blocks.length with g|g
 .rw[E6 g]
  have h0:∀ x∈f.blocks,∀ t∈Go.Proofs.Tryz.K.nextR x.fin,0<=t:=fun x hx t ht=>by
   obtain⟨k,hk⟩:=List.getElem?_of_mem hx;exact(Go.Proofs.Tryz.K.beh_in h k t (by rw[vT hk];exact ht)).1
  obtain⟨h1,h2⟩:=Es h0 f.blocks.length b
  exact E2 (a:=0) h1 fun x hx=>⟨by
   obtain⟨p,rfl,_⟩:=Bt.1 hx
   omega,h2 x hx⟩
 .rw[Ia g];simp
def zL(l:List Int):D:=if l=[] then .z else ax l
theorem T5(l:List Int):Tr (zL l):=by
 unfold zL;split
 .exact .z
 .exact cB l
def uH(f:aF):List (List Int):=qm (a8 (aD f) f.blocks.length (-1)) (bM (aD f) (bu f) f.blocks.length) (bu f) f.blocks.length
def tm(f:aF):D:=if cR f=0 then .tup [.sl ((uH f).map zL) f.blocks.length,I 0] else .tup [.z,I (cR f)]
theorem Ou(f:aF):Tr (tm f):=by
 unfold tm;split
 .refine .tup (.cons (.sl fun a ha=>?_) (.cons (.s _) .nil));obtain⟨l,_,rfl⟩:=List.mem_map.1 ha;exact T5 l
 .exact .tup (.cons .z (.cons (.s _) .nil))
def zj(F:Nat->List Int)(n:Nat):List (List Int):=(List.range n).map fun i=>eD (F i)
def np(ρ:Nat->Nat)(F:Nat->List Int)(k n:Nat):List D:=(List.range n).map fun i=>if i<k then zL (eD (F i)) else jc (ρ i) ((F i).map I)
@[simp] theorem aqD (ρ : Nat -> Nat) (F : Nat -> List Int) (k n : Nat) : (np ρ F k n).length = n := by simp [np]
theorem abq{ρ:Nat->Nat}{F:Nat->List Int}{k n:Nat}(h:k<n):(np ρ F k n).drop k=jc (ρ k) ((F k).map I)::(np ρ F k n).drop (k+1):=by
 rw[List.drop_eq_getElem_cons (by simpa using h)];congr 1;simp[np]
theorem O3{ρ:Nat->Nat}{F:Nat->List Int}{k n:Nat}(h:k<n):np ρ F (k+1) n=(np ρ F k n).set k (zL (eD (F k))):=by
 refine List.ext_getElem oS fun i h1 h2=>?_;rw[List.getElem_set];simp only[np,List.getElem_map,List.getElem_range];by_cases e:k=i
 .subst e;simp
 .rw[if_neg e];by_cases e2:i<k
  .rw[if_pos e2,if_pos oG]
  .rw[if_neg e2,if_neg oG]
theorem acy{ρ:Nat->Nat}{F:Nat->List Int}{n:Nat}:np ρ F n n=(zj F n).map zL:=by
 unfold np zj;rw[List.map_map];exact List.map_congr_left fun i hi=>by rw[if_pos (by simpa using hi)];rfl
structure Xi(n:Nat)(F:Nat->List Int)(ρ:Nat->Nat)(k:Nat)(m:Mem)(nx:Nat):Prop where
 GS:5<=nx
 m4:m 4=some (.cells [.rs 3 0 n] 28)
 row:m 3=some (.cells (np ρ F k n) 27)
 DV:∀ i,k<=i->i<n->(F i).map I≠[]->m (ρ i)=some (.cells ((F i).map I) 3)/\ρ i<nx/\ρ i≠3/\ρ i≠4
 inj:∀ i j,k<=i->k<=j->i<n->j<n->(F i).map I≠[]->(F j).map I≠[]->ρ i=ρ j->i=j
end Go.Argus
namespace Go.Proofs.Tryz.K
set_option maxRecDepth 10000
theorem amq:PCall prog 89 [.z] (.tup []):=jW lA 100 rfl kr
theorem amr:PCall prog 90 [.z] .z:=jW lA 100 rfl kr
theorem acz{f:aF}(C:cR f≠0):PCall prog 39 [.agg (aG f)] (tm f):=by
 have J:=IK C;refine a9 mixed Kx (by rw[VN];rfl) (.cons (.agg (gn f)) .nil) (Ou f) ?_;rw[tm,if_neg C];generalize cR f=e at J C;have gZ:(e !=0)=true:=by simpa using C
 rw[VO,VP];refine aw ?_;refine au ?_;refine ab (aO (bw [(0,aG f,26)] eH (l:=[(1,.pt (aG f))]) eH) (aj ?_));refine SS ?_;refine cl J ?_;refine bD ?_;refine ab (aC (aj ?_));refine af ?_;refine ab (bh rfl (fun _=>?_) fun h=>oH);refine aC (aj ?_);refine au ?_;exact ab (cU (j6 rfl rfl rfl))
structure xA(n B:Nat)(L:Nat->List Int)(m:Mem)(nx:Nat):Prop where
 GS:5<=nx
 m4:m 4=some (.cells [.rs 3 0 n] 28)
 LC:∃ ρ,dx m nx 3 n 27 3 ρ (fun i=>(L i).map I)/\∀ i,i<n->(L i).map I≠[]->ρ i≠4
 len:∀ i,(L i).length<=B
set_option maxHeartbeats 2000000 in
theorem Rr{f:aF}(bJ:cR f=0)(Du:f.blocks.length<=24):PCall prog 39 [.agg (aG f)] (tm f):=by
 have gi:=Fq bJ
 have hf:ik f=true:=by
  unfold cR at bJ;split at bJ
  .assumption
  .cases bJ
 have bB:=uG hf;have hg:=tO bB;refine a9 mixed Kx (by rw[VN];rfl) (.cons (.agg (gn f)) .nil) (Ou f) ?_;rw[tm,if_pos bJ];obtain⟨n,hn⟩:∃ n,f.blocks.length=n:=⟨_,rfl⟩
 have iV:ye f=bN f (cm f) (cC f.blocks) (bq (a8 (aD f) f.blocks.length (-1))):=rfl;have jB:=Ku bB (c:=bq (a8 (aD f) f.blocks.length (-1))) (.sl (.map fun _=>.s _)) rfl;have fP:=fP (f:=f) (beh:=cm f) (ahd:=cC f.blocks) (cnt:=a8 (aD f) f.blocks.length (-1)) (by rw[mO hg.to hg.pos];omega);have fM:=mO (w:= -1) hg.to hg.pos;have iC:=MB hg;have Xj:uH f=qm (a8 (aD f) f.blocks.length (-1)) (bM (aD f) (bu f) f.blocks.length) (bu f) f.blocks.length:=rfl;have fO:∀ (b:Nat),bj (aD f) f.blocks.length b->vg (aD f) f.blocks.length f.blocks.length b:=fun b hb=>.inr ⟨b,rfl,hb,by have:=rD hg hb;have:=qk hg;omega⟩;have Gg:=HJ hg;have ie:∀ b,b<f.blocks.length->(cC f.blocks)[b]? =some (bu f b):=fun b hb=>zK (by simp[cC];omega);have dT:∀ b,b<f.blocks.length->(bu f b).length<=24:=fun b hb=>Nat.le_trans (E7 bB b) Du;have di:∀ b,∀ a∈bu f b,0<=a/\a.toNat<f.blocks.length:=fun b a ha=>by have:=(hg.nE b a).1 ha;exact⟨this.1,this.2.1⟩
 have vD:∀ b:Nat,(a8 (aD f) f.blocks.length (-1)).getD b false=true->bj (aD f) f.blocks.length b:=fun b h=>h;have wO:∀ i,mT (uj (a8 (aD f) f.blocks.length (-1)) (bM (aD f) (bu f) f.blocks.length) (bu f) f.blocks.length i):=fun i=>(Ct hg (E7 bB) i _ (Nat.le_refl _)).1;have l5:∀ i,(uj (a8 (aD f) f.blocks.length (-1)) (bM (aD f) (bu f) f.blocks.length) (bu f) f.blocks.length i).length<=600:=fun i=>Nat.le_trans (Ct hg (E7 bB) i _ (Nat.le_refl _)).2.1 (Nat.le_trans (Nat.mul_le_mul Du Du) oC);rw[iV] at gi;rw[fM] at fP;rw[Xj];clear Xj;rw[VO,VP];generalize aqT:cC f.blocks=AL at gi jB fP ie;generalize cm f=BL at gi jB fP;generalize bM (aD f) (bu f) f.blocks.length=aM at jB iC Gg wO l5 ⊢;generalize a8 (aD f) f.blocks.length (-1)=cnt at gi jB fP fM vD wO l5 ⊢;generalize bu f=ahd at ie dT di wO l5 ⊢;generalize bj (aD f) f.blocks.length=R at fO vD;rw[hn] at fM iC Gg ie dT di fO fP Du wO l5 ⊢;refine aw ?_;refine au ?_;refine ab (aO (bw [(0,aG f,26)] eH (l:=[(1,.pt (aG f))]) eH) (aw ?_));refine SS ?_;refine cl gi ?_;refine bD ?_;refine ab (aO (bw [(1,[.pt (bN f BL AL (bq cnt))],79)] eH (l:=[(4,.pt [.pt (bN f BL AL (bq cnt))]),(5,I 0)]) eH) (aC (aj ?_)));refine af ?_;refine ab (bh rfl (fun h=>oH) fun _=>bS (aw ?_));refine SS ?_;refine cl jB ?_;refine af ?_;refine ab (aO (bw [(2,[ax aM],27)] eH (l:=[(4,.pt [.pt (bN f BL AL (bq cnt))]),(6,.pt [ax aM])]) eH) (aw ?_));have cE:((f.blocks.length:Nat):Int).toNat=n:=hn;refine aL ?_;refine ab (aO (aE (l:=[(4,.pt [.pt (bN f BL AL (bq cnt))]),(6,.pt [ax aM]),(7,.rp 4 0)]) (ml:=[(3,.cells (List.replicate n .z) 27),(4,.cells [.rs 3 0 n] 28)]) eH ⟨?_,?_,trivial⟩) ?_)
 .exact congrArg (fun c=>some (Row.cells c 27)) ((congrArg (fun k=>replD k [D.z]) cE).trans (zP n))
 .exact congrArg (fun k=>some (Row.cells [D.rs 3 0 k] 28)) cE
 have Gh:uj cnt aM ahd n=(allI cnt n).foldl (lk cnt aM ahd n) fun _=>[]:=rfl;have VQ:qm cnt aM ahd n=zj (uj cnt aM ahd n) n:=rfl;rw[VQ];clear VQ;generalize uj cnt aM ahd n=F at wO l5 Gh ⊢
 have zi:(allI cnt n).length<=n:=by
  unfold allI;rw[List.length_map];exact Nat.le_trans (List.length_filter_le _ _) oS
 have bQ:∀ (k:Nat) x,(allI cnt n)[k]? =some x->∃ b:Nat,x=b/\b<n/\cnt.getD b false=true:=fun k x hx=>by
  have:=List.mem_of_getElem? hx;unfold allI at this;obtain⟨b,hb,rfl⟩:=List.mem_map.1 this;rw[List.mem_filter,List.mem_range] at hb;exact⟨b,rfl,hb.1,hb.2⟩
 generalize allI cnt n=xs at fP Gh zi bQ;refine dE (fun s=>∃ m nx,Ghost prog s ⟨az [(7,.rp 4 0)],m,nx⟩/\xA n 20000 F m nx) (aj ?_) fun s hs=>?_
 .refine af ?_;refine ab (ja ?_);refine⟨rfl,trivial,61,_,[],xs.map (fun n=>[I n]),fun k m nx=>xA n (800*k) ((xs.take k).foldl (lk cnt aM ahd n) fun _=>[]) m nx,rfl,fP,?_,?_,?_,?_⟩
  .intro y hy;obtain⟨n,_,rfl⟩:=List.mem_map.1 hy;exact⟨rfl,.cons (.s _) .nil⟩
  .exact⟨Nat.le_refl _,rfl,⟨fun _=>0,EO (show 3<5 by decide) rfl,fun _ _ h=>absurd rfl h⟩,fun _=>Nat.le_refl _⟩
  .rintro k m nx y hy M;simp only[List.getElem?_map,Option.map_eq_some_iff] at hy;obtain⟨b,hb,rfl⟩:=hy;obtain⟨C,rfl,gP,dN⟩:=bQ k b hb;have hk:k<xs.length:=(List.getElem?_eq_some_iff.1 hb).1;have bC:(xs.take (k+1)).foldl (lk cnt aM ahd n) (fun _=>[])=lk cnt aM ahd n ((xs.take k).foldl (lk cnt aM ahd n) fun _=>[]) C:=iG hb;generalize (xs.take k).foldl (lk cnt aM ahd n) (fun _=>[])=L at M bC;have Xk:lk cnt aM ahd n L (C:Int)=(ahd C).foldl (kB cnt aM n C) L:=rfl;rw[Xk] at bC;clear Xk;have bC:∀ m nx,xA n (800*(k+1)) ((ahd C).foldl (kB cnt aM n C) L) m nx->xA n (800*(k+1)) ((xs.take (k+1)).foldl (lk cnt aM ahd n) fun _=>[]) m nx:=fun m nx h=>by rw[bC];exact h
   have ie:=ie C gP;have dT:=dT C gP;have di:=di C;generalize ahd C=l at ie dT di bC;refine fe ?_;refine SS ?_;refine ab (show AW _ _ _ _ _ _ from ja (aw ?_));refine aL ?_
   have Bg:aM[C]? =some (bR aM C):=by
    have:=List.getElem?_eq_getElem (show C<aM.length by omega);rw[this];simp[bR,List.getD_eq_getElem?_getD,this]
   have Xl:∀ (L:Nat->List Int) (an:Nat),kB cnt aM n (C:Int) L (an:Int)=if cnt.getD an false=true then uI aM (bR aM C) C (n+1) L an else L:=fun L an=>rfl
   generalize bR aM C=pb at Bg Xl
   refine ab (dK (α:=Nat×Mem×Nat)
    (fun j=>⟨az [(4,.pt [.pt (bN f BL AL (bq cnt))]),(6,.pt [ax aM]),(7,.rp 4 0),(8,I C),(39,ax l),(40,I l.length),(41,I j.1)],j.2.1,j.2.2⟩)
    (fun j=>j.1<=l.length/\xA n (800*k+30*j.1) ((l.take j.1).foldl (kB cnt aM n C) L) j.2.1 j.2.2) (fun j=>l.length - j.1) (0,m,nx)
    (av eH) ⟨Nat.zero_le _,M⟩ ?_)
   clear M;rintro⟨j,m,nx⟩ ⟨hj,M⟩;dsimp only at hj M ⊢;have dM:∀ a,l[j]? =some a->(l.take (j+1)).foldl (kB cnt aM n C) L=kB cnt aM n C ((l.take j).foldl (kB cnt aM n C) L) a:=fun a ha=>iG ha;have Ky:j=l.length->(l.take j).foldl (kB cnt aM n C) L=l.foldl (kB cnt aM n C) L:=fun e=>by rw[e,List.take_length]
   generalize (l.take j).foldl (kB cnt aM n C) L=L0 at M dM Ky;refine SS ?_;refine ab ⟨_,rfl,fun h=>?_,fun h=>?_⟩
   .have ct:j<l.length:=by simpa using h
    have xh:l[j]? =some l[j]:=List.getElem?_eq_getElem ct;have di:=di _ (List.getElem_mem ct);generalize l[j]=a at xh di;obtain⟨an,rfl⟩:=Int.eq_ofNat_of_zero_le di.1;have vC:an<n:=di.2;have dM:=dM _ xh;rw[Xl] at dM;obtain⟨R',y8⟩:∃ R',(l.take (j+1)).foldl (kB cnt aM n C) L=R':=⟨_,rfl⟩
    have lS:∀ m nx,xA n (800*k+30*(j+1)) R' m nx->xA n (800*k+30*(j+1)) ((l.take (j+1)).foldl (kB cnt aM n C) L) m nx:=fun m nx h=>by rw[y8];exact h
    rw[y8] at dM;clear y8
    have lb:cnt[an]? =some (cnt.getD an false):=by
     have:=List.getElem?_eq_getElem (show an<cnt.length by omega);rw[List.getD_eq_getElem?_getD,this];rfl
    have fO:cnt.getD an false=true->vg (aD f) n (n+1) an:=fun hc=>(fO an (vD an hc)).imp id fun⟨m,e,r,p⟩=>⟨m,e,r,by omega⟩
    generalize cnt.getD an false=ca at lb dM fO;refine ws ?_;refine au ?_;refine ab (aw ?_);refine af ?_
    refine ab (b8 (α:=Nat×(Nat->List Int)×Int×Mem×Nat)
     (fun s=>⟨az [(4,.pt [.pt (bN f BL AL (bq cnt))]),(6,.pt [ax aM]),(7,.rp 4 0),(8,I C),(10,I an),(11,I s.2.2.1),(39,ax l),(40,I l.length),(41,I j)],s.2.2.2.1,s.2.2.2.2⟩)
     (fun s=>s.1<=n+1/\xA n (800*k+30*j+(n+1 - s.1)) s.2.1 s.2.2.2.1 s.2.2.2.2/\(ca=true->R'=uI aM pb C s.1 s.2.1 s.2.2.1/\vg (aD f) n s.1 s.2.2.1)/\(ca=false->R'=s.2.1)) (fun s=>s.1) (n+1,L0,an,m,nx)
     (av eH) ⟨Nat.le_refl _,by rw[Nat.sub_self];exact M,fun hc=>⟨by rw[dM,if_pos hc],fO hc⟩,fun hc=>by rw[dM,hc];rfl⟩ ?_)
    clear M dM fO Ky;rintro⟨kk,L',x,m,nx⟩ ⟨sf,M,fF,vE⟩;dsimp only at sf M fF vE ⊢;refine aL ?_;refine bF ?_;refine af ?_;refine ab ⟨_,rfl,fun h=>?_,fun h=>?_⟩
    .obtain⟨rfl,xB,Bh⟩:ca=true/\x≠ -1/\x≠pb:=by revert h;cases ca<;>simp
     obtain⟨hR,hU⟩:=fF rfl;obtain⟨J,kk,rfl,aqU,rfl,LD⟩:=Gg _ _ hU xB;rw[uI,if_pos ⟨xB,Bh⟩,Int.toNat_natCast] at hR;have uk:J<n:=by omega
     have LB:aM[J]? =some (bR aM J):=by
      have:=List.getElem?_eq_getElem (show J<aM.length by omega);rw[this];simp[bR,List.getD_eq_getElem?_getD,this]
     generalize bR aM J=px at LB hR LD;have⟨AI,cW,⟨ρ,hJ,hρ⟩,hlen⟩:=M;have aA:=hJ.row;have ct:=hJ.nC;have hL:=hlen J;have sy:(fun a=>(rZ C L' J a).map I)=up (fun a=>(L' a).map I) J ((L' J++[(C:Int)]).map I):=Fp
     have nU:∀ i,(rZ (C:Int) L' J i).length<=800*k+30*j+(n+1 - kk):=fun i=>by
      by_cases e:i=J
      .subst e;rw[O4,List.length_append,List.length_singleton];omega
      .rw[E8 _ _ e];have:=hlen i;omega
     have DO:∀ a,a<n->(rZ (C:Int) L' J a).map I≠[]->up ρ J (nx+1) a≠4:=fun a ha U=>by
      simp only[up];split
      .omega
      .rename_i ua;refine hρ a ha ?_;rw[E8 _ _ ua] at U;exact U
     obtain⟨cs,kd⟩:=BF (ρ:=ρ) (L:=fun i=>(L' i).map I) uk;refine nL Z5 ?_;by_cases hz:L' J=[]
     .have kA:jc (ρ J) ((L' J).map I)=.z:=by rw[hz];rfl
      rw[kA] at kd;refine aL ?_;refine af ?_;refine bk (by simp[apartT];omega) ?_;refine aK ?_;refine ab (aJ (kk,rZ C L' J,px,up (up (up m nx (some (.cells [I C] 3))) (nx+1) (some (.cells [I C] 3))) 3 (some (.cells ((gA ρ (fun i=>(L' i).map I) n).set J (.rs (nx+1) 0 1)) 27)),nx+2) (av eH) ⟨by dsimp only;omega,⟨by dsimp only;omega,?_,⟨up ρ J (nx+1),?_,DO⟩,nU⟩,fun _=>⟨hR,LD⟩,fun h=>Bool.noConfusion h⟩ oM)
      .dsimp only;exact ap oG (ap oG (ap oG cW))
      dsimp only;rw[sy];refine hJ.iF uk oS oG oG ?_ ?_ (fun q hq oq _=>?_)
      .rw[hz];exact up_same _ _ _
      .rw[hz];exact ap oG (up_same _ _ _)
      .exact ap oG (ap oG (ap oG rfl))
     .have U:(L' J).map I≠[]:=by simpa using hz
      have kA:jc (ρ J) ((L' J).map I)=.rs (ρ J) 0 (L' J).length:=by rw[lI U,List.length_map]
      rw[kA] at kd;have ix:=hJ.n3 J uk U;have uc:=hJ.lt J uk U;have hρ2:=hJ.ne J uk U;have hρ4:=hρ J uk U;refine aL ?_;refine af ?_;refine bk (by simp[apartT];omega) ?_;refine aK ?_;refine ab (aJ (kk,rZ C L' J,px,up (up (up (up m nx (some (.cells [I C] 3))) (ρ J) none) (nx+1) (some (.cells ((L' J).map I++[I C]) 3))) 3 (some (.cells ((gA ρ (fun i=>(L' i).map I) n).set J (.rs (nx+1) 0 ((L' J).length+1))) 27)),nx+2) (av eH) ⟨by dsimp only;omega,⟨by dsimp only;omega,?_,⟨up ρ J (nx+1),?_,DO⟩,nU⟩,fun _=>⟨hR,LD⟩,fun h=>Bool.noConfusion h⟩ oM)
      .dsimp only;exact ap oG (ap oG (ap oG (ap oG cW)))
      dsimp only;rw[sy];refine hJ.iF uk oS oG oG ?_ ?_ (fun q hq oq lX=>?_)
      .rw[List.length_map,List.length_append];exact up_same _ _ _
      .rw[List.map_append];exact ap oG (up_same _ _ _)
      .have:=lX U;exact ap oG (ap oG (ap oG (ap oG rfl)))
    .have hR:R'=L':=by
      cases ca with
      |false=>exact vE rfl
      |true=>
       obtain⟨h1,h2⟩:=fF rfl;rw[h1];have hx:¬ (x≠ -1/\x≠pb):=by simpa using h
       cases kk with
       |zero=>rfl
       |succ kk=>rw[uI,if_neg hx]
     subst hR;show AOps _ _ _ _ _ _ _ _ _;refine af ?_;refine ab (aJ (j+1,m,nx) (av eH) ⟨by dsimp only;omega,lS _ _ ⟨M.GS,M.m4,M.LC,fun i=>Nat.le_trans (M.len i) oG⟩⟩ oM)
   .have aX:¬ j<l.length:=by simpa using h
    have e:=Ky oG;subst e;exact bC _ _ ⟨M.GS,M.m4,M.LC,fun i=>Nat.le_trans (M.len i) oG⟩
  .rintro m nx M;rw[List.length_map,List.take_length, <- Gh] at M;exact⟨m,nx,av eH,M.GS,M.m4,M.LC,fun i=>Nat.le_trans (M.len i) oG⟩
 obtain⟨m,nx,jy,M⟩:=hs;obtain⟨AI,LH,⟨ρ,hJ,hρ⟩,_⟩:=M;have h0:Xi n F ρ 0 m nx:=⟨AI,LH,hJ.row.trans (by unfold gA np;simp),fun i _ hi U=>⟨hJ.n3 i hi U,hJ.lt i hi U,hJ.ne i hi U,hρ i hi U⟩,fun i k _ _=>hJ.inj i k⟩
 clear hJ hρ fP Gh bQ zi fO Gg vD ie dT di gi jB;refine⟨_,jy,aC (aw ?_)⟩;have aA:=LH;have cW:=h0.row;refine SS ?_;refine aH (Fl rfl cW) ak V.h ?_;refine SS ?_
 refine ab (bO (fun s=>∃ m nx,Ghost prog s ⟨az [(7,.rp 4 0)],m,nx⟩/\m 3=some (.cells ((zj F n).map zL) 27)/\m 4=some (.cells [.rs 3 0 n] 28)) (dK (α:=Nat×Mem×Nat)
  (fun k=>⟨az [(7,.rp 4 0),(81,I n),(82,I k.1)],k.2.1,k.2.2⟩) (fun k=>k.1<=n/\Xi n F ρ k.1 k.2.1 k.2.2) (fun k=>n - k.1) (0,m,nx) (av eH) ⟨Nat.zero_le _,h0⟩ ?_) ?_)
 .clear h0 aA cW LH AI jy;rintro⟨k,m,nx⟩ ⟨hk,M⟩;dsimp only at hk M ⊢;refine SS ?_;refine ab ⟨_,rfl,fun h=>?_,fun h=>?_⟩
  .have ao:k<n:=by simpa using h
   have⟨AI,aA,cW,Kz,Ar⟩:=M;have xd:=abq (ρ:=ρ) (F:=F) ao;have l5:=l5 k;have wO:=wO k;refine ws ?_;refine af ?_;refine er ?_;by_cases hz:F k=[]
   .have kA:jc (ρ k) ((F k).map I)=.z:=by rw[hz];rfl
    rw[kA] at xd;have kd:=xd;have DE:=amq;have Li:=amr;refine aP ?_;refine cl DE ?_;refine ab (nL Nt ?_);refine bD ?_;refine cl Li ?_;refine SS ?_;refine b9 (eS (d:=.z) (cs':=_) rfl rfl cW rfl rfl) ak (cP V.h V.h (by first|(simp;done)|exact⟨rfl,Nat.le_of_ble_eq_true rfl⟩|(simp;omega)) rfl) ?_;refine bk (by simp[apartT]) ?_;refine af ?_;refine ab (aJ (k+1,up m 3 (some (.cells ((np ρ F k n).set k .z) 27)),nx) (av eH) ⟨by dsimp only;omega,AI,?_,?_,?_,fun i j hi hj=>Ar i j (by dsimp only at hi;omega) (by dsimp only at hj;omega)⟩ oM)
    .dsimp only;rw[up_ne _ _ oG];exact aA
    .dsimp only;rw[up_same,O3 ao,hz];rfl
    .intro i hi bd U;dsimp only at hi ⊢;obtain⟨a,b,c,d⟩:=Kz i oG bd U;exact⟨by rw[up_ne _ _ c];exact a,b,c,d⟩
   .have U:(F k).map I≠[]:=by simpa using hz
    have kA:jc (ρ k) ((F k).map I)=.rs (ρ k) 0 (F k).length:=by rw[lI U,List.length_map]
    rw[kA] at xd;have kd:=xd;obtain⟨ix,uc,Xb,hρ4⟩:=Kz k (Nat.le_refl _) ao U;refine aP ?_;refine m7 (amp uc ix wO rfl l5) rfl (by repeat' (first|exact trivial|exact rfl|refine And.intro ?_ ?_)) fun r m' nx' hp=>?_;obtain⟨rfl,rfl,rfl⟩:=hp;refine ab (nL Nt ?_);refine bD ?_;refine TQ (r:=.rs (ρ k) 0 (eD (F k)).length) (ups:=[(ρ k,some (.cells (nV (F k) (F k).length) 3))]) (rds:=[ρ k]) (fun m2 jx sd=>?_) ?_ rfl (by repeat' (first|exact trivial|exact rfl|refine And.intro ?_ ?_)) ?_
    .have e:=sd (ρ k) oS fun e=>absurd (ix.symm.trans e) oS;have e:=e.trans ix;refine Om e F5.he fun yG=>(Kh yG e rfl oG).mono ?_;rintro r m' nx' ⟨h1,h2,h3⟩;exact⟨h2,h3,h1⟩
    .intro i hi;simp at hi;subst hi;exact⟨by simp,fun e=>absurd (ix.symm.trans e) oS⟩
    show AOps _ _ _ _ _ _ _ ⟨up _ 96 _,up _ (ρ k) (some (.cells (nV (F k) (F k).length) 3)),_⟩ _;refine aH (nM rfl rfl (ap oG cW) V.h V.h) ak ⟨V.h,by omega⟩ ?_;refine b9 (eS (d:=.rs _ _ _) (cs':=_) rfl rfl (ap oG cW) rfl rfl) ak (cP V.h V.h (by first|(simp;done)|exact⟨rfl,Nat.le_of_ble_eq_true rfl⟩|(simp;omega)) rfl) ?_;refine bk (by simp[apartT];omega) ?_;refine af ?_
    have fL:(nV (F k) (F k).length).take ((eD (F k)).length*1)=(eD (F k)).map I:=by
     rw[nV,Nat.mul_one,List.take_append_of_le_length oS,List.take_of_length_le oS]
    have Dx:zL (eD (F k))=ax (eD (F k)):=by
     unfold zL;rw[if_neg fun e=>?_];obtain⟨x,hx⟩:=List.exists_mem_of_ne_nil _ hz;have:=(BQ (d:=F k) (x:=x) (Nat.le_refl _)).2 (by rw[List.take_length];exact hx);have e:eM (F k) (F k).length=[]:=e;rw[e] at this;simp at this
    generalize nV (F k) (F k).length=cs at fL;refine ab (aJ (k+1,fun j=>if j=ρ k then none else(up (up _ (ρ k) (some (.cells cs 3))) 3 (some (.cells ((np ρ F k n).set k (.rs (ρ k) 0 (eD (F k)).length)) 27)) j).map (Row.sub (fz0 (ρ k) cs (prog.cellsOf 3))),_) (ED (i:=ρ k) (e:=3) (cs:=cs) (l:=[(7,.rp 4 0),(81,I n),(82,I ((k+1:Nat):Int))]) (ap Xb (up_same _ _ _)) ⟨uz oG,rfl,rfl,trivial⟩) ⟨by dsimp only;omega,AI,?_,?_,?_,fun i j hi hj=>Ar i j (by dsimp only at hi;omega) (by dsimp only at hj;omega)⟩ oM)
    .dsimp only;rw[if_neg oG,up_ne _ _ oG,up_ne _ _ oG,aA];refine congrArg some (jf.cells (X:=fun p=>p=ρ k) (fun d hd=>?_) _ _ _ rfl);rw[List.mem_singleton] at hd;subst hd;exact .rs oG
    .dsimp only;rw[if_neg oG,up_same];show some (Row.cells (List.map _ _) 27)=_;rw[O3 ao,Dx];refine congrArg (fun c=>some (Row.cells c 27)) (List.ext_getElem oS fun i h1 h2=>?_);rw[List.getElem_map,List.getElem_set,List.getElem_set];by_cases e:k=i
     .rw[if_pos e,if_pos e,c3,yr,List.drop_zero,fL]
     .rw[if_neg e,if_neg e];simp only[np,List.getElem_map,List.getElem_range];split
      .unfold zL;split<;>rfl
      .by_cases ei:(F i).map I=[]
       .have:jc (ρ i) ((F i).map I)=.z:=by rw[ei];rfl
        rw[this];rfl
       .rw[lI ei];have bd:i<n:=by simpa using h2
        exact zF fun e'=>e (Ar k i (Nat.le_refl _) oG ao bd U ei e'.symm)
    .intro i hi bd wC;dsimp only at hi ⊢;obtain⟨a,b,c,d⟩:=Kz i oG bd wC
     have uh:ρ i≠ρ k:=fun e'=>by
      have:=Ar i k oG (Nat.le_refl _) bd ao wC U e';omega
     refine⟨?_,b,c,d⟩;rw[if_neg uh,up_ne _ _ c,up_ne _ _ uh,a];exact congrArg some (jf.F6 (X:=fun p=>p=ρ k) .map _ _ _ rfl)
  .have aX:¬ k<n:=by simpa using h
   have:k=n:=by omega
   subst this;exact⟨m,nx,av eH,M.row.trans (by rw[acy]),M.m4⟩
 .rintro s ⟨m,nx,sC,h3,h4⟩;refine⟨_,sC.trans (gQ (i:=3) (e:=27) (cs:=(zj F n).map zL) (l:=[(7,.rp 4 0)]) (ml:=[(4,.cells [.sl ((zj F n).map zL) n] 28)]) h3 ⟨uz oG,trivial⟩ ⟨?_,trivial⟩),aj ?_⟩
  .dsimp only;rw[if_neg oG,h4];show some (Row.cells [sub _ (.rs 3 0 n)] 28)=_;rw[iY (by rw[y6];simp[zj])]
  refine au ?_;exact ab (j6 rfl rfl rfl)
end Go.Proofs.Tryz.K
namespace Go.Proofs.Tryz.K
set_option maxRecDepth 100000
def I4:D:=.sl [.z,.sl [I 1] 1,.sl [I 1] 1,.z,.sl [I 1] 1] 5
theorem Z6:tm tK=.tup [I4,I 0]:=kr
theorem adC:PCall prog 39 [.agg (aG tK)] (.tup [I4,I 0]):=Z6▸Rr Nr oC
noncomputable def cx3:Ctx:=⟨fun f=>CQ.get f,FR [(61,[.pt vf],Cr)],Fs [(51,[.agg (aG tK)],.tup [.pt vf,I 0]),(65,[.pt vf],.tup [TU,Rp]),(39,[.agg (aG tK)],.tup [I4,I 0])]⟩
theorem adD:cx3.Ok prog:=⟨mixed,I1,fun _ _ _ _ h=>Oo (fun x hx=>by
 simp only[List.mem_singleton] at hx;subst hx;refine⟨TW,fun y hy d hd=>?_⟩;simp only[Cr,List.mem_cons,List.not_mem_nil,or_false] at hy
 rcases hy with rfl|rfl|rfl|rfl|rfl<;>(simp only[List.mem_singleton] at hd;subst hd;exact .s _)) h,
 fun _ _ _ h=>Nq (fun x hx=>by
  simp only[List.mem_cons,List.not_mem_nil,or_false] at hx;rcases hx with rfl|rfl|rfl
  .exact TV
  .exact agQ
  .exact adC) h⟩
theorem ams:PCall prog 17 [] (B true):=jW adD 1000 rfl kr
end Go.Proofs.Tryz.K
end
namespace Go.Argus
section
variable{beh ahd:Nat->List Int}{n:Nat}(h:nk beh ahd n)
inductive Lp(beh:Nat->List Int)(n hd:Nat):Nat->Prop
 |Aq {a:Nat}:fU beh a hd->bj beh n a->gB beh hd a->a≠hd->Lp beh n hd a
 |step {x a:Nat}:Lp beh n hd x->fU beh a x->bj beh n a->a≠hd->Lp beh n hd a
def Ha(beh:Nat->List Int)(n hd x:Nat):Prop:=x=hd\/Lp beh n hd x
include h
omit h in
theorem Lp.ne{hd x:Nat}(hx:Lp beh n hd x):x≠hd:=by
 cases hx with
 |Aq _ _ _ e=>exact e
 |step _ _ _ e=>exact e
omit h in
theorem Lp.sI{hd x:Nat}(hx:Lp beh n hd x):bj beh n x:=by
 cases hx with
 |Aq _ r _ _=>exact r
 |step _ _ r _=>exact r
omit h in
theorem aaD(a:Nat):gB beh a a:=fun ha=>by
 cases ha with
 |zero e=>exact e rfl
 |step _ _ e=>exact e rfl
omit h in
theorem Ha.sI{hd x:Nat}(C:bj beh n hd)(hx:Ha beh n hd x):bj beh n x:=by
 rcases hx with rfl|hx
 .exact C
 .exact hx.sI
end
def dD(cnt:List Bool)(ahd:Nat->List Int):Nat->List Int->Int->List Int
 |0,s,_=>s
 |k+1,s,b=>if b∈s\/cnt.getD b.toNat false=false then s else(ahd b.toNat).foldl (dD cnt ahd k) (s++[b])
def lE(cnt:List Bool)(aM:List Int)(ahd:Nat->List Int)(n:Nat)(hd:Int)(s:List Int×Bool)(a:Int):List Int×Bool:=
 if cnt.getD a.toNat false=true/\gy aM (n+1) hd a=true then(dD cnt ahd n s.1 a,true) else s
def qp(cnt:List Bool)(aM:List Int)(ahd:Nat->List Int)(n:Nat)(hd:Int):List Int×Bool:=(ahd hd.toNat).foldl (lE cnt aM ahd n hd) ([hd],false)
def rM(n:Nat)(s:List Int):List Int:=((List.range n).filter fun(i:Nat)=>decide ((i:Int)∈s)).map fun(i:Nat)=>(i:Int)
def ji(cnt:List Bool)(aM:List Int)(ahd:Nat->List Int)(n:Nat)(o:List (Int×List Int))(hd:Int):List (Int×List Int):=
 if(qp cnt aM ahd n hd).2=true then o++[(hd,rM n (qp cnt aM ahd n hd).1)] else o
def Ft(cnt:List Bool)(aM:List Int)(ahd:Nat->List Int)(n:Nat):List (Int×List Int):=(allI cnt n).foldl (ji cnt aM ahd n) []
structure gX(n:Nat)(s:List Int):Prop where
 nd:s.Nodup
 xC:∀ x∈s,0<=x/\x.toNat<n
theorem gX.len{n:Nat}{s:List Int}(h:gX n s):s.length<=n:=by
 have J:(s.map Int.toNat).Nodup:=by
  rw[List.nodup_iff_pairwise_ne,List.pairwise_map];refine(List.Pairwise.and_mem.1 h.nd).imp fun {a b} C e=>?_;have:=h.xC a C.1;have:=h.xC b C.2.1;exact C.2.2 oG
 have:=List.Nodup.length_le_of_subset J (l₂:=List.range n) fun x hx=>by
  obtain⟨y,hy,rfl⟩:=List.mem_map.1 hx;exact List.mem_range.2 (h.xC y hy).2
 simpa using this
section
variable{cnt:List Bool}{ahd:Nat->List Int}{n:Nat}(di:∀ b,∀ a∈ahd b,0<=a/\a.toNat<n)
include di
theorem SE{p:Int->Prop}{hd:Int}(hp:∀ x,p x->∀ a∈ahd x.toNat,cnt.getD a.toNat false=true->a≠hd->p a):∀ (k:Nat) (s:List Int) (b:Int),gX n s->hd∈s->0<=b/\b.toNat<n->n - s.length<=k->(b∈s\/cnt.getD b.toNat false=false\/p b)->(∀ x∈s,x=hd\/p x)->
 gX n (dD cnt ahd k s b)/\(∀ x∈s,x∈dD cnt ahd k s b)/\s.length<=(dD cnt ahd k s b).length/\(cnt.getD b.toNat false=true->b∈dD cnt ahd k s b)/\
 (∀ x∈dD cnt ahd k s b,x∈s\/(∀ a∈ahd x.toNat,cnt.getD a.toNat false=true->a∈dD cnt ahd k s b))/\(∀ x∈dD cnt ahd k s b,x=hd\/p x)
 |0,s,b,hs,hh,hb,hk,_,hi=>by
  have hl:=hs.len
  have bd:b∈s:=Classical.byContradiction fun hn=>by
   have:gX n (s++[b]):=⟨by
    rw[List.nodup_append];exact⟨hs.nd,by simp,fun x hx y hy e=>by rw[List.mem_singleton] at hy;subst hy e;exact hn hx⟩,fun x hx=>by
    rw[List.mem_append,List.mem_singleton] at hx;rcases hx with hx|hx
    .exact hs.xC x hx
    .subst hx;exact hb⟩
   have:=this.len;rw[List.length_append,List.length_singleton] at this;omega
  exact⟨hs,fun x hx=>hx,Nat.le_refl _,fun _=>bd,fun x hx=>.inl hx,hi⟩
 |k+1,s,b,hs,hh,hb,hk,GM,hi=>by
  rw[dD];by_cases hc:b∈s\/cnt.getD b.toNat false=false
  .rw[if_pos hc];refine⟨hs,fun x hx=>hx,Nat.le_refl _,fun dN=>?_,fun x hx=>.inl hx,hi⟩;rcases hc with hc|hc
   .exact hc
   .rw[dN] at hc;cases hc
  .rw[if_neg hc];have gP:b∉s:=fun e=>hc (.inl e)
   have dN:cnt.getD b.toNat false=true:=by
    cases e:cnt.getD b.toNat false with
    |true=>rfl
    |false=>exact absurd (.inr e) hc
   have Bg:p b:=by
    rcases GM with e|e|e
    .exact absurd e gP
    .rw[dN] at e;cases e
    .exact e
   have mF:gX n (s++[b]):=⟨by
    rw[List.nodup_append];exact⟨hs.nd,by simp,fun x hx y hy e=>by rw[List.mem_singleton] at hy;subst hy e;exact gP hx⟩,fun x hx=>by
    rw[List.mem_append,List.mem_singleton] at hx;rcases hx with hx|hx
    .exact hs.xC x hx
    .subst hx;exact hb⟩
   have hF:∀ l:List Int,(∀ a∈l,a∈ahd b.toNat)->let r:=l.foldl (dD cnt ahd k) (s++[b])
    gX n r/\(∀ x∈s++[b],x∈r)/\(s++[b]).length<=r.length/\(∀ a∈l,cnt.getD a.toNat false=true->a∈r)/\
    (∀ x∈r,x∈s++[b]\/∀ a∈ahd x.toNat,cnt.getD a.toNat false=true->a∈r)/\(∀ x∈r,x=hd\/p x):=fun l=>by
    induction l using s7 with
    |h0=>
     intro _;refine⟨mF,fun x hx=>hx,Nat.le_refl _,fun a ha=>by simp at ha,fun x hx=>.inl hx,fun x hx=>?_⟩;have hx:x∈s++[b]:=hx;rw[List.mem_append,List.mem_singleton] at hx;rcases hx with hx|hx
     .exact hi x hx
     .subst hx;exact .inr Bg
    |h1 l a ih=>
     intro hl;obtain⟨M,C,J,U,X,g6⟩:=ih fun a h=>hl a (by simp[h]);simp only;rw[List.foldl_append];show gX n (dD cnt ahd k _ a)/\(∀ x∈s++[b],x∈dD cnt ahd k _ a)/\_<=(dD cnt ahd k _ a).length/\_/\_/\_;generalize l.foldl (dD cnt ahd k) (s++[b])=t at M C J U X g6;have Ee:=hl a oS
     have hlen:n - t.length<=k:=by
      rw[List.length_append,List.length_singleton] at J;omega
     have G7:hd∈t:=C hd (by simp[hh])
     have tW:a∈t\/cnt.getD a.toNat false=false\/p a:=by
      by_cases e:a=hd
      .subst e;exact .inl G7
      .cases lb:cnt.getD a.toNat false with
       |false=>exact .inr (.inl rfl)
       |true=>exact .inr (.inr (hp b Bg a Ee lb e))
     obtain⟨q1,q2,q3,q4,q5,q6⟩:=SE hp k t a M G7 (di _ a Ee) hlen tW g6;refine⟨q1,fun x hx=>q2 x (C x hx),Nat.le_trans J q3,fun c hc kz=>?_,fun x hx=>?_,q6⟩
     .rw[List.mem_append,List.mem_singleton] at hc;rcases hc with hc|hc
      .exact q2 c (U c hc kz)
      .subst hc;exact q4 kz
     .rcases q5 x hx with hx|hx
      .rcases X x hx with hx|hx
       .exact .inl hx
       .exact .inr fun a ha lb=>q2 a (hx a ha lb)
      .exact .inr hx
   obtain⟨M,C,J,U,X,g6⟩:=hF (ahd b.toNat) fun a ha=>ha;generalize (ahd b.toNat).foldl (dD cnt ahd k) (s++[b])=r at M C J U X g6;refine⟨M,fun x hx=>C x (by simp[hx]),by rw[List.length_append] at J;omega,fun _=>C b oS,fun x hx=>?_,g6⟩;rcases X x hx with hx|hx
   .rw[List.mem_append,List.mem_singleton] at hx;rcases hx with hx|hx
    .exact .inl hx
    .subst hx;exact .inr U
   .exact .inr hx
end
section
variable{beh ahd:Nat->List Int}{n:Nat}(h:nk beh ahd n)
include h
theorem OF{hd:Nat}(rh:bj beh n hd):gX n (qp (a8 beh n (-1)) (bM beh ahd n) ahd n hd).1/\(∀ x:Nat,(x:Int)∈(qp (a8 beh n (-1)) (bM beh ahd n) ahd n hd).1↔Ha beh n hd x)/\
 ((qp (a8 beh n (-1)) (bM beh ahd n) ahd n hd).2=true↔∃ a,fU beh a hd/\bj beh n a/\gB beh hd a):=by
 have di:∀ b,∀ a∈ahd b,0<=a/\a.toNat<n:=fun b a ha=>by have:=(h.nE b a).1 ha;exact⟨this.1,this.2.1⟩
 have hp:∀ x:Int,(∃ m:Nat,x=m/\Lp beh n hd m)->∀ a∈ahd x.toNat,(a8 beh n (-1)).getD a.toNat false=true->a≠(hd:Int)->∃ m:Nat,a=m/\Lp beh n hd m:=fun x ⟨m,e,hm⟩ a ha hc aB=>by
  subst e;rw[Int.toNat_natCast] at ha;obtain⟨C,rfl⟩:=Int.eq_ofNat_of_zero_le (di _ a ha).1;have J:bj beh n C:=by rw[Int.toNat_natCast] at hc;exact hc
  exact⟨C,rfl,.step hm ((ij h J).1 ha) J oG⟩
 have zr:∀ a:Nat,bj beh n a->(gy (bM beh ahd n) (n+1) hd a=true↔gB beh hd a):=fun a J=>IS h J (by have:=rD h J;have:=qk h;omega);have hhn:=oK h rh
 have key:∀ l:List Int,(∀ a∈l,a∈ahd hd)->let s:=l.foldl (lE (a8 beh n (-1)) (bM beh ahd n) ahd n hd) ([(hd:Int)],false)
  gX n s.1/\(hd:Int)∈s.1/\(∀ x∈s.1,x=(hd:Int)\/∃ m:Nat,x=m/\Lp beh n hd m)/\(∀ x∈s.1,x=(hd:Int)\/∀ a∈ahd x.toNat,(a8 beh n (-1)).getD a.toNat false=true->a∈s.1)/\
  (∀ a:Nat,(a:Int)∈l->bj beh n a->gB beh hd a->(a:Int)∈s.1)/\(s.2=true↔∃ a:Nat,(a:Int)∈l/\bj beh n a/\gB beh hd a):=fun l=>by
  induction l using s7 with
  |h0=>
   intro _
   exact⟨⟨by simp,fun x hx=>by
    have hx:x∈[(hd:Int)]:=hx;rw[List.mem_singleton] at hx;subst hx
    exact⟨by omega,by simpa using hhn⟩⟩,by simp,fun x hx=>.inl (by simpa using hx),fun x hx=>.inl (by simpa using hx),fun a ha=>by simp at ha,⟨fun h=>Bool.noConfusion h,fun⟨a,ha,_⟩=>by simp at ha⟩⟩
  |h1 l a ih=>
   intro hl;obtain⟨g1,X,g3,g4,g5,g6⟩:=ih fun a h=>hl a (by simp[h]);have Ee:=hl a oS;have Wx:=di _ a Ee;obtain⟨C,rfl⟩:=Int.eq_ofNat_of_zero_le Wx.1;simp only;rw[List.foldl_append];show gX n (lE _ _ _ _ _ _ (C:Int)).1/\_∈(lE _ _ _ _ _ _ (C:Int)).1/\(∀ x∈(lE _ _ _ _ _ _ (C:Int)).1,_)/\(∀ x∈(lE _ _ _ _ _ _ (C:Int)).1,_\/∀ a∈_,_->a∈(lE _ _ _ _ _ _ (C:Int)).1)/\(∀ a:Nat,_->_->_->(a:Int)∈(lE _ _ _ _ _ _ (C:Int)).1)/\((lE _ _ _ _ _ _ (C:Int)).2=true↔_)
   generalize l.foldl (lE (a8 beh n (-1)) (bM beh ahd n) ahd n hd) ([(hd:Int)],false)=s at g1 X g3 g4 g5 g6;unfold lE;rw[Int.toNat_natCast];by_cases hc:(a8 beh n (-1)).getD C false=true/\gy (bM beh ahd n) (n+1) hd C=true
   .rw[if_pos hc];have J:bj beh n C:=hc.1;have U:=(zr C J).1 hc.2
    have tW:(C:Int)∈s.1\/(a8 beh n (-1)).getD (C:Int).toNat false=false\/∃ m:Nat,(C:Int)=m/\Lp beh n hd m:=by
     by_cases e:C=hd
     .subst e;exact .inl X
     .exact .inr (.inr ⟨C,rfl,.Aq ((ij h J).1 Ee) J U e⟩)
    obtain⟨q1,q2,_,q4,q5,q6⟩:=SE di hp n s.1 (C:Int) g1 X Wx (Nat.sub_le _ _) tW g3;refine⟨q1,q2 _ X,q6,fun x hx=>?_,fun c M rc dc=>?_,⟨fun _=>⟨C,by simp,J,U⟩,fun _=>rfl⟩⟩
    .rcases q5 x hx with hx|hx
     .rcases g4 x hx with e|hx
      .exact .inl e
      .exact .inr fun a ha lb=>q2 a (hx a ha lb)
     .exact .inr hx
    .rw[List.mem_append,List.mem_singleton] at M;rcases M with M|M
     .exact q2 _ (g5 c M rc dc)
     .have:c=C:=by omega
      subst this;exact q4 (by rw[Int.toNat_natCast];exact rc)
   .rw[if_neg hc];have no:¬ (bj beh n C/\gB beh hd C):=fun⟨J,U⟩=>hc ⟨J,(zr C J).2 U⟩;refine⟨g1,X,g3,g4,fun c M rc dc=>?_,g6.trans ⟨fun⟨c,M,r⟩=>⟨c,by simp[M],r⟩,fun⟨c,M,r⟩=>?_⟩⟩
    .rw[List.mem_append,List.mem_singleton] at M;rcases M with M|M
     .exact g5 c M rc dc
     .have:c=C:=by omega
      subst this;exact absurd ⟨rc,dc⟩ no
    .rw[List.mem_append,List.mem_singleton] at M;rcases M with M|M
     .exact⟨c,M,r⟩
     .have:c=C:=by omega
      subst this;exact absurd r no
 obtain⟨g1,X,g3,g4,g5,g6⟩:=key (ahd hd) fun a ha=>ha
 have e:qp (a8 beh n (-1)) (bM beh ahd n) ahd n hd=(ahd hd).foldl (lE (a8 beh n (-1)) (bM beh ahd n) ahd n hd) ([(hd:Int)],false):=by
  unfold qp;rw[Int.toNat_natCast]
 rw[e];refine⟨g1,fun x=>⟨fun hx=>?_,fun hx=>?_⟩,g6.trans ⟨fun⟨a,ha,J,U⟩=>⟨a,(ij h J).1 ha,J,U⟩,fun⟨a,ea,J,U⟩=>⟨a,(ij h J).2 ea,J,U⟩⟩⟩
 .rcases g3 _ hx with e|⟨m,e,hm⟩
  .exact .inl oG
  .have:x=m:=by omega
   subst this;exact .inr hm
 .rcases hx with rfl|hx
  .exact X
  .induction hx with
   |Aq ea J U _=>exact g5 _ ((ij h J).2 ea) J U
   |@step x a hx ea J _ ih=>
    rcases g4 _ ih with e|hc
    .exact absurd oG (Lp.ne (n:=n) hx)
    .exact hc _ (by rw[Int.toNat_natCast];exact(ij h J).2 ea) (by rw[Int.toNat_natCast];exact J)
omit h in
theorem ER{s:List Int}{x:Nat}:(x:Int)∈rM n s↔x<n/\(x:Int)∈s:=by
 unfold rM;rw[List.mem_map];constructor
 .rintro⟨m,hm,e⟩;have:m=x:=by omega
  subst this;rw[List.mem_filter,List.mem_range] at hm;exact⟨hm.1,by simpa using hm.2⟩
 .rintro⟨h1,h2⟩;exact⟨x,by rw[List.mem_filter,List.mem_range];exact⟨h1,by simpa using h2⟩,rfl⟩
end
end Go.Argus
section
open Go Go.Abs Go.Proofs Go.Argus
namespace Go.Argus
def bm(l:List Int):List (Value×D):=l.map fun b=>(.int .i64 b,B true)
theorem IL(a:Int):∀ l:List Int,(lookD (.int .i64 a) (bm l)).map (·.2)=if a∈l then some (B true) else none
 |[]=>rfl
 |b::l=>by
  have ih:=IL a l;unfold bm at ih ⊢;simp only[List.map_cons,lookD,veq,veq1,beq_self_eq_true,Bool.true_and,List.mem_cons] at ih ⊢;by_cases h:b=a
  .subst h;simp
  .have hb:(b==a)=false:=by simpa using h
   have h':¬ a=b:=fun e=>h e.symm;simp only[hb,Bool.false_eq_true,if_false,Option.map_map,h',false_or];exact ih
theorem I5{P:Program}{t:TypeId}(C:zeroD P (melP P t)=B false)(a:Int)(l:List Int):gotD P t false (lookD (.int .i64 a) (bm l))=B (decide (a∈l)):=by
 have h:=IL a l;cases h1:lookD (.int .i64 a) (bm l) with
 |none=>
  rw[h1] at h;by_cases e:a∈l
  .rw[if_pos e] at h;simp at h
  .simp[gotD,C,e]
 |some x=>
  rw[h1] at h;by_cases e:a∈l
  .rw[if_pos e] at h;simp at h;simp[gotD,h,e]
  .rw[if_neg e] at h;simp at h
theorem Rt{a:Int}{l:List Int}(h:a∉l):putD (.int .i64 a) (B true) (bm l)=bm (l++[a]):=by
 have h1:=IL a l;rw[if_neg h] at h1;unfold putD;cases h2:lookD (.int .i64 a) (bm l) with
 |none=>simp[bm]
 |some x=>rw[h2] at h1;simp at h1
theorem E9{P:Program}{kt:TypeId}(hk:P.underlying kt=some (.int .i64))(l:List Int):(bm l).all (fun e=>keyP P kt e.1)=true:=by
 refine List.all_eq_true.2 fun x hx=>?_;obtain⟨y,_,rfl⟩:=List.mem_map.1 hx;simp[keyP,hk]
theorem Ib{cnt:List Bool}{ahd:Nat->List Int}{n:Nat}(di:∀ b,∀ a∈ahd b,0<=a/\a.toNat<n):∀ (k:Nat) (s:List Int) (b:Int),gX n s->0<=b/\b.toNat<n->gX n (dD cnt ahd k s b)/\s.length<=(dD cnt ahd k s b).length
 |0,s,b,hs,_=>⟨hs,Nat.le_refl _⟩
 |k+1,s,b,hs,hb=>by
  rw[dD];by_cases hc:b∈s\/cnt.getD b.toNat false=false
  .rw[if_pos hc];exact⟨hs,Nat.le_refl _⟩
  .rw[if_neg hc]
   have U:gX n (s++[b]):=⟨by
    rw[List.nodup_append];exact⟨hs.nd,by simp,fun x hx y hy e=>by rw[List.mem_singleton] at hy;subst hy e;exact hc (.inl hx)⟩,fun x hx=>by
    rw[List.mem_append,List.mem_singleton] at hx;rcases hx with hx|hx
    .exact hs.xC x hx
    .subst hx;exact hb⟩
   have M:∀ l:List Int,(∀ a∈l,0<=a/\a.toNat<n)->gX n (l.foldl (dD cnt ahd k) (s++[b]))/\(s++[b]).length<=(l.foldl (dD cnt ahd k) (s++[b])).length:=fun l=>by
    induction l using s7 with
    |h0=>exact fun _=>⟨U,Nat.le_refl _⟩
    |h1 l a ih=>
     intro hl;obtain⟨C,J⟩:=ih fun a h=>hl a (by simp[h]);rw[List.foldl_append];obtain⟨X,q2⟩:=Ib di k _ a C (hl a oS);exact⟨X,Nat.le_trans J q2⟩
   obtain⟨C,J⟩:=M (ahd b.toNat) (di _);refine⟨C,?_⟩;rw[List.length_append,List.length_singleton] at J;omega
theorem abr{cnt:List Bool}{ahd:Nat->List Int}{n:Nat}(di:∀ b,∀ a∈ahd b,0<=a/\a.toNat<n)(k:Nat){s:List Int}(M:gX n s)(l:List Int)(hl:∀ a∈l,0<=a/\a.toNat<n):gX n (l.foldl (dD cnt ahd k) s)/\s.length<=(l.foldl (dD cnt ahd k) s).length:=by
 induction l using s7 with
 |h0=>exact⟨M,Nat.le_refl _⟩
 |h1 l a ih=>
  obtain⟨C,J⟩:=ih fun a h=>hl a (by simp[h]);rw[List.foldl_append];obtain⟨U,X⟩:=Ib di k _ a C (hl a oS);exact⟨U,Nat.le_trans J X⟩
end Go.Argus
namespace Go.Proofs.Tryz.K
set_option maxRecDepth 10000
theorem JM:zeroD prog (melP prog 127)=B false:=kr
theorem Ru{f:aF}{BL AL:List (List Int)}{cnt:List Bool}{M J C:Nat}(X:M≠J)(Da:M≠C){m:Mem}{nx:Nat}{s:List Int}{b:Nat}
 (zk:m J=some (.cells [.mp M] 127)) (U:m M=some (.map (bm s))) (bd:(b:Int)∈s):
 ACalls prog 93 [I b,.rp J 0,.pt [.pt (bN f BL AL (bq cnt))],.rp C 0] m nx (fun d m' nx'=>d=.tup []/\nx'=nx/\m'=up m M (some (.map (bm s)))):=by
 have _:=X;have _:=Da;refine pX mixed KA (by rw[VR];rfl) ?_;rw[VS,VT];have aA:=zk;refine aC (aj ?_);refine af ?_;refine aH (EJ rfl U rfl wq (I5 JM _ _)) (by repeat' (first|exact trivial|exact rfl|refine And.intro ?_ ?_)) ⟨wu,z9 qM _,E9 qM _⟩ ?_;rw[decide_eq_true bd];refine SS ?_;(iterate 8 refine z fun _ _=>?_);refine SS ?_;refine ab (bh rfl (fun _=>cU (qf ⟨rfl,rfl,?_⟩)) fun h=>oH);funext j;simp only[up];split
 .rename_i e;rw[e,U]
 .rfl
set_option maxHeartbeats 1000000 in
theorem k93{f:aF}{BL AL:List (List Int)}{cnt:List Bool}{ahd:Nat->List Int}{n:Nat}(cH:cnt.length=n)(jR:n<=1200)(ie:∀ b,b<n->AL[b]? =some (ahd b))(di:∀ b,∀ a∈ahd b,0<=a/\a.toNat<n)(br:∀ b,(ahd b).length<=100000)
 {M U C:Nat} (DW:M≠U) (Da:M≠C):∀ (k:Nat) (m:Mem) (nx:Nat) (s:List Int) (b:Nat),
 M<nx->U<nx->C<nx->m U=some (.cells [.mp M] 127)->m C=some (.cells [.fn (.func 93) [] [.rp U 0,.pt [.pt (bN f BL AL (bq cnt))],.rp C 0]] 128)->m M=some (.map (bm s))->
 gX n s->b<n->n - s.length<=k->
 ACalls prog 93 [I b,.rp U 0,.pt [.pt (bN f BL AL (bq cnt))],.rp C 0] m nx (fun d m' nx'=>d=.tup []/\nx'=nx/\m'=up m M (some (.map (bm (dD cnt ahd k s b))))):=by
 intro k
 induction k with
 |zero=>
  intro m nx s b Xm h9 ou zk VU X hs hb hk
  have J:(b:Int)∈s:=Classical.byContradiction fun hn=>by
   have:gX n (s++[(b:Int)]):=⟨by
    rw[List.nodup_append];exact⟨hs.nd,by simp,fun x hx y hy e=>by rw[List.mem_singleton] at hy;subst hy e;exact hn hx⟩,fun x hx=>by
    rw[List.mem_append,List.mem_singleton] at hx;rcases hx with hx|hx
    .exact hs.xC x hx
    .subst hx;exact⟨by omega,by simpa using hb⟩⟩
   have:=this.len;rw[List.length_append,List.length_singleton] at this;omega
  exact Ru DW Da zk X J
 |succ k IH=>
  intro m nx s b Xm h9 ou zk VU X hs hb hk
  have dN:cnt[b]? =some (cnt.getD b false):=by
   have:=List.getElem?_eq_getElem (show b<cnt.length by omega);rw[List.getD_eq_getElem?_getD,this];rfl
  have KB:dD cnt ahd (k+1) s b=if(b:Int)∈s\/cnt.getD b false=false then s else(ahd b).foldl (dD cnt ahd k) (s++[(b:Int)]):=rfl
  have xj:up m M (some (.map (bm s)))=m:=by
   funext j;simp only[up];split
   .rename_i e;rw[e,X]
   .rfl
  by_cases J:(b:Int)∈s
  .rw[KB,if_pos (.inl J)];exact Ru DW Da zk X J
  refine pX mixed KA (by rw[VR];rfl) ?_;rw[VS,VT,KB];clear KB;generalize cnt.getD b false=cb at dN;have aA:=zk;have qN:=ie b hb;have br:=br b;have cS:=di b;refine aC (aj ?_);refine af ?_;refine aH (EJ rfl X rfl wq (I5 JM _ _)) (by repeat' (first|exact trivial|exact rfl|refine And.intro ?_ ?_)) ⟨wu,z9 qM _,E9 qM _⟩ ?_;rw[decide_eq_false J];refine af ?_;refine J87 ?_;refine c8 ?_;refine ab (bh rfl (fun h=>cU (qf ⟨rfl,rfl,?_⟩)) fun h=>bS (aj ?_))
  .have:cb=false:=by simpa using h
   rw[if_pos (.inr this),xj]
  .have:cb=true:=by simpa using h
   subst this;have fY:=Rt J;rw[if_neg (by rintro(h|h);exact J h;cases h)]
   have mF:gX n (s++[(b:Int)]):=⟨by
    rw[List.nodup_append];exact⟨hs.nd,by simp,fun x hx y hy e=>by rw[List.mem_singleton] at hy;subst hy e;exact J hx⟩,fun x hx=>by
    rw[List.mem_append,List.mem_singleton] at hx;rcases hx with hx|hx
    .exact hs.xC x hx
    .subst hx;exact⟨by omega,by simpa using hb⟩⟩
   refine af ?_;refine b9 (QZ rfl X rfl rfl wq) (by repeat' (first|exact trivial|exact rfl|refine And.intro ?_ ?_)) ⟨wu,z9 qM _,E9 qM _⟩ ?_;refine ab (aw ?_);generalize ahd b=l at qN br cS;refine aL ?_;have lF:=fun l (hl:∀ a∈l,0<=a/\a.toNat<n)=>abr (cnt:=cnt) di k mF l hl
   refine ab (dK (α:=Nat) (fun j=>⟨az [(1,.rp U 0),(2,.pt [.pt (bN f BL AL (bq cnt))]),(3,.rp C 0),(28,ax l),(29,I l.length),(30,I j)],up m M (some (.map (bm ((l.take j).foldl (dD cnt ahd k) (s++[(b:Int)]))))),nx⟩)
    (fun j=>j<=l.length) (fun j=>l.length - j) 0 (jC eH ?_) (Nat.zero_le _) ?_)
   .rw[List.take_zero];show up m M _=up m M (some (.map (bm (s++[(b:Int)]))));rw[<- fY];rfl
   intro j hj;have aU:∀ a,l[j]? =some a->(l.take (j+1)).foldl (dD cnt ahd k) (s++[(b:Int)])=dD cnt ahd k ((l.take j).foldl (dD cnt ahd k) (s++[(b:Int)])) a:=fun a ha=>iG ha;have fB:j=l.length->(l.take j).foldl (dD cnt ahd k) (s++[(b:Int)])=l.foldl (dD cnt ahd k) (s++[(b:Int)]):=fun e=>by rw[e,List.take_length]
   obtain⟨q1,q2⟩:=lF (l.take j) fun a ha=>cS a (List.mem_of_mem_take ha);generalize (l.take j).foldl (dD cnt ahd k) (s++[(b:Int)])=t at aU fB q1 q2;have aA:up m M (some (.map (bm t))) C=some (.cells [.fn (.func 93) [] [.rp U 0,.pt [.pt (bN f BL AL (bq cnt))],.rp C 0]] 128):=(up_ne _ _ (fun e=>Da e.symm)).trans VU;have Xn:up m M (some (.map (bm t))) U=some (.cells [.mp M] 127):=(up_ne _ _ (fun e=>DW e.symm)).trans zk;have fO:∀ v,up (up m M (some (.map (bm t)))) M v=up m M v:=fun v=>lH _ _ _ _;have Xo:up m M (some (.map (bm t))) M=some (.map (bm t)):=up_same _ _ _;generalize hE:up m M (some (.map (bm t)))=m1 at aA Xn fO Xo;refine SS ?_;refine ab ⟨_,rfl,fun h=>?_,fun h=>?_⟩
   .have ao:j<l.length:=by simpa using h
    have hx:l[j]? =some l[j]:=List.getElem?_eq_getElem ao;have jQ:=cS _ (List.getElem_mem ao);generalize l[j]=a at hx jQ;have aU:=aU a hx;obtain⟨an,rfl⟩:=Int.eq_ofNat_of_zero_le jQ.1;have vC:an<n:=jQ.2;refine ws ?_;refine au ?_;refine ab (dz ?_);refine af ?_;rw[List.length_append,List.length_singleton] at q2;refine m7 (IH m1 nx t an Xm h9 ou Xn aA Xo q1 vC oG) rfl (by repeat' (first|exact trivial|exact rfl|refine And.intro ?_ ?_)) fun d m' nx' hp=>?_;obtain⟨rfl,rfl,rfl⟩:=hp;refine ab ?_;refine af ?_;refine ab (aJ (j+1) (jC eH ?_) oG oG);rw[fO,aU]
   .have aX:¬ j<l.length:=by simpa using h
    have e:=fB oG;subst e;exact qg ⟨rfl,rfl,hE.symm⟩
end Go.Proofs.Tryz.K
namespace Go.Abs
theorem Rv{P:Program}{Y:YSpec}{rf:Bool}{b:Code}{Q:Exit->St->Prop}{env:Env}{m:Mem}{nx:Nat}{l:List (Nat×D)}(he:lz l env)(K:∀ M,M=m->AW P Y rf b Q ⟨az l,M,nx⟩):
 ∃ st',Ghost P ⟨env,m,nx⟩ st'/\AW P Y rf b Q st':=⟨_,av he,K m rfl⟩
end Go.Abs
namespace Go.Argus
def dW(p:Int×List Int):List D:=[I p.1,ax p.2]
@[simp] theorem Hn (p : Int × List Int) : (dW p).length = 2 := rfl
def sY(l:List (Int×List Int)):D:=if l=[] then .z else .sl (l.flatMap dW) l.length
theorem Ov(l:List (Int×List Int)):Tr (sY l):=by
 unfold sY;split
 .exact .z
 .exact .sl (.flat fun p=>.cons (.s _) (.cons (cB _) .nil))
def Ac(f:aF):List (Int×List Int):=Ft (a8 (aD f) f.blocks.length (-1)) (bM (aD f) (bu f) f.blocks.length) (bu f) f.blocks.length
def we(f:aF):D:=if cR f=0 then .tup [sY (Ac f),I 0] else .tup [.z,I (cR f)]
theorem Nu(f:aF):Tr (we f):=by
 unfold we;split
 .exact .tup (.cons (Ov _) (.cons (.s _) .nil))
 .exact .tup (.cons .z (.cons (.s _) .nil))
def iO(s:List Int)(i:Nat):List Int:=((List.range i).filter fun(i:Nat)=>decide ((i:Int)∈s)).map fun(i:Nat)=>(i:Int)
theorem Y7(s:List Int)(i:Nat):iO s (i+1)=if(i:Int)∈s then iO s i++[(i:Int)] else iO s i:=by
 unfold iO;rw[List.range_succ,List.filter_append,List.map_append];by_cases h:(i:Int)∈s
 .rw[if_pos h,List.filter_cons_of_pos (by simpa using h)];rfl
 .rw[if_neg h,List.filter_cons_of_neg (by simpa using h),List.filter_nil,List.map_nil,List.append_nil]
theorem Nv(s:List Int)(i:Nat):(iO s i).length<=i:=by
 unfold iO;rw[List.length_map];exact Nat.le_trans (List.length_filter_le _ _) oS
theorem O5{cnt:List Bool}{ahd:Nat->List Int}{x:Int}:∀ (k:Nat) (s:List Int) (b:Int),x∈s->x∈dD cnt ahd k s b
 |0,s,b,h=>h
 |k+1,s,b,h=>by
  rw[dD];split
  .exact h
  .have C:∀ (l:List Int) (t:List Int),x∈t->x∈l.foldl (dD cnt ahd k) t:=fun l=>by
    induction l with
    |nil=>exact fun t ht=>ht
    |cons a l ih=>exact fun t ht=>ih _ (O5 k t a ht)
   exact C _ _ (by simp[h])
structure amu(cs:List D)(l:Nat)(p:Int×List Int)(m:Mem)(nx:Nat):Prop where
 Xp:4<=nx
 row:∃ q,m 3=some (.cells [.rs q 0 (l+1)] 59)/\4<=q/\q<nx/\m q=some (.cells (cs++dW p) 74)
theorem Z7{cnt:List Bool}{aM:List Int}{ahd:Nat->List Int}{n:Nat}(xs:List Int):(xs.foldl (ji cnt aM ahd n) []).length<=xs.length:=by
 induction xs using s7 with
 |h0=>exact Nat.le_refl _
 |h1 xs b ih=>
  rw[List.foldl_append,List.length_append,List.length_singleton];show(ji cnt aM ahd n _ b).length<=_;generalize xs.foldl (ji cnt aM ahd n) []=o at ih ⊢;unfold ji;split
  .rw[List.length_append,List.length_singleton];omega
  .omega
structure Xq(s:List Int)(b nx qb:Nat)(m m':Mem)(nx' i:Nat):Prop where
 Xp:nx+4<=nx'
 mp:m' nx=some (.map (bm s))
 m1:m' (nx+1)=some (.cells [.mp nx] 127)
 row:m' (nx+3)=some (.cells [I b,if iO s i=[] then .z else .rs qb 0 (iO s i).length] 74)
 bod:iO s i≠[]->nx+4<=qb/\qb<nx'/\m' qb=some (.cells ((iO s i).map I) 3)
 mG:∀ p,p<nx->m' p=m p
structure zl(L:List (Int×List Int))(m:Mem)(nx:Nat):Prop where
 Xp:4<=nx
 row:∃ q,m 3=some (.cells [if L=[] then .z else .rs q 0 L.length] 59)/\(L≠[]->4<=q/\q<nx/\m q=some (.cells (L.flatMap dW) 74))
def lp(ord:List Int)(n:Nat):Nat->List Int
 |0=>List.replicate n (-1)
 |i+1=>(lp ord n i).set (ord.getD i 0).toNat i
theorem E'{ord:List Int}{n:Nat}:∀ i,(lp ord n i).length=n
 |0=>by simp[lp]
 |i+1=>by simp[lp,E' i]
theorem O6{ord:List Int}{n:Nat}(nd:ord.Nodup)(C:∀ b∈ord,0<=b/\b.toNat<n):∀ i,i<=ord.length->∀ j b,j<i->ord[j]? =some b->(lp ord n i).getD b.toNat (-1)=j
 |0,_,j,_,h,_=>absurd h (Nat.not_lt_zero j)
 |i+1,hi,j,b,hj,hb=>by
  have hl:i<ord.length:=hi;have ha:=List.getElem?_eq_getElem hl;have hd:ord.getD i 0=ord[i]:=by rw[List.getD_eq_getElem?_getD,ha];rfl
  rw[lp,hd,List.getD_eq_getElem?_getD,List.getElem?_set];have U:=C _ (List.getElem_mem hl);by_cases e:j=i
  .subst e;rw[ha] at hb;cases hb;rw[if_pos rfl,if_pos (by rw[E'];exact U.2)];rfl
  .have J:¬ ord[i].toNat=b.toNat:=fun e'=>by
    obtain⟨X,e2⟩:=List.getElem?_eq_some_iff.1 hb;have M:=C b (e2▸List.getElem_mem X);have:ord[i]=ord[j]:=by rw[e2];omega
    have:=(List.getElem_inj nd).1 this;omega
   rw[if_neg J, <- List.getD_eq_getElem?_getD];exact O6 nd C i oG j b oG hb
def yJ(cnt:List Bool)(C aM:List Int)(n:Nat)(b a:Int):Bool:=
 if(if cnt.getD a.toNat false=true then decide (C.getD b.toNat (-1)<=C.getD a.toNat (-1)) else false)=true then gy aM (n+1) b a else true
def qz(cnt:List Bool)(C aM:List Int)(ahd:Nat->List Int)(n:Nat)(b:Int):Bool:=(ahd b.toNat).all (yJ cnt C aM n b)
def Gi(cnt:List Bool)(C aM:List Int)(ahd:Nat->List Int)(n:Nat):Bool:=(allI cnt n).all (qz cnt C aM ahd n)
def yK(f:aF):Bool:=Gi (a8 (aD f) f.blocks.length (-1)) (lp (bI (aD f) f.blocks.length) f.blocks.length (bI (aD f) f.blocks.length).length) (bM (aD f) (bu f) f.blocks.length) (bu f) f.blocks.length
def pu(f:aF):D:=if cR f=0 then .tup [B (yK f),I 0] else .tup [B false,I (cR f)]
theorem O7(f:aF):Tr (pu f):=by
 unfold pu;split<;>exact .tup (.cons (.s _) (.cons (.s _) .nil))
end Go.Argus
namespace Go.Proofs.Tryz.K
set_option maxRecDepth 10000
theorem acA{f:aF}(C:cR f≠0):PCall prog 41 [.agg (aG f)] (we f):=by
 have J:=IK C;refine a9 mixed KC (by rw[VZ];rfl) (.cons (.agg (gn f)) .nil) (Nu f) ?_;rw[we,if_neg C];generalize cR f=e at J C;have gZ:(e !=0)=true:=by simpa using C
 rw[V0,V1];refine aw ?_;refine au ?_;refine ab (aO (bw [(0,aG f,26)] eH (l:=[(1,.pt (aG f))]) eH) (aj ?_));refine SS ?_;refine cl J ?_;refine bD ?_;refine ab (aC (aj ?_));refine af ?_;refine ab (bh rfl (fun _=>?_) fun h=>oH);refine aC (aj ?_);refine au ?_;exact ab (cU (j6 rfl rfl rfl))
set_option maxHeartbeats 2000000 in
theorem adE{f:aF}(bJ:cR f=0):PCall prog 41 [.agg (aG f)] (we f):=by
 have gi:=Fq bJ
 have hf:ik f=true:=by
  unfold cR at bJ;split at bJ
  .assumption
  .cases bJ
 have bB:=uG hf;have hg:=tO bB;refine a9 mixed KC (by rw[VZ];rfl) (.cons (.agg (gn f)) .nil) (Nu f) ?_;rw[we,if_pos bJ];obtain⟨n,hn⟩:∃ n,f.blocks.length=n:=⟨_,rfl⟩
 have wN:=bB.gO;have iV:ye f=bN f (cm f) (cC f.blocks) (bq (a8 (aD f) f.blocks.length (-1))):=rfl;have jB:=Ku bB (c:=bq (a8 (aD f) f.blocks.length (-1))) (.sl (.map fun _=>.s _)) rfl;have fP:=fP (f:=f) (beh:=cm f) (ahd:=cC f.blocks) (cnt:=a8 (aD f) f.blocks.length (-1)) (by rw[mO hg.to hg.pos];omega);have fM:=mO (w:= -1) hg.to hg.pos;have ie:∀ b,b<f.blocks.length->(cC f.blocks)[b]? =some (bu f b):=fun b hb=>zK (by simp[cC];omega);have dT:=BH bB;have di:∀ b,∀ a∈bu f b,0<=a/\a.toNat<f.blocks.length:=fun b a ha=>by have:=(hg.nE b a).1 ha;exact⟨this.1,this.2.1⟩
 have ln:∀ (h a:Nat),(a8 (aD f) f.blocks.length (-1)).getD a false=true->PCall prog 87 [ax (bM (aD f) (bu f) f.blocks.length),I h,I a] (B (gy (bM (aD f) (bu f) f.blocks.length) (f.blocks.length+1) h a)):=fun h a ha=>
  xy (vg (aD f) f.blocks.length) (.inr ⟨a,rfl,ha,by have:=rD hg ha;have:=qk hg;omega⟩) (HJ hg)
 have vF:=fun M i9 i11 (h1:M≠i9) (h2:M≠i11) k m nx s b=>k93 (f:=f) (BL:=cm f) (AL:=cC f.blocks) fM wN ie di dT h1 h2 k m nx s b;have Xr:Ac f=Ft (a8 (aD f) f.blocks.length (-1)) (bM (aD f) (bu f) f.blocks.length) (bu f) f.blocks.length:=rfl;rw[iV] at gi;rw[fM] at fP;rw[Xr];clear Xr;rw[V0,V1];generalize cC f.blocks=AL at gi jB fP ie vF;generalize cm f=BL at gi jB fP vF;generalize bM (aD f) (bu f) f.blocks.length=aM at jB ln ⊢;generalize a8 (aD f) f.blocks.length (-1)=cnt at gi jB fP fM ln vF ⊢;generalize bu f=ahd at ie dT di vF ⊢;rw[hn] at fM ie di fP wN ln vF ⊢;refine aw ?_;refine au ?_;refine ab (aO (bw [(0,aG f,26)] eH (l:=[(1,.pt (aG f))]) eH) (aw ?_));refine SS ?_;refine cl gi ?_;refine bD ?_;refine ab (aO (bw [(1,[.pt (bN f BL AL (bq cnt))],79)] eH (l:=[(4,.pt [.pt (bN f BL AL (bq cnt))]),(5,I 0)]) eH) (aC (aj ?_)));refine af ?_;refine ab (bh rfl (fun h=>oH) fun _=>bS (aw ?_));refine SS ?_;refine cl jB ?_;refine af ?_;refine ab (aO (bw [(2,[ax aM],27)] eH (l:=[(4,.pt [.pt (bN f BL AL (bq cnt))]),(6,.pt [ax aM])]) eH) (aj ?_));refine SS ?_;refine ab ?_;have pO:Ft cnt aM ahd n=(allI cnt n).foldl (ji cnt aM ahd n) []:=rfl;rw[pO];clear pO
 have zi:(allI cnt n).length<=n:=by
  unfold allI;rw[List.length_map];exact Nat.le_trans (List.length_filter_le _ _) oS
 have bQ:∀ (k:Nat) x,(allI cnt n)[k]? =some x->∃ b:Nat,x=b/\b<n:=fun k x hx=>by
  have:=List.mem_of_getElem? hx;unfold allI at this;obtain⟨b,hb,rfl⟩:=List.mem_map.1 this;rw[List.mem_filter,List.mem_range] at hb;exact⟨b,rfl,hb.1⟩
 generalize allI cnt n=xs at fP zi bQ ⊢;refine dE (fun s=>∃ m nx,Ghost prog s ⟨az [(7,.rp 3 0)],m,nx⟩/\zl (xs.foldl (ji cnt aM ahd n) []) m nx) (aj ?_) fun s hs=>?_
 .refine af ?_;refine ab (ja ?_);refine⟨rfl,trivial,61,_,[],xs.map (fun n=>[I n]),fun k m nx=>zl ((xs.take k).foldl (ji cnt aM ahd n) []) m nx,rfl,fP,?_,?_,?_,?_⟩
  .intro y hy;obtain⟨n,_,rfl⟩:=List.mem_map.1 hy;exact⟨rfl,.cons (.s _) .nil⟩
  .exact⟨Nat.le_refl _,0,rfl,fun h=>absurd rfl h⟩
  .rintro k m nx y hy hI;simp only[List.getElem?_map,Option.map_eq_some_iff] at hy;obtain⟨b,hb,rfl⟩:=hy;obtain⟨C,rfl,gP⟩:=bQ k b hb;have hk:k<xs.length:=(List.getElem?_eq_some_iff.1 hb).1;have bC:(xs.take (k+1)).foldl (ji cnt aM ahd n) []=ji cnt aM ahd n ((xs.take k).foldl (ji cnt aM ahd n) []) C:=iG hb;have hLk:((xs.take k).foldl (ji cnt aM ahd n) []).length<=k:=Nat.le_trans (Z7 _) oP;generalize (xs.take k).foldl (ji cnt aM ahd n) []=L at hI bC hLk;have DX:ji cnt aM ahd n L (C:Int)=if(qp cnt aM ahd n C).2=true then L++[((C:Int),rM n (qp cnt aM ahd n C).1)] else L:=rfl
   have Xs:qp cnt aM ahd n (C:Int)=(ahd C).foldl (lE cnt aM ahd n C) ([(C:Int)],false):=rfl;rw[Xs] at DX;rw[DX] at bC;clear DX Xs;obtain⟨S,hS⟩:∃ S,(ahd C).foldl (lE cnt aM ahd n C) ([(C:Int)],false)=S:=⟨_,rfl⟩
   rw[hS] at bC;have n4:S.2=true->∀ m nx,zl (L++[((C:Int),rM n S.1)]) m nx->zl ((xs.take (k+1)).foldl (ji cnt aM ahd n) []) m nx:=fun hc m nx h=>by rw[bC,if_pos hc];exact h
   have zm:S.2=false->∀ m nx,zl L m nx->zl ((xs.take (k+1)).foldl (ji cnt aM ahd n) []) m nx:=fun hc m nx h=>by rw[bC,hc,if_neg oS];exact h
   clear bC;obtain⟨aqV,q,DY,tU⟩:=hI;have qN:=ie C gP;have cI:=dT C;have jU:=di C;have ln:=ln C;have vF:=vF nx (nx+1) (nx+2) oG oG;have V2:∀ (s:List Int×Bool) (a:Nat),lE cnt aM ahd n (C:Int) s a=if cnt.getD a false=true/\gy aM (n+1) C a=true then(dD cnt ahd n s.1 a,true) else s:=fun s a=>rfl
   have Xt:∀ (s:List Int) (a:Nat),gX n s->a<n->gX n (dD cnt ahd n s a):=fun s a hs ha=>(Ib di n s a hs ⟨by omega,by simpa using ha⟩).1;have sc:gX n [(C:Int)]:=⟨by simp,fun x hx=>by rw[List.mem_singleton] at hx;subst hx;exact⟨by omega,by simpa using gP⟩⟩
   generalize ahd C=l at qN cI jU hS;refine fe ?_;refine SS ?_;refine ab (show AW _ _ _ _ _ _ from ja (aj ?_));refine af ?_;refine b9 (Oe rfl (up_same _ _ _) rfl rfl wq) (by repeat' (first|exact trivial|exact rfl|refine And.intro ?_ ?_)) ⟨wu,by rfl,by rfl⟩ ?_;refine af ?_;refine b9 (eS (d:=.mp _) (cs':=[_]) rfl rfl (up_same _ _ _) rfl rfl) ak (cP V.h V.h (by first|(simp;done)|exact⟨rfl,Nat.le_of_ble_eq_true rfl⟩|(simp;omega)) rfl) ?_;refine er ?_;refine SS ?_;refine er ?_;refine SS ?_;refine ab (aw ?_);refine SS ?_;refine b9 (eS (d:=.fn _ _ _) (cs':=[_]) rfl rfl (up_same _ _ _) rfl rfl) ak (cP V.h V.h (by first|(simp;done)|exact⟨rfl,Nat.le_of_ble_eq_true rfl⟩|(simp;omega)) rfl) ?_;have fY:putD (.int .i64 (C:Int)) (B true) (bm [])=bm [(C:Int)]:=Rt oS;refine ab (Rv (l:=[(4,.pt [.pt (bN f BL AL (bq cnt))]),(6,.pt [ax aM]),(7,.rp 3 0),(8,I C),(9,.rp (nx+1) 0),(10,B false),(11,.rp (nx+2) 0)]) ⟨rfl,rfl,rfl,rfl,rfl,rfl,rfl,trivial⟩ fun M1 DZ=>aC (aw ?_));have m0:M1 nx=some (.map (bm [(C:Int)])):=by rw[DZ, <- fY];exact ap oG (ap oG (ap oG (ap oG (up_same _ _ _))))
   have m1:M1 (nx+1)=some (.cells [.mp nx] 127):=by rw[DZ];exact ap oG (ap oG (up_same _ _ _))
   have m2:M1 (nx+2)=some (.cells [.fn (.func 93) [] [.rp (nx+1) 0,.pt [.pt (bN f BL AL (bq cnt))],.rp (nx+2) 0]] 128):=by rw[DZ];exact up_same _ _ _
   have V3:∀ p,p<nx->M1 p=m p:=fun p hp=>by
    have a1:p≠nx:=by omega
    have a2:p≠nx+1:=by omega
    have a3:p≠nx+2:=by omega
    rw[DZ];exact ap a3 (ap a3 (ap a2 (ap a2 (ap a1 (ap a1 rfl)))))
   clear DZ fY;refine aL ?_
   refine ab (bO (fun s=>Ghost prog s ⟨az [(4,.pt [.pt (bN f BL AL (bq cnt))]),(7,.rp 3 0),(8,I C),(9,.rp (nx+1) 0),(10,B S.2)],up M1 nx (some (.map (bm S.1))),nx+3⟩/\(C:Int)∈S.1) (dK (α:=Nat×(List Int×Bool))
    (fun j=>⟨az [(4,.pt [.pt (bN f BL AL (bq cnt))]),(6,.pt [ax aM]),(7,.rp 3 0),(8,I C),(9,.rp (nx+1) 0),(10,B j.2.2),(11,.rp (nx+2) 0),(39,ax l),(40,I l.length),(41,I j.1)],up M1 nx (some (.map (bm j.2.1))),nx+3⟩)
    (fun j=>j.1<=l.length/\(gX n j.2.1/\(C:Int)∈j.2.1)/\(True->(l.take j.1).foldl (lE cnt aM ahd n C) ([(C:Int)],false)=j.2)) (fun j=>l.length - j.1) (0,([(C:Int)],false))
    (jC eH ?_) ⟨Nat.zero_le _,⟨sc,by simp⟩,fun _=>rfl⟩ ?_) ?_)
   .funext p;simp only[up];split
    .rename_i e;rw[e];exact m0
    .rfl
   .rintro⟨j,s⟩ ⟨hj,⟨hs,iB⟩,pH⟩;dsimp only at hj hs iB pH ⊢;refine SS ?_;refine ab ⟨_,rfl,fun h=>?_,fun h=>?_⟩
    .have ao:j<l.length:=by simpa using h
     have hx:l[j]? =some l[j]:=List.getElem?_eq_getElem ao;have jQ:=jU _ (List.getElem_mem ao);generalize l[j]=a at hx jQ;obtain⟨U,rfl⟩:=Int.eq_ofNat_of_zero_le jQ.1;have vC:U<n:=jQ.2;have jm:True->(l.take (j+1)).foldl (lE cnt aM ahd n C) ([(C:Int)],false)=if cnt.getD U false=true/\gy aM (n+1) C U=true then(dD cnt ahd n s.1 U,true) else s:=fun _=>by rw[iG hx,pH trivial];exact V2 s U
     have lb:cnt[U]? =some (cnt.getD U false):=by
      have:=List.getElem?_eq_getElem (show U<cnt.length by omega);rw[List.getD_eq_getElem?_getD,this];rfl
     have xy:(cnt.getD U false==true)=true->PCall prog 87 [ax aM,I C,I U] (B (gy aM (n+1) C U)):=fun hc=>ln U (by simpa using hc);have hv:=Xt s.1 U hs vC;have hvm:(C:Int)∈dD cnt ahd n s.1 U:=O5 n s.1 U iB;have fq:=hs.len;generalize gy aM (n+1) C U=ov at xy jm;generalize cnt.getD U false=ca at lb xy jm;refine ws ?_;refine au ?_;refine er ?_;refine aL ?_;refine af ?_;refine Cq rfl rfl rfl (fun hc=>⟨ak,xy hc⟩) ?_;refine SS ?_;refine ab (aq rfl (fun h=>aj ?_) fun h=>cg ?_)
     .have hc:ca=true/\ov=true:=by revert h;cases ca<;>simp
      refine SS ?_;refine ab (dz ?_);have aA:up M1 nx (some (.map (bm s.1))) (nx+2)=some (.cells [.fn (.func 93) [] [.rp (nx+1) 0,.pt [.pt (bN f BL AL (bq cnt))],.rp (nx+2) 0]] 128):=ap oG m2;have GU:up M1 nx (some (.map (bm s.1))) (nx+1)=some (.cells [.mp nx] 127):=ap oG m1;refine af ?_;refine m7 (vF n _ (nx+3) s.1 U oG oG oG GU aA (up_same _ _ _) hs vC oG) rfl (by repeat' (first|exact trivial|exact rfl|refine And.intro ?_ ?_)) fun d m' nx' hp=>?_;obtain⟨rfl,rfl,rfl⟩:=hp;refine ab ?_;refine af ?_;refine ab (aJ (j+1,(dD cnt ahd n s.1 U,true)) (jC eH (lH _ _ _ _)) ⟨by dsimp only;omega,⟨hv,hvm⟩,fun _=>by rw[jm trivial,if_pos hc]⟩ oM)
     .have hc:¬ (ca=true/\ov=true):=by revert h;cases ca<;>cases ov<;>simp
      refine af ?_;refine ab (aJ (j+1,s) (av eH) ⟨by dsimp only;omega,⟨hs,iB⟩,fun _=>by rw[jm trivial,if_neg hc]⟩ oM)
    .have aX:¬ j<l.length:=by simpa using h
     have e:=pH trivial;rw[List.take_of_length_le oG,hS] at e;subst e;exact⟨av eH,iB⟩
   rintro s ⟨jy,Xu⟩;have mK:∀ p,p<nx->up M1 nx (some (.map (bm S.1))) p=m p:=fun p hp=>(up_ne _ _ oG).trans (V3 p hp);refine⟨_,jy,aC (aj ?_)⟩;refine af ?_;refine ab (bh rfl (fun h=>kF ?_) fun h=>bS (aw ?_))
   .have hc:S.2=false:=by simpa using h
    simp only[blockQ,if_true];refine zm hc _ _ ⟨by dsimp only;omega,q,(mK 3 oG).trans DY,fun aB=>?_⟩;obtain⟨q1,q2,q3⟩:=tU aB;exact⟨q1,by dsimp only;omega,(mK q q2).trans q3⟩
   have hc:S.2=true:=by simpa using h
   have n4:=n4 hc;clear zm hc h ln vF V2 Xt sc hS;obtain⟨J,sB⟩:=S;dsimp only at mK n4 Xu ⊢;have iW:up M1 nx (some (.map (bm J))) nx=some (.map (bm J)):=up_same _ _ _;have n6:up M1 nx (some (.map (bm J))) (nx+1)=some (.cells [.mp nx] 127):=(up_ne _ _ oG).trans m1;generalize up M1 nx (some (.map (bm J)))=M2 at mK iW n6;refine aP ?_;refine ab (Rv (l:=[(4,.pt [.pt (bN f BL AL (bq cnt))]),(7,.rp 3 0),(8,I C),(9,.rp (nx+1) 0),(14,.rp (nx+3) 0)]) ⟨rfl,rfl,rfl,rfl,rfl,trivial⟩ fun M3 D0=>aC (aw ?_));have m3:M3 (nx+3)=some (.cells [I C,.z] 74):=by rw[D0];exact up_same _ _ _
   have mK:∀ p,p<nx->M3 p=m p:=fun p hp=>by rw[D0];exact ap oG (ap oG (mK p hp))
   have iW:M3 nx=some (.map (bm J)):=by rw[D0];exact ap oG (ap oG iW)
   have n6:M3 (nx+1)=some (.cells [.mp nx] 127):=by rw[D0];exact ap oG (ap oG n6)
   clear D0 jy m0 m1 m2 V3;refine c8 ?_
   refine ab (bO (fun s=>∃ qb m' nx',Ghost prog s ⟨az [(7,.rp 3 0),(14,.rp (nx+3) 0)],m',nx'⟩/\Xq J C nx qb m m' nx' n) (dK (α:=Nat×Nat×Mem×Nat)
    (fun s=>⟨az [(7,.rp 3 0),(9,.rp (nx+1) 0),(14,.rp (nx+3) 0),(71,I n),(72,I s.1)],s.2.2.1,s.2.2.2⟩)
    (fun s=>s.1<=n/\Xq J C nx s.2.1 m s.2.2.1 s.2.2.2 s.1) (fun s=>n - s.1) (0,0,M3,nx+4)
    (av ⟨rfl,rfl,rfl,congrArg (fun k:Nat=>I k) hn,rfl,trivial⟩) ⟨Nat.zero_le _,Nat.le_refl _,iW,n6,m3,fun h=>absurd rfl h,mK⟩ ?_) ?_)
   .clear mK iW n6 m3;rintro⟨i,qb,M4,nx'⟩ ⟨hi,hB⟩;dsimp only at hi hB ⊢;have⟨Xv,iW,n6,qE,wW,mK⟩:=hB;refine SS ?_;refine ab ⟨_,rfl,fun h=>?_,fun h=>?_⟩
    .have ao:i<n:=by simpa using h
     refine ws ?_;refine af ?_;refine er ?_;have aA:=n6;refine af ?_;refine aH (EJ rfl iW rfl wq (I5 JM _ _)) (by repeat' (first|exact trivial|exact rfl|refine And.intro ?_ ?_)) ⟨wu,z9 qM _,E9 qM _⟩ ?_;have cI:=Nv J i;have qH:=Y7 J i;refine ab (aq rfl (fun h=>dz ?_) fun h=>cg ?_)
     .have bd:(i:Int)∈J:=by simpa using h
      rw[if_pos bd] at qH;have aA:=qE;by_cases hz:iO J i=[]
      .rw[if_pos hz] at aA;refine aK ?_;refine aH (sP rfl (ap oG (ap oG aA)) V.h) ak (qn V.h) ?_;refine SS ?_;refine ab ?_;show AOps _ _ _ _ _ _ _ _ _;refine af ?_;refine ab (aJ (i+1,nx'+1,up (up (up M4 nx' (some (.cells [I i] 3))) (nx'+1) (some (.cells [I i] 3))) (nx+3) (some (.cells [I C,.rs (nx'+1) 0 1] 74)),nx'+2) (av eH) ⟨by dsimp only;omega,by dsimp only;omega,?_,?_,?_,fun _=>⟨by dsimp only;omega,by dsimp only;omega,?_⟩,fun p hp=>?_⟩ oM)
       .exact ap oG (ap oG (ap oG iW))
       .exact ap oG (ap oG (ap oG n6))
       .dsimp only;rw[qH,hz];exact up_same _ _ _
       .dsimp only;rw[qH,hz];exact ap oG (up_same _ _ _)
       .exact ap oG (ap oG (ap oG (mK p hp)))
      .have hzm:(iO J i).map I≠[]:=by simpa using hz
       rw[if_neg hz] at aA;obtain⟨q1,q2,ix⟩:=wW hz;refine aK ?_;refine aH (sP rfl (ap oG (ap oG (ap oG aA))) V.h) ak (qn V.h) ?_;refine SS ?_;refine ab ?_;show AOps _ _ _ _ _ _ _ _ _;refine af ?_;refine ab (aJ (i+1,nx'+1,up (up (up (up M4 nx' (some (.cells [I i] 3))) qb none) (nx'+1) (some (.cells ((iO J i).map I++[I i]) 3))) (nx+3) (some (.cells [I C,.rs (nx'+1) 0 ((iO J i).length+1)] 74)),nx'+2) (av eH) ⟨by dsimp only;omega,by dsimp only;omega,?_,?_,?_,fun _=>⟨by dsimp only;omega,by dsimp only;omega,?_⟩,fun p hp=>?_⟩ oM)
       .exact ap oG (ap oG (ap oG (ap oG iW)))
       .exact ap oG (ap oG (ap oG (ap oG n6)))
       .dsimp only;rw[qH,if_neg oS,List.length_append,List.length_singleton];exact up_same _ _ _
       .dsimp only;rw[qH,List.map_append];exact ap oG (up_same _ _ _)
       .exact ap oG (ap oG (ap oG (ap oG (mK p hp))))
     .have bd:¬ (i:Int)∈J:=by simpa using h
      rw[if_neg bd] at qH;refine af ?_;refine ab (aJ (i+1,qb,M4,nx') (av eH) ⟨by dsimp only;omega,Xv,iW,n6,?_,?_,mK⟩ oM)
      .dsimp only;rw[qH];exact qE
      .dsimp only;rw[qH];exact wW
    .have aX:¬ i<n:=by simpa using h
     have:i=n:=by omega
     subst this;exact⟨qb,M4,nx',av eH,hB⟩
   rintro s ⟨qb,M4,nx',sC,hB⟩;obtain⟨Xv,iW,n6,qE,wW,mK⟩:=hB
   have kY:iO J n≠[]:=fun e=>by
    have:(C:Int)∈iO J n:=(ER (n:=n) (s:=J) (x:=C)).2 ⟨gP,Xu⟩;rw[e] at this;simp at this
   obtain⟨q1,q2,Xw⟩:=wW kY;rw[if_neg kY] at qE;have cI:=Nv J n;refine⟨_,sC.trans (ED (i:=qb) (e:=3) (cs:=(iO J n).map I) (l:=[(7,.rp 3 0),(14,.rp (nx+3) 0)]) Xw ⟨uz oG,uz oG,trivial⟩),fe ?_⟩
   have qE:(fun j=>if j=qb then none else(M4 j).map (Row.sub (fz0 qb ((iO J n).map I) (prog.cellsOf 3)))) (nx+3)=some (.cells (dW ((C:Int),rM n J)) 74):=by
    dsimp only;rw[if_neg oG,qE];show some (Row.cells [I C,sub _ (.rs qb 0 (iO J n).length)] 74)=_;rw[iY (by rw[c3];simp)];rfl
   have DY:(fun j=>if j=qb then none else(M4 j).map (Row.sub (fz0 qb ((iO J n).map I) (prog.cellsOf 3)))) 3=some (.cells [if L=[] then .z else .rs q 0 L.length] 59):=by
    dsimp only;rw[if_neg oG,mK 3 oG,DY];refine congrArg some (jf.cells (X:=fun p=>p=qb) (fun d hd=>?_) _ _ _ rfl);rw[List.mem_singleton] at hd;subst hd;split
    .exact .z
    .rename_i aB;have:=(tU aB).2.1;exact .rs oG
   have tU:L≠[]->4<=q/\q<nx/\(fun j=>if j=qb then none else(M4 j).map (Row.sub (fz0 qb ((iO J n).map I) (prog.cellsOf 3)))) q=some (.cells (L.flatMap dW) 74):=fun aB=>by
    obtain⟨a,b,c⟩:=tU aB;refine⟨a,b,?_⟩;dsimp only;rw[if_neg oG,mK q b,c];refine congrArg some (jf.cells (X:=fun p=>p=qb) (fun d hd=>?_) _ _ _ rfl);obtain⟨p,_,hp⟩:=List.mem_flatMap.1 hd;simp only[dW,List.mem_cons,List.not_mem_nil,or_false] at hp;rcases hp with rfl|rfl
    .exact .s _
    .exact .sl _ _
   generalize (fun j=>if j=qb then none else(M4 j).map (Row.sub (fz0 qb ((iO J n).map I) (prog.cellsOf 3))))=M5 at qE DY tU ⊢;clear mK iW n6 wW Xw sC;have hL:L.length<100000:=by omega
   have aA:=DY;have cW:=qE;by_cases hz:L=[]
   .rw[if_pos hz] at aA;subst hz;refine SS ?_;refine aH (dU rfl cW V.h V.h rfl) ak (dV V.h V.h (by first|(simp;done)|omega|exact Nat.le_of_ble_eq_true rfl)) ?_;refine SS ?_;refine fX (QU rfl rfl V.h V.h (sQ (up_same _ _ _) rfl)) ak ⟨V.h,(by first|omega|exact Nat.le_of_ble_eq_true rfl|(simp;done)|(simp;omega)),oC,(by unfold maxLen;first|omega|(simp;omega)),(by rw[GV];first|omega|(simp;omega))⟩ ?_;refine SS ?_;refine ab ?_;refine n4 _ _ ⟨by dsimp only;omega,nx'+1,?_,fun _=>⟨by omega,by dsimp only;omega,?_⟩⟩
    .dsimp only;exact up_same _ _ _
    .dsimp only;exact ap oG (up_same _ _ _)
   .rw[if_neg hz] at aA;obtain⟨a1,a2,ix⟩:=tU hz;have cH:(L.flatMap dW).length=L.length*2:=Ej (fun p=>Hn p) L;obtain⟨cs,fL⟩:∃ cs,L.flatMap dW=cs:=⟨_,rfl⟩
    have lS:∀ m nx,amu cs L.length ((C:Int),rM n J) m nx->zl ((xs.take (k+1)).foldl (ji cnt aM ahd n) []) m nx:=fun m nx ⟨h1,q,h2,h3,h4,h5⟩=>n4 m nx ⟨h1,q,by rw[if_neg oS,List.length_append,List.length_singleton];exact h2,fun _=>⟨h3,h4,by rw[List.flatMap_append,fL,List.flatMap_singleton];exact h5⟩⟩;rw[fL] at cH ix;clear fL n4;refine SS ?_;refine aH (dU rfl cW V.h V.h rfl) ak (dV V.h V.h (by first|(simp;done)|omega|exact Nat.le_of_ble_eq_true rfl)) ?_;refine SS ?_;refine tH (tl rfl (ap oG ix) rfl V.h V.h (sQ (up_same _ _ _) rfl) rfl) ak ⟨V.h,rfl,(by first|omega|exact Nat.le_of_ble_eq_true rfl|(simp;done)|(simp;omega)),oC,(by first|rfl|(simp;done)|(simp;omega)),(by unfold maxLen;first|omega|(simp;omega)),(by rw[GV];first|omega|(simp;omega)),(by first|(simp;done)|(simp;omega))⟩ ?_;refine SS ?_;refine ab ?_;refine lS _ _ ⟨by dsimp only;omega,nx'+1,?_,by omega,by dsimp only;omega,?_⟩
    .dsimp only;exact up_same _ _ _
    .dsimp only;exact ap oG (up_same _ _ _)
  .rintro m nx hI;rw[List.length_map,List.take_length] at hI;exact⟨m,nx,av eH,hI⟩
 obtain⟨m,nx,jy,hI⟩:=hs;generalize xs.foldl (ji cnt aM ahd n) []=L at hI ⊢;obtain⟨_,q,h3,hq⟩:=hI;unfold sY;by_cases hz:L=[]
 .rw[if_pos hz] at h3 ⊢;have aA:=h3;refine⟨_,jy,aj ?_⟩;refine au ?_;exact ab (j6 rfl rfl rfl)
 .rw[if_neg hz] at h3 ⊢;obtain⟨q1,q2,hq⟩:=hq hz;have cH:(L.flatMap dW).length=L.length*2:=Ej (fun p=>Hn p) L;refine⟨_,jy.trans (gQ (i:=q) (e:=74) (cs:=L.flatMap dW) (l:=[(7,.rp 3 0)]) (ml:=[(3,.cells [.sl (L.flatMap dW) L.length] 59)]) hq ⟨uz oG,trivial⟩ ⟨?_,trivial⟩),aj ?_⟩
  .dsimp only;rw[if_neg oG,h3];show some (Row.cells [sub _ (.rs q 0 L.length)] 59)=_;rw[iY (by rw[LI];exact cH)]
  refine au ?_;exact ab (j6 rfl rfl rfl)
theorem qO{f:aF}:PCall prog 41 [.agg (aG f)] (we f):=by
 by_cases h:cR f=0
 .exact adE h
 .exact acA h
end Go.Proofs.Tryz.K
namespace Go.Abs
theorem IM{P:Program}{st:St}{K:D->St->Prop}{a b i j:Nat}{C J e e':TypeId}{v w:D}{cs cs':List D}
 (ha:st.env a=.rp i 0) (hm:st.mem i=some (.cells (v::cs) e)) (X:aggP P C=false) (M:P.cellsOf C=1) (ya:tyOk P C=true)
 (hb:st.env b=.rp j 0) (hn:st.mem j=some (.cells (w::cs') e')) (gb:aggP P J=false) (U:P.cellsOf J=1) (yb:tyOk P J=true)
 (h:K (.tup [v,w]) st):retQ P [.cell a C,.cell b J] K .ret st:=by
 obtain⟨p,e1,hp⟩:=MN (P:=P) (ty:=C) ha hm X M rfl ya;obtain⟨p',e2,vw⟩:=MN (P:=P) (ty:=J) hb hn gb U rfl yb;show retL P st [.cell a C,.cell b J] [] _;simp only[retL,e1,e2];exact⟨hp,vw,h⟩
theorem acB{env:Env}{C:Mem->Nat->Prop}{Q:Exit->St->Prop}{st:St}(h:Q .ret ⟨env,st.mem,st.nx⟩):roundQ env C Q .ret st:=h
theorem adF{P:Program}{Y:YSpec}{rf:Bool}{b:Code}{Q:Exit->St->Prop}{st C:St}(hg:Ghost P st C)(h:∃ st',Ghost P C st'/\AW P Y rf b Q st'):∃ st',Ghost P st st'/\AW P Y rf b Q st':=by
 obtain⟨J,h1,h2⟩:=h;exact⟨J,hg.trans h1,h2⟩
end Go.Abs
namespace Go.Proofs.Tryz.K
set_option maxRecDepth 10000
theorem acC{f:aF}(C:cR f≠0):PCall prog 43 [.agg (aG f)] (pu f):=by
 have J:=IK C;refine a9 mixed KD (by rw[V4];rfl) (.cons (.agg (gn f)) .nil) (O7 f) ?_;rw[pu,if_neg C];generalize cR f=e at J C;have gZ:(e !=0)=true:=by simpa using C
 rw[V5,V6];refine aw ?_;refine au ?_;refine ab (aO (gQ (i:=0) (e:=26) (cs:=aG f) (l:=[(1,.pt (aG f)),(2,.rp 1 0),(3,.rp 2 0)]) (ml:=[(1,.cells [B false] 4),(2,.cells [I 0] 34)]) rfl eH eH) (aj ?_));refine SS ?_;refine cl J ?_;refine bD ?_;refine ab (aC (aj ?_));refine af ?_;refine ab (bh rfl (fun _=>?_) fun h=>oH);refine aC (aj ?_);refine SS ?_;refine b9 (eS (d:=.s (.bool _)) (cs':=[_]) rfl rfl rfl rfl rfl) ak (cP V.h V.h (by first|(simp;done)|exact⟨rfl,Nat.le_of_ble_eq_true rfl⟩|(simp;omega)) rfl) ?_;refine SS ?_;exact ab (cU (IM rfl rfl a4 c4 t4 rfl rfl GW GX t34 rfl))
set_option maxHeartbeats 1000000 in
theorem adG{f:aF}(bJ:cR f=0):PCall prog 43 [.agg (aG f)] (pu f):=by
 have gi:=Fq bJ
 have hf:ik f=true:=by
  unfold cR at bJ;split at bJ
  .assumption
  .cases bJ
 have X:=uG hf;have hg:=tO X;refine a9 mixed KD (by rw[V4];rfl) (.cons (.agg (gn f)) .nil) (O7 f) ?_;rw[pu,if_pos bJ];obtain⟨n,hn⟩:∃ n,f.blocks.length=n:=⟨_,rfl⟩
 have wN:=X.gO;have iV:ye f=bN f (cm f) (cC f.blocks) (bq (a8 (aD f) f.blocks.length (-1))):=rfl;have jB:=Ku X (c:=bq (a8 (aD f) f.blocks.length (-1))) (.sl (.map fun _=>.s _)) rfl;have nD:=nD (f:=f) (beh:=cm f) (ahd:=cC f.blocks) (c:=bq (a8 (aD f) f.blocks.length (-1))) (.sl (.map fun _=>.s _)) rfl (n:=f.blocks.length) (by simp[cm]) rfl X.pos oG (beh_in X) (IJ X);have hO:bI (aD f) f.blocks.length=bI (a7 (cm f)) f.blocks.length:=rfl;rw[<- hO] at nD;have fP:=fP (f:=f) (beh:=cm f) (ahd:=cC f.blocks) (cnt:=a8 (aD f) f.blocks.length (-1)) (by rw[mO hg.to hg.pos];omega);have fM:=mO (w:= -1) hg.to hg.pos;have ie:∀ b,b<f.blocks.length->(cC f.blocks)[b]? =some (bu f b):=fun b hb=>zK (by simp[cC];omega);have dT:=BH X;have di:∀ b,∀ a∈bu f b,0<=a/\a.toNat<f.blocks.length:=fun b a ha=>by have:=(hg.nE b a).1 ha;exact⟨this.1,this.2.1⟩
 have M:∀ (h a:Nat),(a8 (aD f) f.blocks.length (-1)).getD a false=true->PCall prog 87 [ax (bM (aD f) (bu f) f.blocks.length),I h,I a] (B (gy (bM (aD f) (bu f) f.blocks.length) (f.blocks.length+1) h a)):=fun h a ha=>
  xy (vg (aD f) f.blocks.length) (.inr ⟨a,rfl,ha,by have:=rD hg ha;have:=qk hg;omega⟩) (HJ hg)
 have zh:=vV hg;have kW:=qk hg;have Xx:yK f=Gi (a8 (aD f) f.blocks.length (-1)) (lp (bI (aD f) f.blocks.length) f.blocks.length (bI (aD f) f.blocks.length).length) (bM (aD f) (bu f) f.blocks.length) (bu f) f.blocks.length:=rfl;rw[iV] at gi;rw[fM] at fP;rw[Xx];clear Xx hO;rw[V5,V6];generalize cC f.blocks=AL at gi jB fP ie nD;generalize cm f=BL at gi jB fP nD;generalize bM (aD f) (bu f) f.blocks.length=aM at jB M ⊢;generalize a8 (aD f) f.blocks.length (-1)=cnt at gi jB fP fM M nD ⊢;generalize bu f=ahd at ie dT di ⊢;generalize bI (aD f) f.blocks.length=O at nD zh kW ⊢;have zg:OCall prog 94 [I f.blocks.length,I (-1)] ((List.replicate n (-1)).map I) n 3:=by rw[hn];exact zg oG
 rw[hn] at fM ie di fP wN M zh kW ⊢;refine aw ?_;refine au ?_;refine ab (aO (gQ (i:=0) (e:=26) (cs:=aG f) (l:=[(1,.pt (aG f)),(2,.rp 1 0),(3,.rp 2 0)]) (ml:=[(1,.cells [B false] 4),(2,.cells [I 0] 34)]) rfl eH eH) (aw ?_));refine SS ?_;refine cl gi ?_;refine bD ?_;refine ab (aO (gQ (i:=3) (e:=79) (cs:=[.pt (bN f BL AL (bq cnt))]) (l:=[(2,.rp 1 0),(3,.rp 2 0),(4,.pt [.pt (bN f BL AL (bq cnt))]),(5,I 0)]) (ml:=[(1,.cells [B false] 4),(2,.cells [I 0] 34)]) rfl eH eH) (aC (aj ?_)));refine af ?_;refine ab (bh rfl (fun h=>oH) fun _=>bS (aw ?_));refine SS ?_;refine cl jB ?_;refine af ?_;refine ab (aO (gQ (i:=4) (e:=27) (cs:=[ax aM]) (l:=[(2,.rp 1 0),(3,.rp 2 0),(4,.pt [.pt (bN f BL AL (bq cnt))]),(6,.pt [ax aM])]) (ml:=[(1,.cells [B false] 4),(2,.cells [I 0] 34)]) rfl eH eH) (aw ?_));refine bD ?_;refine uM zg rfl (by repeat' (first|exact trivial|exact rfl|refine And.intro ?_ ?_)) ?_;refine af ?_;refine ab (aO (aE (l:=[(2,.rp 1 0),(3,.rp 2 0),(4,.pt [.pt (bN f BL AL (bq cnt))]),(6,.pt [ax aM]),(7,.rp 6 0)]) (ml:=[(1,.cells [B false] 4),(2,.cells [I 0] 34),(5,.cells ((lp O n 0).map I) 3),(6,.cells [.rs 5 0 n] 27)]) eH ⟨rfl,rfl,rfl,?_,trivial⟩) (aC (aw ?_)))
 .exact congrArg (fun k=>some (Row.cells [D.rs 5 0 k] 27)) oS
 refine SS ?_;refine uM nD rfl (by repeat' (first|exact trivial|exact rfl|refine And.intro ?_ ?_)) ?_;refine af ?_;have hpd:lp O n O.length=lp O n O.length:=rfl
 refine ab (bO (fun s=>Ghost prog s ⟨az [(2,.rp 1 0),(3,.rp 2 0),(4,.pt [.pt (bN f BL AL (bq cnt))]),(6,.pt [ax aM]),(7,.rp 6 0)],aY [(1,.cells [B false] 4),(2,.cells [I 0] 34),(5,.cells ((lp O n O.length).map I) 3),(6,.cells [.rs 5 0 n] 27)],8⟩)
  (adF (gQ (i:=7) (e:=3) (cs:=O.map I) (l:=[(2,.rp 1 0),(3,.rp 2 0),(4,.pt [.pt (bN f BL AL (bq cnt))]),(6,.pt [ax aM]),(7,.rp 6 0),(31,ax O),(32,I O.length),(33,I ((0:Nat):Int))]) (ml:=[(1,.cells [B false] 4),(2,.cells [I 0] 34),(5,.cells ((lp O n 0).map I) 3),(6,.cells [.rs 5 0 n] 27)]) rfl ⟨rfl,rfl,rfl,rfl,rfl,?_,rfl,rfl,trivial⟩ ⟨rfl,rfl,agI oG rfl .map,?_,trivial⟩) (dK (α:=Nat)
  (fun k=>⟨az [(2,.rp 1 0),(3,.rp 2 0),(4,.pt [.pt (bN f BL AL (bq cnt))]),(6,.pt [ax aM]),(7,.rp 6 0),(31,ax O),(32,I O.length),(33,I k)],aY [(1,.cells [B false] 4),(2,.cells [I 0] 34),(5,.cells ((lp O n k).map I) 3),(6,.cells [.rs 5 0 n] 27)],8⟩)
  (fun k=>k<=O.length) (fun k=>O.length - k) 0 (.refl _) (Nat.zero_le _) ?_)) ?_)
 .exact iY (by rw[c3];simp)
 .dsimp only;rw[if_neg oG];rfl
 .intro k hk;have Lx:=E' (ord:=O) (n:=n) k;refine SS ?_;refine ab ⟨_,rfl,fun h=>?_,fun h=>?_⟩
  .have ao:k<O.length:=by simpa using h
   have hx:O[k]? =some O[k]:=List.getElem?_eq_getElem ao;have sr:=zh _ (List.getElem_mem ao);have aU:lp O n (k+1)=(lp O n k).set (O.getD k 0).toNat k:=rfl;rw[getD_some hx] at aU;generalize O[k]=b at hx sr aU;obtain⟨C,rfl⟩:=Int.eq_ofNat_of_zero_le sr.1;have gP:C<n:=sr.2;rw[Int.toNat_natCast] at aU;refine ws ?_;refine aK ?_;refine ab (dz ?_);refine aK ?_;refine ab ?_;refine af ?_;refine ab (aJ (k+1) (aE eH ⟨rfl,rfl,?_,rfl,trivial⟩) oG oG);rw[aU,List.map_set];rfl
  .have aX:¬ k<O.length:=by simpa using h
   have:k=O.length:=by omega
   subst this;exact aE eH eH
 have LJ:=E' (ord:=O) (n:=n) O.length;generalize lp O n O.length=PM at LJ ⊢;have Xy:Gi cnt PM aM ahd n=(allI cnt n).all (qz cnt PM aM ahd n):=rfl;rw[Xy];clear Xy
 have bQ:∀ (k:Nat) x,(allI cnt n)[k]? =some x->∃ b:Nat,x=b/\b<n:=fun k x hx=>by
  have:=List.mem_of_getElem? hx;unfold allI at this;obtain⟨b,hb,rfl⟩:=List.mem_map.1 this;rw[List.mem_filter,List.mem_range] at hb;exact⟨b,rfl,hb.1⟩
 generalize allI cnt n=xs at fP bQ ⊢;rintro s jy
 have sC:=jy.trans ((gQ (i:=5) (e:=3) (cs:=PM.map I) (l:=[(2,.rp 1 0),(3,.rp 2 0),(4,.pt [.pt (bN f BL AL (bq cnt))]),(6,.pt [ax aM]),(7,.rp 6 0)]) (ml:=[(1,.cells [B false] 4),(2,.cells [I 0] 34),(6,.cells [ax PM] 27)]) rfl eH ⟨rfl,rfl,(by
  dsimp only;rw[if_neg oG];show some (Row.cells [sub _ (.rs 5 0 n)] 27)=_
  rw[iY (by rw[c3];simp[LJ]), <- LJ]),trivial⟩).trans (gQ (i:=6) (e:=27) (cs:=[ax PM]) (l:=[(2,.rp 1 0),(3,.rp 2 0),(4,.pt [.pt (bN f BL AL (bq cnt))]),(6,.pt [ax aM]),(7,.pt [ax PM])]) (ml:=[(1,.cells [B false] 4),(2,.cells [I 0] 34)]) rfl eH eH))
 refine⟨_,sC,dE (fun s=>∃ m nx,Ghost prog s ⟨az [(2,.rp 1 0),(3,.rp 2 0)],m,nx⟩/\m 1=some (.cells [B false] 4)/\m 2=some (.cells [I 0] 34)/\xs.all (qz cnt PM aM ahd n)=true) (aj ?_) fun s hs=>?_⟩
 .clear jy sC jB nD zg gi;refine af ?_;refine ab (ja ?_);refine⟨rfl,trivial,61,_,[],xs.map (fun n=>[I n]),fun k m nx=>m 1=some (.cells [B false] 4)/\m 2=some (.cells [I 0] 34)/\3<=nx/\(True->(xs.take k).all (qz cnt PM aM ahd n)=true),rfl,fP,?_,⟨rfl,rfl,by dsimp only;omega,fun _=>rfl⟩,?_,?_⟩
  .intro y hy;obtain⟨n,_,rfl⟩:=List.mem_map.1 hy;exact⟨rfl,.cons (.s _) .nil⟩
  .rintro k m nx y hy ⟨m1,m2,dM,hI⟩;simp only[List.getElem?_map,Option.map_eq_some_iff] at hy;obtain⟨b,hb,rfl⟩:=hy;obtain⟨C,rfl,gP⟩:=bQ k b hb
   have kn:(∃ a∈ahd C,yJ cnt PM aM n C a=false)->xs.all (qz cnt PM aM ahd n)=false:=fun⟨a,ha,he⟩=>by
    refine List.all_eq_false.2 ⟨_,List.mem_of_getElem? hb,?_⟩;show ¬ qz cnt PM aM ahd n (C:Int)=true;unfold qz;rw[Int.toNat_natCast,Bool.not_eq_true];exact List.all_eq_false.2 ⟨a,ha,by rw[he];exact Bool.noConfusion⟩
   have An:(ahd C).all (yJ cnt PM aM n C)=true->(xs.take (k+1)).all (qz cnt PM aM ahd n)=true:=fun hg=>by
    rw[List.take_add_one,hb,List.all_append,hI trivial];show(true&&(qz cnt PM aM ahd n (C:Int)&&true))=true;unfold qz;rw[Int.toNat_natCast,hg];rfl
   have qN:=ie C gP;have cI:=dT C;have jU:=di C;have M:=M C
   have Bg:PM[C]? =some (PM.getD C (-1)):=by
    have:=List.getElem?_eq_getElem (show C<PM.length by omega);rw[List.getD_eq_getElem?_getD,this];rfl
   have U:∀ a:Nat,yJ cnt PM aM n (C:Int) a=if(if cnt.getD a false=true then decide (PM.getD C (-1)<=PM.getD a (-1)) else false)=true then gy aM (n+1) C a else true:=fun a=>rfl
   clear hI;generalize ahd C=l at qN cI jU kn An;generalize yJ cnt PM aM n (C:Int)=ra at kn An U;generalize PM.getD C (-1)=pb at Bg U;refine fe ?_;refine SS ?_;refine ab (show AW _ _ _ _ _ _ from ja (aw ?_));refine aL ?_
   refine ab (dK (α:=Nat) (fun j=>⟨az [(2,.rp 1 0),(3,.rp 2 0),(4,.pt [.pt (bN f BL AL (bq cnt))]),(6,.pt [ax aM]),(7,.pt [ax PM]),(10,I C),(52,ax l),(53,I l.length),(54,I j)],m,nx⟩)
    (fun j=>j<=l.length/\(True->(l.take j).all ra=true)) (fun j=>l.length - j) 0 (av eH) ⟨Nat.zero_le _,fun _=>rfl⟩ ?_)
   rintro j ⟨hj,br⟩;refine SS ?_;refine ab ⟨_,rfl,fun h=>?_,fun h=>?_⟩
   .have ao:j<l.length:=by simpa using h
    have hx:l[j]? =some l[j]:=List.getElem?_eq_getElem ao;have bQ:=List.getElem_mem ao;generalize l[j]=a at hx bQ;have jQ:=jU a bQ;obtain⟨J,rfl⟩:=Int.eq_ofNat_of_zero_le jQ.1;have vC:J<n:=jQ.2;have kn:=fun e=>kn ⟨(J:Int),bQ,e⟩;have U:=U J
    have lb:cnt[J]? =some (cnt.getD J false):=by
     have:=List.getElem?_eq_getElem (show J<cnt.length by omega);rw[List.getD_eq_getElem?_getD,this];rfl
    have tW:PM[J]? =some (PM.getD J (-1)):=by
     have:=List.getElem?_eq_getElem (show J<PM.length by omega);rw[List.getD_eq_getElem?_getD,this];rfl
    have bC:ra J=true->(l.take (j+1)).all ra=true:=fun e=>by
     rw[List.take_add_one,hx,List.all_append,br trivial];show(true&&(ra (J:Int)&&true))=true;rw[e];rfl
    have M:=M J;generalize gy aM (n+1) C J=ov at M U;generalize cnt.getD J false=ca at lb M U;generalize PM.getD J (-1)=pa at tW U;have xy:((if ca=true then decide (pb<=pa) else false)==true)=true->PCall prog 87 [ax aM,I C,I J] (B ov):=fun hc=>M (by revert hc;cases ca<;>simp);refine ws ?_;refine au ?_;refine ab (dm Z8 ?_);refine aL ?_;refine c8 ?_;refine V7 ?_;refine aK ?_;refine Cq rfl rfl rfl (fun hc=>⟨ak,xy hc⟩) ?_;refine af ?_;refine bk (by simp[apartT]) (aq rfl (fun h=>aj ?_) fun h=>cg ?_)
    .have aA:=m1;have cW:=m2
     have I2:ra J=false:=by
      rw[U];revert h;cases ca<;>cases ov<;>simp
     have hF:=kn I2;refine b9 (eS (d:=.s (.bool _)) (cs':=[_]) rfl rfl aA rfl rfl) ak (cP V.h V.h (by first|(simp;done)|exact⟨rfl,Nat.le_of_ble_eq_true rfl⟩|(simp;omega)) rfl) ?_;refine b9 (eS (d:=.s (.int _ _)) (cs':=[_]) rfl rfl cW rfl rfl) ak (cP V.h V.h (by first|(simp;done)|exact⟨rfl,Nat.le_of_ble_eq_true rfl⟩|(simp;omega)) rfl) ?_;refine ab (aV (cq (bx (acB (bx (aT ?_))))));refine IM (i:=1) (j:=2) rfl (v:=B false) (cs:=[]) (e:=4) ?_ a4 c4 t4 rfl (w:=I 0) (cs':=[]) (e':=34) ?_ GW GX t34 (by rw[hF])
     .dsimp only;rw[up_ne _ _ oC,up_same]
     .dsimp only;rw[up_same]
    .have ahq:ra J=true:=by
      rw[U];revert h;cases ca<;>cases ov<;>simp
     refine af ?_;refine ab (aJ (j+1) (av eH) ⟨by omega,fun _=>bC ahq⟩ oG)
   .have aX:¬ j<l.length:=by simpa using h
    have e:=br trivial;rw[List.take_of_length_le oG] at e;exact⟨m1,m2,dM,fun _=>An e⟩
  .rintro m nx ⟨m1,m2,_,hI⟩;rw[List.length_map,List.take_length] at hI;exact⟨m,nx,av eH,m1,m2,hI trivial⟩
 .obtain⟨m,nx,Lu,m1,m2,br⟩:=hs;rw[br];refine⟨_,Lu,aj ?_⟩;have aA:=m1;have cW:=m2;refine b9 (eS (d:=.s (.bool _)) (cs':=[_]) rfl rfl aA rfl rfl) ak (cP V.h V.h (by first|(simp;done)|exact⟨rfl,Nat.le_of_ble_eq_true rfl⟩|(simp;omega)) rfl) ?_;refine b9 (eS (d:=.s (.int _ _)) (cs':=[_]) rfl rfl cW rfl rfl) ak (cP V.h V.h (by first|(simp;done)|exact⟨rfl,Nat.le_of_ble_eq_true rfl⟩|(simp;omega)) rfl) ?_;refine ab (IM (i:=1) (j:=2) rfl (v:=B true) (cs:=[]) (e:=4) ?_ a4 c4 t4 rfl (w:=I 0) (cs':=[]) (e':=34) ?_ GW GX t34 rfl)
  .dsimp only;rw[up_ne _ _ oC,up_same]
  .dsimp only;rw[up_same]
theorem Bi{f:aF}:PCall prog 43 [.agg (aG f)] (pu f):=by
 by_cases h:cR f=0
 .exact adG h
 .exact acC h
end Go.Proofs.Tryz.K
end
namespace Go.Argus
open Go Go.Abs
theorem OG{cnt:List Bool}{n:Nat}{x:Int}:x∈allI cnt n↔∃ b:Nat,x=b/\b<n/\cnt.getD b false=true:=by
 unfold allI;rw[List.mem_map];constructor
 .rintro⟨b,hb,rfl⟩;rw[List.mem_filter,List.mem_range] at hb;exact⟨b,rfl,hb.1,hb.2⟩
 .rintro⟨b,rfl,h1,h2⟩;exact⟨b,by rw[List.mem_filter,List.mem_range];exact⟨h1,h2⟩,rfl⟩
section
variable{beh ahd:Nat->List Int}{n:Nat}(h:nk beh ahd n)
include h
end
theorem acS{f:aF}(bB:lD f):yK f=true↔∀ (i k:Nat) (x y:Nat),i<=k->(bI (aD f) f.blocks.length)[i]? =some (x:Int)->(bI (aD f) f.blocks.length)[k]? =some (y:Int)->(y:Int)∈bu f x->yR (aD f) (bu f) f.blocks.length x y=true:=by
 have h:=tO bB;have nd:=Em h.to h.pos;have hr:=vV h
 have M:∀ (i:Nat) (x:Nat),(bI (aD f) f.blocks.length)[i]? =some (x:Int)->(lp (bI (aD f) f.blocks.length) f.blocks.length (bI (aD f) f.blocks.length).length).getD x (-1)=i:=fun i x hx=>by
  have:=O6 nd hr _ (Nat.le_refl _) i (x:Int) (List.getElem?_eq_some_iff.1 hx).1 hx
  rwa[Int.toNat_natCast] at this
 unfold yK Gi;rw[List.all_eq_true];constructor
 .intro U i k x y X hx hy hm;have C:bj (aD f) f.blocks.length x:=(uF h).1 (List.mem_of_getElem? hx);have J:bj (aD f) f.blocks.length y:=(uF h).1 (List.mem_of_getElem? hy);have h1:=U (x:Int) (OG.2 ⟨x,rfl,oK h C,C⟩);unfold qz at h1;rw[Int.toNat_natCast,List.all_eq_true] at h1;have h2:=h1 (y:Int) hm;unfold yJ at h2;rw[Int.toNat_natCast,Int.toNat_natCast,M i x hx,M k y hy] at h2;have XZ:(a8 (aD f) f.blocks.length (-1)).getD y false=true:=J;rw[if_pos XZ,if_pos (decide_eq_true oG)] at h2;unfold yR;have G':(a8 (aD f) f.blocks.length (-1)).getD x false=true:=C;rw[G',XZ,h2];rfl
 .intro U b hb;obtain⟨x,rfl,_,C⟩:=OG.1 hb;unfold qz;rw[Int.toNat_natCast,List.all_eq_true];intro a ha;obtain⟨y,rfl⟩:=Int.eq_ofNat_of_zero_le ((h.nE x a).1 ha).1;unfold yJ;rw[Int.toNat_natCast,Int.toNat_natCast];obtain⟨i,hi,_,_⟩:=tf h (x:=x) C;by_cases J:(a8 (aD f) f.blocks.length (-1)).getD y false=true
  .rw[if_pos J];obtain⟨k,hk,_,_⟩:=tf h (x:=y) J;rw[M i x hi,M k y hk];by_cases X:(i:Int)<=k
   .rw[if_pos (decide_eq_true X)];have:=U i k x y oG hi hk ha;unfold yR at this;rw[Bool.and_eq_true,Bool.and_eq_true] at this;exact this.2.2
   .rw[if_neg (by simpa using X)]
  .rw[if_neg J,if_neg oS]
end Go.Argus
namespace Go.Argus
open Go Go.Abs
open Go.Proofs.Tryz.K (nextR)
structure eY(w:List Int):Prop where
 len:w.length=20
 all:eU w
theorem eY.gu{w:List Int}(h:eY w)(n:Int):eY (gu w n):=⟨by simp[h.len],MU h.all⟩
theorem eU.eJ{w v:List Int}(h:eU w)(hv:eU v):∀ k,eU (eJ w v k)
 |0=>h
 |k+1=>(eU.eJ h hv k).set (Ni ((eU.eJ h hv k).get _)).1
theorem NK{w v:List Int}(h:eU w)(hv:eU v):∀ k,k<=w.length->∀ r,dP (eJ w v k) r=(dP w r&&(dP v r|| !decide (r / 64<k)))
 |0,_,r=>by simp[Argus.eJ]
 |k+1,hk,r=>by
  have ih:=NK h hv k oG;rw[Argus.eJ,QC oP];split
  .rename_i e;have h1:=ih r;have h2:¬ r / 64<k:=by omega
   simp only[h2,decide_false,Bool.not_false,Bool.or_true,Bool.and_true] at h1;unfold dP at h1;rw[e] at h1;rw[SF ((eU.eJ h hv k).get _) (hv.get _),h1];unfold dP;rw[e];simp
  .rename_i e;rw[ih r];have:decide (r / 64<k)=decide (r / 64<k+1):=decide_eq_decide.2 oG;rw[this]
theorem Il{w v:List Int}(C:eY w)(hv:eY v)(r:Nat):dP (gv w v) r=(dP w r&&dP v r):=by
 unfold gv;rw[NK C.all hv.all 20 (by rw[C.len];exact Nat.le_refl _)];by_cases hr:r / 64<20
 .simp[hr]
 .have:dP w r=false:=by
   unfold dP;rw[List.getD_eq_getElem?_getD,List.getElem?_eq_none (by rw[C.len];omega)];simp
  simp[this]
theorem eY.KQ{w v:List Int}(C:eY w)(hv:eY v):eY (gv w v):=⟨by simp[C.len],C.all.eJ hv.all 20⟩
theorem EG{α:Type}{f:CS->α->CS}(hk:∀ s a,s.ch=true->(f s a).ch=true)(hn:∀ s a,(f s a).ch=false->f s a=s):∀ (l:List α) (s:CS),(l.foldl f s).ch=false->l.foldl f s=s/\∀ a∈l,f s a=s
 |[],s,_=>⟨rfl,fun a ha=>by simp at ha⟩
 |a::l,s,h=>by
  obtain⟨h1,h2⟩:=EG hk hn l (f s a) h;have h3:f s a=s:=hn s a (by rw[<- h1];exact h);rw[h3] at h1 h2;refine⟨by rw[List.foldl_cons,h3];exact h1,fun b hb=>?_⟩;rcases List.mem_cons.1 hb with rfl|hb
  .exact h3
  .exact h2 b hb
theorem OH{α:Type}{f:CS->α->CS}(hk:∀ s a,s.ch=true->(f s a).ch=true):∀ (l:List α) (s:CS),s.ch=true->(l.foldl f s).ch=true
 |[],_,h=>h
 |a::l,s,h=>OH hk l (f s a) (hk s a h)
theorem Jb{x:End}{w:List Int}(s:CS)(t:Int)(h:s.ch=true):(cw x w s t).ch=true:=by
 unfold cw;split
 .rfl
 .exact h
theorem SG{x:End}{w:List Int}(s:CS)(t:Int)(h:(cw x w s t).ch=false):cw x w s t=s:=by
 unfold cw at h ⊢;split
 .rename_i hc;rw[if_pos hc] at h;cases h
 .rfl
theorem abO{bs:List bP}(s:CS)(k:Nat)(h:s.ch=true):(df bs s k).ch=true:=by
 unfold df;split
 .exact h
 .split
  .exact OH Jb _ s h
  .exact h
theorem abP{bs:List bP}(s:CS)(k:Nat)(h:(df bs s k).ch=false):df bs s k=s:=by
 unfold df at h ⊢;split
 .rfl
 .rename_i x hx;rw[hx] at h;simp only at h;split
  .rename_i hr;rw[if_pos hr] at h;exact(EG Jb SG _ s h).1
  .rfl
structure Wy(bs:List bP)(s:CS):Prop where
 fix:∀ b x,bs[b]? =some x->s.re.getD b false=true->∀ t∈nextR x.fin,s.re.getD t.toNat false=true/\gv (s.ws.getD t.toNat []) (fT x.fin t (iH x (s.ws.getD b [])).1)=s.ws.getD t.toNat []
theorem abQ{bs:List bP}{s:CS}(h:(jE bs s).ch=false):jE bs s=⟨s.ws,s.re,false⟩/\Wy bs (jE bs s):=by
 obtain⟨h1,h2⟩:=EG (abO (bs:=bs)) (abP (bs:=bs)) (List.range bs.length) ⟨s.ws,s.re,false⟩ h;have e:jE bs s=⟨s.ws,s.re,false⟩:=h1;refine⟨e,⟨fun b x hx hr t ht=>?_⟩⟩;rw[e] at hr ⊢;have h3:=h2 b (List.mem_range.2 (List.getElem?_eq_some_iff.1 hx).1);have h4:(df bs ⟨s.ws,s.re,false⟩ b).ch=false:=by rw[h3]
 unfold df at h3 h4;rw[hx] at h3 h4;simp only at h3 h4 hr;rw[if_pos hr] at h3 h4;have h5:=(EG Jb SG _ _ h4).2 t ht;have C:(cw x.fin (iH x (s.ws.getD b [])).1 ⟨s.ws,s.re,false⟩ t).ch=false:=by rw[h5]
 unfold cw at C;split at C
 .cases C
 .rename_i hc;have hc:=not_or.1 hc;refine⟨by simpa using hc.1,Classical.byContradiction fun J=>hc.2 J⟩
theorem OI{bs:List bP}{n:Nat}{J:CS->Prop}(hb:∀ b∈bs,rK n b)(C:∀ s,fj n s->J s->J (jE bs s)):∀ (k:Nat) (s:CS),fj n s->J s->pK s<k->fj n (l9 bs k s)/\Wy bs (l9 bs k s)/\J (l9 bs k s)
 |0,s,_,_,h=>absurd h (Nat.not_lt_zero _)
 |k+1,s,hs,hj,h=>by
  obtain⟨M,U⟩:=Br hb hs;unfold l9;split
  .rename_i hc;refine OI hb C k _ M (C s hs hj) ?_;unfold nA at U;rw[if_pos hc] at U;omega
  .rename_i hc;exact⟨M,(abQ (by simpa using hc)).2,C s hs hj⟩
theorem abR{bs:List bP}{n:Nat}{J:CS->Prop}(hb:∀ b∈bs,rK n b)(h0:∀ s,J s->J ⟨s.ws,s.re,false⟩)(M:∀ s k,fj n s->J s->J (df bs s k)){s:CS}(C:fj n s)(h:J s):J (jE bs s):=by
 unfold jE
 have:∀ (l:List Nat) (s:CS),fj n s->J s->J (l.foldl (df bs) s):=fun l=>by
  induction l with
  |nil=>exact fun s _ h=>h
  |cons a l ih=>exact fun s C h=>ih _ (H5 hb C).1 (M s a C h)
 exact this _ _ ⟨C.lw,C.lr,C.jA,C.rg⟩ (h0 s h)
theorem acT{bs:List bP}{n:Nat}{J:CS->Prop}(hb:∀ b∈bs,rK n b){s:CS}{k:Nat}(X:fj n s)(h:J s)
 (C:∀ x,bs[k]? =some x->s.re.getD k false=true->∀ u,fj n u->J u->∀ t∈nextR x.fin,J (cw x.fin (iH x (s.ws.getD k [])).1 u t)):J (df bs s k):=by
 unfold df;split
 .exact h
 .rename_i x hx;split
  .rename_i hr;have C:=C x hx hr;have U:=(hb x (List.mem_of_getElem? hx)).to;generalize (iH x (s.ws.getD k [])).1=w at C
   have:∀ (l:List Int),(∀ t∈l,t∈nextR x.fin)->∀ u,fj n u->J u->J (l.foldl (cw x.fin w) u):=fun l=>by
    induction l with
    |nil=>exact fun _ u _ h=>h
    |cons a l ih=>exact fun hl u M h=>ih (fun t ht=>hl t (by simp[ht])) _ (En M (U a (hl a oS))).1 (C u M h a (hl a oS))
   exact this _ (fun _ h=>h) s X h
  .exact h
theorem fj.lZ{n:Nat}{s:CS}(h:fj n s){b:Nat}(hb:b<n):eY (s.ws.getD b []):=by
 have hl:b<s.ws.length:=by rw[h.lw];exact hb
 have hx:s.ws[b]? =some s.ws[b]:=List.getElem?_eq_getElem hl;rw[getD_some hx];have hm:s.ws[b]∈s.ws:=List.getElem_mem _;exact⟨h.jA _ hm,h.rg _ hm⟩
section
variable{bs:List bP}{args:Nat}(hb:∀ b∈bs,rK bs.length b)
include hb
end
theorem Av.ne{E:Nat->Nat->Prop}{w x:Nat}(h:Av E w x):x≠w:=by
 cases h with
 |zero h=>exact h
 |step _ _ h=>exact h
end Go.Argus
