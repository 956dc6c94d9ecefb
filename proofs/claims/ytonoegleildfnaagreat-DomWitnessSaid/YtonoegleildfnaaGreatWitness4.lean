/- Part 4 of the proof; the last part says what is proved. -/
import Derived.Test.YtonoegleildfnaaGreatWitness3b
set_option linter.unusedVariables false
set_option linter.unusedSimpArgs false
namespace Go.Argus
open Go Go.Abs
def xH(s:List Bool)(c:Int):Bool:=s.getD c.toNat false
def eE(beh:Nat->List Int)(w:Int):Nat->List Bool×List Int->Nat->List Bool×List Int
 |0,s,_=>s
 |k+1,s,b=>
  let r:=(beh b).foldl (fun s c=>if xH s.1 c=false/\c≠w then eE beh w k s c.toNat else s) (s.1.set b true,s.2)
  (r.1,r.2++[(b:Int)])
def ep(beh:Nat->List Int)(w:Int)(k:Nat)(s:List Bool×List Int)(l:List Int):List Bool×List Int:=
 l.foldl (fun s c=>if xH s.1 c=false/\c≠w then eE beh w k s c.toNat else s) s
theorem yX(beh:Nat->List Int)(w:Int)(k:Nat)(s:List Bool×List Int)(b:Nat):
 eE beh w (k+1) s b=((ep beh w k (s.1.set b true,s.2) (beh b)).1,(ep beh w k (s.1.set b true,s.2) (beh b)).2++[(b:Int)]):=rfl
theorem IW(beh:Nat->List Int)(w:Int)(k:Nat)(s:List Bool×List Int)(l:List Int)(c:Int):
 ep beh w k s (l++[c])=(if xH (ep beh w k s l).1 c=false/\c≠w then eE beh w k (ep beh w k s l) c.toNat else ep beh w k s l):=by
 rw[ep,List.foldl_append];rfl
theorem acd{α:Type}{p:List α->Prop}(h0:p [])(h1:∀ l a,p l->p (l++[a]))(l:List α):p l:=by
 have h:∀ l:List α,p l.reverse:=fun l=>by
  induction l with
  |nil=>exact h0
  |cons a l ih=>rw[List.reverse_cons];exact h1 _ _ ih
 have:=h l.reverse
 rwa[List.reverse_reverse] at this
theorem Is{l:List Bool}{b:Nat}:(l.set b true).count false<=l.count false:=by
 induction l generalizing b with
 |nil=>simp
 |cons x l ih=>
  cases b with
  |zero=>cases x<;>simp
  |succ b=>simp only[List.set_cons_succ,List.count_cons];have:=ih (b:=b);omega
theorem wT{l:List Bool}{b:Nat}(h:l[b]? =some false):(l.set b true).count false+1=l.count false:=by
 induction l generalizing b with
 |nil=>simp at h
 |cons x l ih=>
  cases b with
  |zero=>simp at h;subst h;simp
  |succ b=>simp only[List.set_cons_succ,List.count_cons];have:=ih (b:=b) (by simpa using h);omega
structure uP(beh:Nat->List Int)(w:Int)(s s':List Bool×List Int):Prop where
 len:s'.1.length=s.1.length
 cnt:s'.1.count false<=s.1.count false
 mono:∀ i,s.1.getD i false=true->s'.1.getD i false=true
 out:∃ l:List Int,s'.2=s.2++l/\l.Nodup/\∀ x,x∈l↔0<=x/\s'.1.getD x.toNat false=true/\s.1.getD x.toNat false=false
theorem uP.refl{beh:Nat->List Int}{w:Int}(s:List Bool×List Int):uP beh w s s:=⟨rfl,bP _,fun _ h=>h,[],oS,List.nodup_nil,fun x=>by
 constructor
 .intro h;simp at h
 .rintro⟨_,h1,h2⟩;rw[h1] at h2;cases h2⟩
theorem uP.trans{beh:Nat->List Int}{w:Int}{s t u:List Bool×List Int}(h1:uP beh w s t)(h2:uP beh w t u):uP beh w s u:=by
 refine⟨h2.len.trans h1.len,Nat.le_trans h2.cnt h1.cnt,fun i h=>h2.mono i (h1.mono i h),?_⟩;obtain⟨J,a1,b1,c1⟩:=h1.out;obtain⟨U,a2,b2,c2⟩:=h2.out;refine⟨J++U,by rw[a2,a1,List.append_assoc],?_,fun x=>?_⟩
 .rw[List.nodup_append];refine⟨b1,b2,fun a ha b hb e=>?_⟩;subst e;have:=((c1 a).1 ha).2.1;rw[((c2 a).1 hb).2.2] at this;cases this
 .rw[List.mem_append,c1,c2];constructor
  .rintro(⟨h0,h,h'⟩|⟨h0,h,h'⟩)
   .exact⟨h0,h2.mono _ h,h'⟩
   .refine⟨h0,h,?_⟩;cases C:s.1.getD x.toNat false with
    |false=>rfl
    |true=>rw[h1.mono _ C] at h';cases h'
  .rintro⟨h0,h,h'⟩;cases ht:t.1.getD x.toNat false with
   |true=>exact .inl ⟨h0,rfl,h'⟩
   |false=>exact .inr ⟨h0,h,rfl⟩
theorem getD_set_true{l:List Bool}{b i:Nat}(hb:b<l.length):(l.set b true).getD i false=(decide (i=b)||l.getD i false):=by
 simp only[bF,List.getElem?_set];split
 .rename_i h;subst h;simp[hb]
 .rename_i h;have:¬ i=b:=fun e=>h e.symm;simp[this]
section
variable{beh:Nat->List Int}{w:Int}{n:Nat}(hb:∀ b,∀ c∈beh b,0<=c/\c.toNat<n)
theorem wU{l:List Bool}{c:Nat}(h:l.getD c false=false)(hc:c<l.length):l[c]? =some false:=by
 rw[bF,aG hc] at h;rw[aG hc];simpa using h
include hb in
theorem Qh:∀ (k:Nat) (s:List Bool×List Int) (b:Nat),s.1.length=n->b<n->s.1.count false<=k->s.1.getD b false=false->
 uP beh w s (eE beh w k s b)/\(eE beh w k s b).1.getD b false=true/\
 (∀ x,(eE beh w k s b).1.getD x false=true->s.1.getD x false=false->∀ c∈beh x,c≠w->(eE beh w k s b).1.getD c.toNat false=true)
 |0,s,b,hn,u4,hk,hs=>by
  have:=wT (wU hs oG);omega
 |k+1,s,b,hn,u4,hk,hs=>by
  have h0:uP beh w s (s.1.set b true,s.2++[(b:Int)]):=by
   refine⟨oS,Is,fun i h=>?_,[(b:Int)],rfl,oS,fun x=>?_⟩
   .simp only;rw[getD_set_true oG,h,Bool.or_true]
   .simp only[getD_set_true (show b<s.1.length by omega),List.mem_singleton];constructor
    .rintro rfl;simp[<- List.getD_eq_getElem?_getD,hs]
    .rintro⟨h1,h2,h3⟩;rw[h3,Bool.or_false,decide_eq_true_eq] at h2;omega
  have hF:∀ l:List Int,(∀ c∈l,0<=c/\c.toNat<n)->∀ o,let r:=ep beh w k (s.1.set b true,o) l
   uP beh w (s.1.set b true,o) r/\(∀ c∈l,c≠w->r.1.getD c.toNat false=true)/\
   (∀ x,r.1.getD x false=true->(s.1.set b true).getD x false=false->∀ c∈beh x,c≠w->r.1.getD c.toNat false=true):=by
   intro l
   induction l using acd with
   |h0=>intro _ o;exact⟨.refl _,fun c h=>by simp at h,fun x h h'=>by rw[show(ep beh w k (s.1.set b true,o) []).1=s.1.set b true from rfl,h'] at h;cases h⟩
   |h1 l c ih=>
    intro hl o;obtain⟨C,X,g3⟩:=ih (fun c h=>hl c (by simp[h])) o;simp only;rw[IW];generalize ep beh w k (s.1.set b true,o) l=t at C X g3;have hc:=hl c oS;have cy:t.1.length=n:=by rw[C.len];simp[hn]
    split
    .rename_i lA;have nI:t.1.getD c.toNat false=false:=lA.1
     have qi:t.1.count false<=k:=by
      have a1:=C.cnt;have a2:=wT (wU hs oG);simp only at a1;omega
     obtain⟨q1,q2,q3⟩:=Qh k t c.toNat cy hc.2 qi nI;refine⟨C.trans q1,fun U h' J=>?_,fun x h1 h2 U BX J=>?_⟩
     .rw[List.mem_append] at h';rcases h' with h'|h'
      .exact q1.mono _ (X U h' J)
      .simp at h';subst h';exact q2
     .cases ht:t.1.getD x false with
      |true=>exact q1.mono _ (g3 x ht h2 U BX J)
      |false=>exact q3 x h1 ht U BX J
    .rename_i lA;refine⟨C,fun U h' J=>?_,g3⟩;rw[List.mem_append] at h';rcases h' with h'|h'
     .exact X U h' J
     .simp at h';subst h';cases ht:t.1.getD U.toNat false with
      |true=>rfl
      |false=>exact absurd ⟨ht,J⟩ lA
  rw[yX];obtain⟨C,X,g3⟩:=hF (beh b) (hb b) s.2;generalize ep beh w k (s.1.set b true,s.2) (beh b)=t at C X g3;have Ca:t.1.getD b false=true:=C.mono b (by simp only;rw[getD_set_true oG];simp);refine⟨⟨by have:=C.len;simp at this;exact this,Nat.le_trans C.cnt Is,fun i h=>C.mono i (by simp only;rw[getD_set_true oG,h,Bool.or_true]),?_⟩,Ca,fun x h1 h2 c hc J=>?_⟩
  .obtain⟨l,e,nd,hm⟩:=C.out;simp only at e hm;refine⟨l++[(b:Int)],by simp only;rw[e,List.append_assoc],?_,fun x=>?_⟩
   .rw[List.nodup_append];refine⟨nd,oS,fun a ha b' gY e=>?_⟩;simp at gY;subst gY e;have:=((hm _).1 ha).2.2;rw[getD_set_true oG] at this;simp at this
   .rw[List.mem_append,hm,getD_set_true oG,List.mem_singleton];simp only;constructor
    .rintro(⟨h0,h1,h2⟩|rfl)
     .simp only[Bool.or_eq_false_iff] at h2;exact⟨h0,h1,h2.2⟩
     .exact⟨oG,by simpa using Ca,by simpa using hs⟩
    .rintro⟨h0,h1,h2⟩;by_cases hx:x=(b:Int)
     .exact .inr hx
     .refine .inl ⟨h0,h1,?_⟩;rw[h2];have:¬ x.toNat=b:=by omega
      simp[this]
  .simp only at h1 ⊢;by_cases hx:x=b
   .subst hx;exact X c hc J
   .exact g3 x h1 (by rw[getD_set_true oG,h2];simp[hx]) c hc J
end
def cS(beh:Nat->List Int)(n:Nat)(w:Int):List Bool:=if w=0 then List.replicate n false else(eE beh w n (List.replicate n false,[]) 0).1
def ug(beh:Nat->List Int)(n:Nat):List Int:=(eE beh (-1) n (List.replicate n false,[]) 0).2.reverse
section
variable{beh:Nat->List Int}{n:Nat}(hb:∀ b,∀ c∈beh b,0<=c/\c.toNat<n)(hn:0<n)
include hb hn
theorem HA(w:Int):uP beh w (List.replicate n false,[]) (eE beh w n (List.replicate n false,[]) 0)/\(eE beh w n (List.replicate n false,[]) 0).1.getD 0 false=true/\
 (∀ x,(eE beh w n (List.replicate n false,[]) 0).1.getD x false=true->∀ c∈beh x,c≠w->(eE beh w n (List.replicate n false,[]) 0).1.getD c.toNat false=true):=by
 have C:∀ i,(List.replicate n false).getD i false=false:=fun i=>by
  rw[bF,List.getElem?_replicate];split<;>rfl
 obtain⟨h1,h2,h3⟩:=Qh (w:=w) hb n (List.replicate n false,[]) 0 oS hn oS (C 0);exact⟨h1,h2,fun x hx=>h3 x hx (C x)⟩
theorem vn(w:Int):(cS beh n w).length=n:=by
 unfold cS;split
 .simp
 .rw[(HA hb hn w).1.len];simp
theorem OL{x:Int}:x∈ug beh n↔0<=x/\(cS beh n (-1)).getD x.toNat false=true:=by
 obtain⟨h1,_,_⟩:=HA hb hn (-1);obtain⟨l,e,_,hm⟩:=h1.out;unfold ug cS;rw[if_neg oG,List.mem_reverse,e];simp only[List.nil_append];rw[hm]
 have C:(List.replicate n false).getD x.toNat false=false:=by
  rw[bF,List.getElem?_replicate];split<;>rfl
 simp only[C,and_true]
theorem Iu{x:Nat}(hx:(cS beh n (-1)).getD x false=true):∀ c∈beh x,(cS beh n (-1)).getD c.toNat false=true:=by
 obtain⟨_,_,h3⟩:=HA hb hn (-1);unfold cS at hx ⊢;rw[if_neg oG] at hx ⊢;intro c hc;exact h3 x hx c hc (by have:=hb x c hc;omega)
end
end Go.Argus
section
open Go Go.Abs Go.Proofs Go.Argus
namespace Go.Argus
def fK(x:End):List Int:=if x.kind≠3/\x.kind≠4 then [x.to] else []
def nP(x:End):List Int:=if x.kind=2\/x.kind=8 then fK x++[x.fS] else fK x
def dp(x:End)(k:Nat):List Int:=nP x++(x.aH.take k).map (·.to)
def dc(x:End):List Int:=if 0<=x.cP then dp x x.aH.length++[x.cP] else dp x x.aH.length
theorem PE{x:End}{k:Nat}{w:kq}(h:x.aH[k]? =some w):dp x (k+1)=dp x k++[w.to]:=by
 unfold dp;rw[List.take_add_one,h,List.map_append,List.append_assoc];rfl
theorem CY(x:End):(nP x).length<=2:=by unfold nP fK;repeat' split<;>simp
theorem yW(x:End):(dc x).length<=x.aH.length+3:=by
 have:=CY x;unfold dc dp;split<;>simp<;>omega
end Go.Argus
namespace Go.Proofs.Tryz.K
set_option maxRecDepth 10000
def yF(x:Argus.End)(l:List Int)(s:St):Prop:=∃ r m nx,r<nx/\m r=some (.cells (l.map I) 3)/\Ghost prog s ⟨az [(1,.pt (bd x)),(3,.rs r 0 l.length)],m,nx⟩
theorem wg{x:Argus.End}(hlen:x.aH.length<=100000):OCall prog 115 [.agg (bd x)] ((dc x).map I) (dc x).length 3:=by
 have aZ:∀ a∈[D.agg (bd x)],Tr a:=.cons (.agg (jF x)) .nil;refine Af TI aZ (.map fun _=>.s _) ?_;rw[aej];refine aw ?_;refine af ?_;refine ab (aI (bw [(0,bd x,69)] eH (l:=[(1,.pt (bd x))]) eH) (aw ?_));refine SS ?_;refine ab ⟨_,.nilrow _ _ _ 3 3 rfl,?_⟩;refine ew (yF x (fK x)) (ao ?_) fun s C=>?_
 .have yes:x.kind≠3/\x.kind≠4->fK x=[x.to]:=fun h=>by rw[fK,if_pos h]
  have no:¬ (x.kind≠3/\x.kind≠4)->fK x=[]:=fun h=>by rw[fK,if_neg h]
  have ay:up (fun _=>(none:Option Row)) 1 (some (.cells [] 3)) 1=some (.cells [] 3):=up_same _ _ _;by_cases h3:x.kind=3
  .have fQ:(x.kind !=3)=false:=by simp[h3]
   refine aJ ?_;(iterate 3 refine z fun _ _=>?_);refine SS ?_;refine ab (av rfl (fun h=>oH) fun h=>bj ?_);rw[no (by simp[h3])];exact⟨_,_,_,Nat.lt_succ_self _,up_same _ _ _,aq eH⟩
  .by_cases h4:x.kind=4
   .have fQ:(x.kind !=3)=true:=by simp[h4]
    have KX:(x.kind !=4)=false:=by simp[h4]
    refine bI ?_;refine ab (av rfl (fun h=>(by simp[h4] at h)) fun h=>bj ?_);rw[no (by simp[h4])];exact⟨_,_,_,Nat.lt_succ_self _,up_same _ _ _,aq eH⟩
   .have fQ:(x.kind !=3)=true:=by simp[h3]
    have KX:(x.kind !=4)=true:=by simp[h4]
    refine bI ?_;refine ab (av rfl (fun h=>?_) fun h=>(by simp[h4] at h));refine gv ?_;refine bK ?_;refine ab ?_;rw[yes ⟨h3,h4⟩];exact⟨_,_,_,Nat.lt_succ_self _,up_same _ _ _,aq eH⟩
 obtain⟨r,m,nx,hr,ay,hg⟩:=C;refine⟨_,hg,ew (yF x (nP x)) (ao ?_) fun s C=>?_⟩
 .have J:nP x=if x.kind=2\/x.kind=8 then fK x++[x.fS] else fK x:=rfl
  have U:(fK x).length<=1:=by unfold fK;split<;>simp
  generalize fK x=l at ay J U;have oQ:(l.map I).length=l.length:=by simp
  by_cases h2:x.kind=2\/x.kind=8
  .rw[if_pos h2] at J;refine bI ?_;refine ab (av rfl (fun h=>gv ?_) fun h=>(by rcases h2 with h2|h2<;>simp[h2] at h));refine bK ?_;refine ab ?_;rw[J];refine⟨_,_,_,Nat.lt_succ_self _,(up_same _ _ _).trans (by rw[List.map_append];rfl),aq ⟨rfl,?_,trivial⟩⟩;show D.rs _ 0 _=D.rs _ 0 _;rw[List.length_append];rfl
  .rw[if_neg h2] at J;refine bI ?_;refine ab (av rfl (fun h=>(by exfalso;apply h2;revert h;by_cases e2:x.kind=2<;>by_cases e8:x.kind=8<;>simp[e2,e8])) fun h=>bj ?_);rw[J];exact⟨r,m,nx,hr,ay,aq eH⟩
 clear hg hr ay;obtain⟨r,m,nx,hr,ay,hg⟩:=C;refine⟨_,hg,ew (yF x (dp x x.aH.length)) (aw ?_) fun s C=>?_⟩
 .refine aJ ?_
  refine ab (dM (α:=Nat×Nat×Mem×Nat) (fun s=>⟨az [(1,.pt (bd x)),(3,.rs s.2.1 0 (dp x s.1).length),(33,pQ x.aH),(34,I x.aH.length),(35,I s.1)],s.2.2.1,s.2.2.2⟩)
   (fun s=>s.1<=x.aH.length/\s.2.1<s.2.2.2/\s.2.2.1 s.2.1=some (.cells ((dp x s.1).map I) 3)) (fun s=>x.aH.length - s.1) (0,r,m,nx) (aq ⟨rfl,?_,rfl,rfl,rfl,trivial⟩) ⟨Nat.zero_le _,hr,?_⟩ ?_)
  .show D.rs r 0 _=D.rs r 0 _;simp[dp]
  .show m r=_;rw[ay];simp[dp]
  clear hg hr ay;rintro⟨j,r,m,nx⟩ ⟨hj,hr,ay⟩;dsimp only at hj hr ay ⊢;refine SS ?_;refine ab ⟨_,rfl,fun h=>?_,fun h=>?_⟩
  .have cF:j<x.aH.length:=by simpa using h
   have hy:x.aH[j]? =some x.aH[j]:=aG cF;generalize x.aH[j]=w at hy;have X:=PE hy;have yA:(dp x (j+1)).length=(dp x j).length+1:=by rw[X];simp
   have oQ:((dp x j).map I).length=(dp x j).length:=by simp
   have U:(dp x j).length<=2+j:=by have:=CY x;unfold dp;simp;omega
   generalize dp x j=l at ay X oQ yA U;refine ws ?_;refine aJ ?_;refine ab (eZ ?_);refine aJ ?_;refine rH (rq rfl (ag oG (ag oG (ag oG ay))) rfl V.h V.h (pP (up_same _ _ _) rfl) rfl) ak ⟨V.h,rfl,(by first|omega|exact bA rfl|(simp;done)|(simp;omega)),oC,(by first|rfl|(simp;done)|(simp;omega)),(by unfold maxLen;first|omega|(simp;omega)),(by rw[b3];first|omega|(simp;omega)),(by first|(simp;done)|(simp;omega))⟩ ?_;refine SS ?_;refine ab ?_;refine af ?_;refine ab (aK (j+1,nx+1+1,_,_) (aq ⟨rfl,?_,rfl,rfl,rfl,trivial⟩) ⟨oM,oM,?_⟩ oM)
   .show D.rs _ 0 _=D.rs _ 0 _;rw[yA]
   .dsimp only;rw[X,List.map_append];exact up_same _ _ _
  .have bh:¬ j<x.aH.length:=by simpa using h
   have:j=x.aH.length:=by omega
   subst this;exact⟨r,m,nx,hr,ay,aq eH⟩
 clear hg hr ay;obtain⟨r,m,nx,hr,ay,hg⟩:=C;refine⟨_,hg,ew (yF x (dc x)) (ao ?_) fun s C=>?_⟩
 .have hd:dc x=if 0<=x.cP then dp x x.aH.length++[x.cP] else dp x x.aH.length:=rfl
  have U:(dp x x.aH.length).length<=2+x.aH.length:=by have:=CY x;unfold dp;simp;omega
  generalize dp x x.aH.length=l at ay hd U;have oQ:(l.map I).length=l.length:=by simp
  refine au ?_;refine ab (av rfl (fun h=>gv ?_) fun h=>bj ?_)
  .rw[if_pos (by simpa using h)] at hd;refine bK ?_;refine ab ?_;rw[hd];refine⟨_,_,_,Nat.lt_succ_self _,(up_same _ _ _).trans (by rw[List.map_append];rfl),aq ⟨rfl,?_,trivial⟩⟩;show D.rs _ 0 _=D.rs _ 0 _;rw[List.length_append];rfl
  .rw[if_neg (by simpa using h)] at hd;rw[hd];exact⟨r,m,nx,hr,ay,aq eH⟩
 clear hg hr ay;obtain⟨r,m,nx,hr,ay,hg⟩:=C;refine⟨_,hg,ao ?_⟩;refine af ?_;exact ab (ax rfl ⟨r,rfl,ay⟩)
end Go.Proofs.Tryz.K
namespace Go.Abs
theorem XC{P:Program}{Y:YSpec}{rf:Bool}{Q:Exit->St->Prop}{st:St}{b:Code}[eD Y](h:∃ st',Ghost P st st'/\AW P Y rf b Q st'):AW P Y rf (.seq .skip b) Q st:=by
 obtain⟨st',h1,h2⟩:=h;exact⟨st',h1,h2⟩
end Go.Abs
namespace Go.Argus
def cv(f:aA)(beh ahd:List (List Int))(c:D):List D:=[S f.name,B f.iter,I f.args,U8 f.result,kQ f.aj,kQ f.aW,q0 f.signals,fL f.blocks,bG beh,bG ahd,c]
theorem IU{f:aA}{beh ahd:List (List Int)}{c:D}(hc:Tr c):∀ a∈cv f beh ahd c,Tr a:=.cons (.s _) (.cons (.s _) (.cons (.s _) (.cons (.s _) (.cons (qV _) (.cons (qV _) (.cons (y8 _) (.cons (FR _) (.cons (y4 _) (.cons (y4 _) (.cons hc .nil))))))))))
theorem tR{f:aA}{beh ahd:List (List Int)}{c:D}(hc:Tr c):Tr (.pt (cv f beh ahd c)):=.pt (IU hc)
@[simp] theorem ak4 (f : aA) (beh ahd : List (List Int)) (c : D) : (cv f beh ahd c).length = 11 := rfl
def cg(x:bB):List a7:=x.ins.takeWhile bC
theorem Ze(l:List a7):(jO (fun y=>y.op !=19) l= -1/\l.takeWhile bC=l.take l.length)\/∃ k:Nat,k<=l.length/\jO (fun y=>y.op !=19) l=k/\l.takeWhile bC=l.take k:=by
 unfold jO;cases h:l.findIdx? (fun y=>y.op !=19) with
 |none=>
  refine .inl ⟨rfl,takeWhile_eq (fun y hy=>?_) fun y hy=>by simp at hy⟩;rw[List.findIdx?_eq_none_iff] at h;have:=h y (List.mem_of_mem_take hy);simpa[bC] using this
 |some k=>
  obtain⟨hk,hp,hj⟩:=List.findIdx?_eq_some_iff_getElem.1 h;refine .inr ⟨k,oG,rfl,takeWhile_eq (fun y hy=>?_) fun y hy=>?_⟩
  .obtain⟨j,C,rfl⟩:=List.getElem_of_mem hy;rw[List.length_take] at C;rw[List.getElem_take];simpa[bC] using hj j oG
  .rw[aG hk] at hy;cases hy;simpa[bC] using hp
def dJ(l:List Int)(x:Int):Bool:=l.any fun y=>x==y
theorem jD{l:List Int}{x:Int}:dJ l x=true↔x∈l:=by simp[dJ]
def jn(A:List Int)(a:Int)(x:bB):List Int:=(cg x).map fun y=>y.args.getD (jO (fun y=>a==y) A).toNat 0
def iM(b:Int)(l:List Int):Nat:=l.countP fun y=>y==b
def zm(x:End)(b:Int):Bool:=if((iM b (dc x):Int)==1)=true then x.to==b else false
def gR(x:End)(b:Int):Int:=if zm x b=true then eg x else -1
def fc(r:Int)(p:Bool)(y:a7):Bool:=if(bT y==r)=true then(if p=true then true else y.op !=19) else false
def dV(r:Int)(p:Bool):List a7->Int
 |[]=>0
 |y::t=>if dJ (bU y) r=true then 1 else if fc r p y=true then 2 else dV r p t
def ld(x:bB)(r:Int)(p:Bool):Int:=if dV r p x.ins=0 then(if dJ (bS x.fin) r=true then 1 else 0) else dV r p x.ins
def dW(y:bB)(r:Int):Bool:=(cg y).any fun z=>z.to==r
def np(x y:bB)(A:List Int)(a b r:Int):Int:=if(gR x.fin b==r)=true then 2 else if dJ (jn A a y) r=true then 1 else if dW y r=true then 2 else 0
def jf(n:Nat)(b:Int):Bool:=if decide (0<=b)=true then decide (b<(n:Int)) else false
theorem nV{n:Nat}{b:Int}:jf n b=true↔0<=b/\b<n:=by unfold jf;split<;>simp_all;omega
end Go.Argus
namespace Go.Proofs.Tryz.K
set_option maxRecDepth 10000
theorem zI{l:List Int}{v:Int}:PCall prog 110 [aB l,I v] (I (jO (fun y=>v==y) l)):=by
 refine m8 KY.he (.cons (dg _) (.cons (.s _) .nil)) fun C=>?_;have hlen:=(C (aB l) oS).sl.1;unfold maxLen at hlen;refine bc KY (.cons (dg _) (.cons (.s _) .nil)) (Tr.s _) ?_;rw[aek];refine ws ?_;refine SS ?_;refine ab (aC (aw ?_));refine au ?_
 refine ab (bV (fun s=>Ghost prog s ⟨az [],fun _=>none,0⟩/\∀ (j:Nat) y,l[j]? =some y->(v==y)=false) (dM (α:=Nat) (fun k=>⟨az [(0,aB l),(1,I v),(7,I l.length),(8,I k)],fun _=>none,0⟩)
  (fun k=>k<=l.length/\∀ j y,j<k->l[j]? =some y->(v==y)=false) (fun k=>l.length - k) 0 (aq eH) ⟨oG,fun j y hj=>by omega⟩ ?_) ?_)
 .rintro k ⟨hk,hinv⟩;refine SS ?_;refine ab ⟨_,rfl,fun h=>?_,fun h=>?_⟩
  .have ap:k<l.length:=by simpa using h
   have hx:l[k]? =some l[k]:=by simp[ap]
   generalize l[k]=x at hx;refine ws ?_;refine af ?_;refine er ?_;refine bK ?_;refine ab (av rfl (fun hp=>?_) fun hp=>?_)
   .refine ws ?_;refine af ?_;refine ab (aT (bR (aL (ax rfl ?_))));rw[AM hx hp hinv];rfl
   .refine ct ?_;refine af ?_;refine ab (aK (k+1) (aq eH) ⟨oG,fun j y hj hy=>?_⟩ oG);by_cases e:j=k
    .subst e;rw[hx] at hy;cases hy;exact hp
    .exact hinv j y oG hy
  .have U:¬ k<l.length:=by simpa using h
   exact⟨.forget _ _ _ _ fun _=>.inr rfl,fun j y hy=>hinv j y (by have:=(bL.1 hy).1;omega) hy⟩
 .rintro s ⟨hg,J⟩;refine⟨_,hg,ao ?_⟩;refine SS ?_;refine ab (ax rfl ?_);rw[AN J];rfl
theorem qM{l:List Int}{v:Int}:PCall prog 54 [aB l,I v] (B (dJ l v)):=by
 have zI:=zI (l:=l) (v:=v);refine bc Vb (.cons (dg _) (.cons (.s _) .nil)) (Tr.s _) ?_;rw[ahY];refine ws ?_;refine SS ?_;refine er ?_;refine af ?_;refine cl zI ?_;refine af ?_;refine ab (ax (d:=.s (.bool _)) rfl ?_);rw[dJ, <- AV]
theorem ahZ{x:a7}:PCall prog 177 [.agg (a9 x)] (B (x.op !=19)):=by
 have C:∀ a∈[D.agg (a9 x)],Tr a:=.cons (.agg (mg x)) .nil;refine bc TJ C (Tr.s _) ?_;rw[ael];refine aw ?_;refine af ?_;refine ab (aI (bw [(0,a9 x,66)] eH (l:=[(1,.pt (a9 x))]) eH) (ao ?_));refine aJ ?_;refine ab (ax (d:=.s (.bool _)) rfl ?_);rfl
section
variable{f:aA}{beh ahd:List (List Int)}{c:D}(hc:Tr c)(eQ:c.one=true)
include hc eQ
theorem mW{b:Int}:PCall prog 69 [.pt (cv f beh ahd c),I b] (B (jf f.blocks.length b)):=by
 have _:=eQ;refine bc Vc (.cons (tR hc) (.cons (.s _) .nil)) (Tr.s _) ?_;rw[ah0];refine ws ?_;refine SS ?_;refine er ?_;refine aE ?_;refine aJ ?_;refine ab (ax (d:=.s (.bool _)) rfl ?_);simp[jf]
theorem uH{b:Int}{k:Nat}{x:bB}(hb:b=k)(hx:f.blocks[k]? =some x)(hl:x.ins.length<=100000):PCall prog 141 [.pt (cv f beh ahd c),I b] (dG (cg x)):=by
 have _:=eQ;subst hb;have BB:=BB (l:=x.ins) (g:=177) (fs:=[]) (cs:=[]) (p:=fun y=>y.op !=19) (.fn oS oS) (fun x _=>ahZ);refine bc TK (.cons (tR hc) (.cons (.s _) .nil)) (y9 _) ?_;have ap:=(bL.1 hx).1;rw[aem];refine ws ?_;refine SS ?_;refine er ?_;refine bI ?_;refine af ?_;refine er ?_;refine SS ?_;refine cl BB ?_;refine SS ?_;refine ab (aC (ao ?_))
 have fin:∀ j:Nat,j<=x.ins.length->x.ins.takeWhile bC=x.ins.take j->AW prog noY true (.seq (.region 5 (Z tW 5) false) .ret) (retQ prog [.tmp 4] fun d C=>d=dG (cg x)) ⟨az [(5,dG x.ins),(6,I j)],fun _=>none,0⟩:=fun j hj h2=>by
  refine ws ?_;refine au ?_;refine aF (Z3 rfl V.h V.h rfl rfl rfl rfl) ak ⟨V.h,rfl,oG,oG,oG,oG⟩ ?_;refine SS ?_;refine ab (ax rfl ?_);rw[cg,h2];exact QC Yh hj
 rcases Ze x.ins with⟨h1,h2⟩|⟨j,hj,h1,h2⟩
 .rw[h1];refine af ?_;refine ab (gU (aw ?_));refine au ?_;exact ab (aI (aq (l:=[(5,dG x.ins),(6,I x.ins.length)]) eH) (fin _ (bP _) h2))
 .rw[h1];have nB:decide ((j:Int)<0)=false:=by simp
  refine af ?_;refine ab (hP (XC (aI (aq (l:=[(5,dG x.ins),(6,I j)]) eH) (fin j hj h2))))
end
theorem LK{x:Argus.End}{b:Int}(hlen:x.aH.length<=1000):PCall prog 174 [.agg (bd x),I b] (B (zm x b)):=by
 have X:∀ a∈[D.agg (bd x),I b],Tr a:=.cons (.agg (jF x)) (.cons (.s _) .nil);have wg:=wg (x:=x) oG;have hl:=yW x;refine bc TL X (Tr.s _) ?_;rw[aen];refine aw ?_;refine af ?_;refine ab (aI (bw [(0,bd x,69)] eH (l:=[(1,I b),(2,.pt (bd x))]) eH) (ao ?_));refine SS ?_;have U:zm x b=if((iM b (dc x):Int)==1)=true then x.to==b else false:=rfl
 generalize dc x=l at wg hl U;refine ab (aC (aw ?_));refine SS ?_;refine Bm wg rfl dd ?_;refine af ?_
 refine ab (bV (fun s=>Ghost prog s ⟨az [(1,I b),(2,.pt (bd x)),(5,I (iM b l))],fun _=>none,2⟩) (dM (α:=Nat) (fun k=>⟨az [(1,I b),(2,.pt (bd x)),(5,I (iM b (l.take k))),(9,aB l),(10,I l.length),(11,I k)],fun _=>none,2⟩)
  (fun k=>k<=l.length) (fun k=>l.length - k) 0 (ni (i:=1) (up_same _ _ _) ⟨rfl,rfl,rfl,j0 (by rw[c3];simp),rfl,rfl,trivial⟩) oG ?_) ?_)
 .intro k hk;refine SS ?_;refine ab ⟨_,rfl,fun h=>?_,fun h=>?_⟩
  .have ap:k<l.length:=by simpa using h
   have hx:l[k]? =some l[k]:=by simp[ap]
   have C:iM b (l.take (k+1))=iM b (l.take k)+(if l[k]=b then 1 else 0):=by
    unfold iM;rw[List.take_add_one,hx,List.countP_append];by_cases e:l[k]=b<;>simp[e]
   have J:iM b (l.take k)<=k:=Nat.le_trans List.countP_le_length oP;generalize iM b (l.take k)=q at C J;generalize l[k]=y at hx C;refine ws ?_;refine au ?_;refine er ?_;refine au ?_;refine ab (av rfl (fun hp=>?_) fun hp=>?_)
   .have hp:y=b:=by simpa using hp
    refine eZ ?_;refine au ?_;refine ab ?_;refine af ?_;refine ab (aK (k+1) (aq ⟨rfl,rfl,?_,rfl,rfl,rfl,trivial⟩) oG oG);rw[C,if_pos hp];rfl
   .have hp:¬ y=b:=by simpa using hp
    refine ct ?_;refine af ?_;refine ab (aK (k+1) (aq ⟨rfl,rfl,?_,rfl,rfl,rfl,trivial⟩) oG oG);rw[C,if_neg hp];rfl
  .have bh:¬ k<l.length:=by simpa using h
   have:k=l.length:=by omega
   subst this;rw[List.take_length];exact aq eH
 .intro s hg;refine⟨_,hg,ao ?_⟩;refine aE ?_;refine ab (ax (d:=.s (.bool _)) rfl ?_);rw[U]
theorem zJ{x:Argus.End}{b:Int}(hlen:x.aH.length<=1000):PCall prog 136 [.agg (bd x),I b] (I (gR x b)):=by
 have C:∀ a∈[D.agg (bd x),I b],Tr a:=.cons (.agg (jF x)) (.cons (.s _) .nil);have LK:=LK (x:=x) (b:=b) hlen;have BG:=BG (x:=x);refine bc TM C (Tr.s _) ?_;rw[aeo];refine aw ?_;refine af ?_;refine ab (aI (bw [(0,bd x,69)] eH (l:=[(1,I b),(2,.pt (bd x))]) eH) (aC (ao ?_)));refine af ?_;refine cl LK ?_;refine ab (cH rfl (fun h=>?_) fun h=>b7 (ao ?_))
 .refine aC (ao ?_);refine SS ?_;refine cl BG ?_;refine SS ?_;refine ab (cK (ax rfl ?_));rw[gR,if_pos h];rfl
 .refine SS ?_;refine ab (ax rfl ?_);rw[gR,if_neg (by simp[h])];rfl
theorem ah1{x:a7}{r:Int}:PCall prog 142 [.agg (a9 x),.pt [I r]] (B (x.to==r)):=by
 have C:∀ a∈[D.agg (a9 x),.pt [I r]],Tr a:=.cons (.agg (mg x)) (.cons (.pt (.cons (.s _) .nil)) .nil);refine bc TN C (Tr.s _) ?_;rw[aep];refine aw ?_;refine af ?_;refine ab (aI (bw [(0,a9 x,66)] eH (l:=[(1,.pt [I r]),(2,.pt (a9 x))]) eH) (ao ?_));refine aV ?_;refine ab (ax (d:=.s (.bool _)) rfl ?_);rfl
theorem ah2{x:a7}{r:Int}:PCall prog 143 [.agg (a9 x),.pt [I r]] (B (x.to==r)):=by
 have C:∀ a∈[D.agg (a9 x),.pt [I r]],Tr a:=.cons (.agg (mg x)) (.cons (.pt (.cons (.s _) .nil)) .nil);refine bc TO C (Tr.s _) ?_;rw[aeq];refine aw ?_;refine af ?_;refine ab (aI (bw [(0,a9 x,66)] eH (l:=[(1,.pt [I r]),(2,.pt (a9 x))]) eH) (ao ?_));refine aV ?_;refine ab (ax (d:=.s (.bool _)) rfl ?_);rfl
theorem ah3{x:a7}{r:Int}{p:Bool}:PCall prog 144 [.agg (a9 x),.pt [I r],.pt [B p]] (B (fc r p x)):=by
 have C:∀ a∈[D.agg (a9 x),.pt [I r],.pt [B p]],Tr a:=.cons (.agg (mg x)) (.cons (.pt (.cons (.s _) .nil)) (.cons (.pt (.cons (.s _) .nil)) .nil));have og:=og (x:=x);refine bc TP C (Tr.s _) ?_;rw[aer];refine aw ?_;refine af ?_;refine ab (aI (bw [(0,a9 x,66)] eH (l:=[(1,.pt [I r]),(2,.pt [B p]),(3,.pt (a9 x))]) eH) (c8 Zf ?_));refine SS ?_;refine cl og ?_;refine aE ?_;refine af ?_;refine a8 bf (ax (d:=.s (.bool _)) rfl ?_);rfl
section
variable{f:aA}{beh ahd:List (List Int)}{c:D}(hc:Tr c)(eQ:c.one=true)
include hc eQ
theorem Ak{b r:Int}{k:Nat}{x:bB}(hb:b=k)(hx:f.blocks[k]? =some x)(hl:x.ins.length<=100000):PCall prog 71 [.pt (cv f beh ahd c),I b,I r] (B (dW x r)):=by
 have uH:=uH (beh:=beh) (ahd:=ahd) hc eQ hb hx hl;have vX:=vX (l:=cg x) (g:=143) (fs:=[]) (cs:=[.pt [I r]]) (p:=fun z=>z.to==r) (.fn oS (.cons (.pt (.cons (.s _) .nil)) .nil)) (fun x _=>ah2);refine bc Vd (.cons (tR hc) (.cons (.s _) (.cons (.s _) .nil))) (Tr.s _) ?_;rw[ah4];refine aw ?_;refine af ?_;refine ab (aI (bw [(0,[I r],3)] eH (l:=[(0,.pt (cv f beh ahd c)),(1,I b),(5,.pt [I r])]) eH) (ao ?_));refine af ?_;refine cl uH ?_;refine SS ?_;refine cl vX ?_;refine SS ?_;refine ab (ax (d:=.s (.bool _)) rfl ?_);rfl
theorem Fb{b r:Int}{p:Bool}{k:Nat}{x:bB}(hb:b=k)(hx:f.blocks[k]? =some x):PCall prog 73 [.pt (cv f beh ahd c),I b,I r,B p] (B (x.ins.any (fc r p))):=by
 have _:=eQ;subst hb;have ap:=(bL.1 hx).1;have vX:=vX (l:=x.ins) (g:=144) (fs:=[]) (cs:=[.pt [I r],.pt [B p]]) (p:=fc r p) (.fn oS (.cons (.pt (.cons (.s _) .nil)) (.cons (.pt (.cons (.s _) .nil)) .nil))) (fun x _=>ah3);refine bc Ve (.cons (tR hc) (.cons (.s _) (.cons (.s _) (.cons (.s _) .nil)))) (Tr.s _) ?_;rw[ah5];refine aw ?_;refine SS ?_;refine fP (Bb (d:=.s (.bool _)) rfl rfl) ak rfl ?_;refine SS ?_;refine ab (aI (bw [(0,[I r],3),(1,[B p],4)] eH (l:=[(0,.pt (cv f beh ahd c)),(1,I k),(6,.pt [I r]),(7,.pt [B p])]) eH) (ao ?_));refine bI ?_;refine af ?_;refine cl vX ?_;refine SS ?_;refine ab (ax (d:=.s (.bool _)) rfl ?_);rfl
theorem yG{b r:Int}{p:Bool}{k:Nat}{x:bB}(hb:b=k)(hx:f.blocks[k]? =some x)(hl:x.ins.length<=100000)(hr:∀ y∈x.ins,y.op=10\/y.op=38->y.args.length<=1000)
 (he:x.fin.kind=5->x.fin.ins.op=10\/x.fin.ins.op=38->x.fin.ins.args.length<=1000) (gZ:x.fin.kind=6\/x.fin.kind=7->x.fin.args.length<=1000):
 PCall prog 72 [.pt (cv f beh ahd c),I b,I r,B p] (U8 (ld x r p)):=by
 have _:=eQ;subst hb;have ap:=(bL.1 hx).1;refine bc Vf (.cons (tR hc) (.cons (.s _) (.cons (.s _) (.cons (.s _) .nil)))) (Tr.s _) ?_;rw[ah6];refine ws ?_;refine SS ?_;refine ab (aw ?_);refine aE ?_;refine cJ (gq (cs':=c9 _) rfl rfl rfl rfl) ak (dQ V.h V.h (by first|(simp;done)|exact⟨rfl,bA rfl⟩|(simp;omega)) (by rfl)) ?_;refine ab (aI (ni (i:=0) (l:=[(2,I r),(3,B p),(9,.pt (c9 x))]) (up_same _ _ _) eH) (aC (aw ?_)));refine aJ ?_
 refine ab (bV (fun s=>(∃ nx,Ghost prog s ⟨az [(2,I r),(9,.pt (c9 x))],fun _=>none,nx⟩)/\dV r p x.ins=0) (dM (α:=Nat×Nat) (fun k=>⟨az [(2,I r),(3,B p),(9,.pt (c9 x)),(21,dG x.ins),(22,I x.ins.length),(23,I k.1)],fun _=>none,k.2⟩)
  (fun k=>k.1<=x.ins.length/\dV r p x.ins=dV r p (x.ins.drop k.1)) (fun k=>x.ins.length - k.1) (0,_) (aq eH) ⟨oG,rfl⟩ ?_) ?_)
 .rintro⟨j,nx⟩ ⟨hj,hinv⟩;dsimp only at hj hinv ⊢;refine SS ?_;refine ab ⟨_,rfl,fun h=>?_,fun h=>?_⟩
  .have J:j<x.ins.length:=by simpa using h
   have hy:x.ins[j]? =some x.ins[j]:=by simp[J]
   have C:dV r p x.ins=if dJ (bU x.ins[j]) r=true then 1 else if fc r p x.ins[j]=true then 2 else dV r p (x.ins.drop (j+1)):=by
    rw[hinv,List.drop_eq_getElem_cons J];rfl
   have U:x.ins[j]∈x.ins:=bO _;generalize x.ins[j]=y at hy C U;have qj:=qj (x:=y) (hr y U);have qM:=qM (l:=bU y) (v:=r);have og:=og (x:=y);refine aw ?_;refine aJ ?_;refine ab (aI (ni (i:=nx) (l:=[(2,I r),(3,B p),(9,.pt (c9 x)),(11,.pt (a9 y)),(21,dG x.ins),(22,I x.ins.length),(23,I j)]) (up_same _ _ _) ⟨rfl,rfl,rfl,?_,rfl,rfl,rfl,trivial⟩) (aC (ao ?_)))
   .exact lP
   refine SS ?_;refine cl qj ?_;refine SS ?_;refine cl qM ?_;refine ab (cH rfl (fun hp=>?_) fun hp=>b7 (ao ?_))
   .refine aC (ao ?_);refine SS ?_;refine ab (cK (bR (aL (ax rfl ?_))));have e:dV r p x.ins=1:=by rw[C,if_pos hp]
    rw[ld,e];rfl
   .refine SS ?_;refine cl og ?_;refine bI ?_;refine af ?_;refine ab (av rfl (fun hq=>?_) fun hq=>?_)
    .refine ws ?_;refine SS ?_;refine ab (aT (bR (aL (ax rfl ?_))));have e:dV r p x.ins=2:=by rw[C,if_neg (by simp[hp]),if_pos (show fc r p y=true from hq)]
     rw[ld,e];rfl
    .refine ct ?_;refine af ?_;refine ab (aK (j+1,nx+1) (aq eH) ⟨oM,?_⟩ oM);rw[C,if_neg (by simp[hp]),if_neg (by rw[show fc r p y=false from hq];simp)]
  .have bh:¬ j<x.ins.length:=by simpa using h
   refine⟨⟨nx,aq eH⟩,?_⟩;rw[hinv,List.drop_eq_nil_of_le oG];rfl
 .rintro s ⟨⟨nx,hg⟩,X⟩;have uF:=uF (x:=x.fin) he gZ;have qM:=qM (l:=bS x.fin) (v:=r);refine⟨_,hg,aC (ao ?_)⟩;refine af ?_;refine cl uF ?_;refine SS ?_;refine cl qM ?_;refine ab (cH rfl (fun hp=>?_) fun hp=>b7 (ao ?_))
  .refine aC (ao ?_);refine SS ?_;refine ab (cK (ax rfl ?_));rw[ld,if_pos X,if_pos hp];rfl
  .refine SS ?_;refine ab (ax rfl ?_);rw[ld,if_pos X,if_neg (by simp[hp])];rfl
end
end Go.Proofs.Tryz.K
namespace Go.Argus
def vN(l:List a7):List (List D):=(List.range l.length).map fun i=>[I ((l.length - 1 - i:Nat):Int),.agg (a9 (l.getD (l.length - 1 - i) dT))]
@[simp] theorem IV (l : List a7) : (vN l).length = l.length := by simp [vN]
theorem OG{l:List a7}{i:Nat}{x:a7}(hi:i<l.length)(hx:l[l.length - 1 - i]? =some x):(vN l)[i]? =some [I ((l.length - 1 - i:Nat):Int),.agg (a9 x)]:=by
 unfold vN;rw[List.getElem?_map,List.getElem?_range hi];simp[bF,hx]
theorem acN{l:List Int}{a:Int}(h:a∈l):∃ p:Nat,jO (fun y=>a==y) l=p/\p<l.length:=by
 unfold jO;cases e:l.findIdx? (fun y=>a==y) with
 |none=>rw[List.findIdx?_eq_none_iff] at e;have:=e a h;simp at this
 |some p=>exact⟨p,rfl,(List.findIdx?_eq_some_iff_getElem.1 e).1⟩
def bt(beh:List (List Int))(b:Nat):List Int:=beh.getD b []
theorem CM{beh:List (List Int)}{b:Nat}(h:b<beh.length):beh[b]? =some (bt beh b):=by
 unfold bt;rw[bF,aG h];rfl
theorem OH(beh:Nat->List Int)(w:Int)(k:Nat)(s:List Bool×List Int)(c:Int)(l:List Int):
 ep beh w k s (c::l)=ep beh w k (if xH s.1 c=false/\c≠w then eE beh w k s c.toNat else s) l:=rfl
theorem Gj{beh:Nat->List Int}{w:Int}:∀ (k:Nat),(∀ s b,(eE beh w k s b).1.length=s.1.length/\(eE beh w k s b).1.count false<=s.1.count false)/\
 (∀ l s,(ep beh w k s l).1.length=s.1.length/\(ep beh w k s l).1.count false<=s.1.count false):=by
 have key:∀ k,(∀ s b,(eE beh w k s b).1.length=s.1.length/\(eE beh w k s b).1.count false<=s.1.count false)->
  (∀ l s,(ep beh w k s l).1.length=s.1.length/\(ep beh w k s l).1.count false<=s.1.count false):=fun k h l=>by
  induction l with
  |nil=>exact fun s=>⟨rfl,bP _⟩
  |cons c l ih=>
   intro s;rw[OH];split
   .obtain⟨a1,a2⟩:=ih (eE beh w k s c.toNat);obtain⟨b1,b2⟩:=h s c.toNat;exact⟨a1.trans b1,Nat.le_trans a2 b2⟩
   .exact ih s
 intro k
 induction k with
 |zero=>exact⟨fun s b=>⟨rfl,bP _⟩,key 0 fun s b=>⟨rfl,bP _⟩⟩
 |succ k ih=>
  have h:∀ s b,(eE beh w (k+1) s b).1.length=s.1.length/\(eE beh w (k+1) s b).1.count false<=s.1.count false:=fun s b=>by
   rw[yX];obtain⟨a1,a2⟩:=ih.2 (beh b) (s.1.set b true,s.2);refine⟨a1.trans oS,Nat.le_trans a2 Is⟩
  exact⟨h,key (k+1) h⟩
theorem acO{beh:Nat->List Int}{w:Int}{k:Nat}{s:List Bool×List Int}{b:Nat}:(eE beh w (k+1) s b).2≠[]:=by
 rw[yX];simp
theorem ah9{l c:List Int}{n k:Nat}(hl:l.length=n)(hc:c.length=n)(h:∀ p,p<n->c.getD p 0=if p<k\/n<=p+k then l.getD (n - 1 - p) 0 else l.getD p 0)(hk:n<=2*k+1):c=l.reverse:=by
 apply List.ext_getElem (by simp[hl,hc]);intro p h1 h2;rw[List.getElem_reverse];have hp:=h p oG;rw[show c.getD p 0=c[p] by simp[bF,aG h1]] at hp;rw[hp];have e:∀ (i j:Nat) (h:i=j) (hj:j<l.length),l.getD i 0=l[j]:=fun i j h hj=>by subst h;simp[bF,aG hj]
 split
 .exact e _ _ oG _
 .exact e _ _ oG _
theorem J2{beh:Nat->List Int}{w:Int}{n:Nat}(hb:∀ b,∀ c∈beh b,0<=c/\c.toNat<n):∀ (k:Nat),(∀ (s:List Bool×List Int) b,s.1.length=n->b<n->s.1.getD b false=false->(eE beh w k s b).2.length+(eE beh w k s b).1.count false<=s.2.length+s.1.count false)/\
 (∀ l,(∀ c∈l,0<=c/\c.toNat<n)->∀ s:List Bool×List Int,s.1.length=n->(ep beh w k s l).2.length+(ep beh w k s l).1.count false<=s.2.length+s.1.count false):=by
 have key:∀ k,(∀ (s:List Bool×List Int) b,s.1.length=n->b<n->s.1.getD b false=false->(eE beh w k s b).2.length+(eE beh w k s b).1.count false<=s.2.length+s.1.count false)->
  (∀ l,(∀ c∈l,0<=c/\c.toNat<n)->∀ s:List Bool×List Int,s.1.length=n->(ep beh w k s l).2.length+(ep beh w k s l).1.count false<=s.2.length+s.1.count false):=fun k h l=>by
  induction l with
  |nil=>exact fun _ s _=>bP _
  |cons c l ih=>
   intro hl s C;have hc:=hl c oS;rw[OH];split
   .rename_i J;have a:=ih (fun c h=>hl c (by simp[h])) (eE beh w k s c.toNat) (((Gj k).1 s c.toNat).1.trans C);have b:=h s c.toNat C hc.2 J.1;omega
   .exact ih (fun c h=>hl c (by simp[h])) s C
 intro k
 induction k with
 |zero=>exact⟨fun s b _ _ _=>bP _,key 0 fun s b _ _ _=>bP _⟩
 |succ k ih=>
  have h:∀ (s:List Bool×List Int) b,s.1.length=n->b<n->s.1.getD b false=false->(eE beh w (k+1) s b).2.length+(eE beh w (k+1) s b).1.count false<=s.2.length+s.1.count false:=fun s b C X U=>by
   rw[yX];have a:=ih.2 (beh b) (hb b) (s.1.set b true,s.2) (by simpa using C);have b:=wT (wU U oG);simp only[List.length_append,List.length_singleton] at a ⊢;omega
  exact⟨h,key (k+1) h⟩
end Go.Argus
namespace Go.Proofs.Tryz.K
set_option maxRecDepth 10000
section
variable{f:aA}{beh ahd:List (List Int)}{c:D}(hc:Tr c)(eQ:c.one=true)
include hc eQ
theorem zK{a b:Int}{k:Nat}{x:bB}{A:List Int}(hb:b=k)(hx:f.blocks[k]? =some x)(hA:ahd[k]? =some A)(hl:x.ins.length<=100000)(X:∀ y∈cg x,y.args.length=A.length)(hm:a∈A):
 PCall prog 132 [.pt (cv f beh ahd c),I a,I b] (aB (jn A a x)):=by
 subst hb;obtain⟨p,hp,g9⟩:=acN hm;have zI:=zI (l:=A) (v:=a);rw[hp] at zI;have uH:=uH (f:=f) (beh:=beh) (ahd:=ahd) hc eQ rfl hx hl
 have qN:(cg x).length<=100000:=by
  have:(cg x).length<=x.ins.length:=(List.takeWhile_prefix bC).length_le;omega
 have U:jn A a x=(cg x).map fun y=>y.args.getD p 0:=by rw[jn,hp,bx]
 generalize cg x=ph at uH qN X U;have iS:=(bL.1 hA).1;refine bc TQ (.cons (tR hc) (.cons (.s _) (.cons (.s _) .nil))) (dg _) ?_;rw[aes];refine ws ?_;refine SS ?_;refine er ?_;refine bI ?_;refine cl zI ?_;refine SS ?_;refine ab (aw ?_);refine SS ?_;refine ab ⟨_,.nilrow _ _ _ 8 3 rfl,aC (aw ?_)⟩;refine af ?_;refine cl uH ?_;refine af ?_
 refine ab (bV (fun s=>∃ r m nx,Ghost prog s ⟨az [(8,.rs r 0 ph.length)],m,nx⟩/\m r=some (.cells ((ph.map fun y=>y.args.getD p 0).map I) 3)) (dM (α:=Nat×Nat×Mem×Nat)
  (fun s=>⟨az [(7,I p),(8,.rs s.2.1 0 s.1),(22,dG ph),(23,I ph.length),(24,I s.1)],s.2.2.1,s.2.2.2⟩)
  (fun s=>s.1<=ph.length/\s.2.1<s.2.2.2/\s.2.2.1 s.2.1=some (.cells (((ph.take s.1).map fun y=>y.args.getD p 0).map I) 3)) (fun s=>ph.length - s.1) (0,_,_,_)
  (aq eH) ⟨Nat.zero_le _,Nat.lt_succ_self _,rfl⟩ ?_) ?_)
 .rintro⟨j,r,m,nx⟩ ⟨hj,hr,ay⟩;dsimp only at hj hr ay ⊢;refine SS ?_;refine ab ⟨_,rfl,fun h=>?_,fun h=>?_⟩
  .have cF:j<ph.length:=by simpa using h
   have hy:ph[j]? =some ph[j]:=by simp[cF]
   have gV:ph[j]∈ph:=bO _
   have C:((ph.take (j+1)).map fun y=>y.args.getD p 0).map I=((ph.take j).map fun y=>y.args.getD p 0).map I++[I (ph[j].args.getD p 0)]:=by
    rw[List.take_add_one,hy,List.map_append,List.map_append];rfl
   have oQ:(((ph.take j).map fun y=>y.args.getD p 0).map I).length=j:=by simp;omega
   generalize ph[j]=y at hy gV C;generalize ((ph.take j).map fun y=>y.args.getD p 0).map I=cs at ay C oQ;have hya:=X y gV;have hv:y.args[p]? =some y.args[p]:=aG oG;have J:y.args.getD p 0=y.args[p]:=by simp[bF,hv]
   rw[J] at C;generalize y.args[p]=v at hv C;refine ws ?_;refine aJ ?_;refine ab (eZ ?_);refine dk ?_;refine rH (rq rfl (ag oG (ag oG (ag oG ay))) rfl V.h V.h (pP (up_same _ _ _) rfl) rfl) ak ⟨V.h,rfl,(by first|omega|exact bA rfl|(simp;done)|(simp;omega)),oC,(by first|rfl|(simp;done)|(simp;omega)),(by unfold maxLen;first|omega|(simp;omega)),(by rw[b3];first|omega|(simp;omega)),(by first|(simp;done)|(simp;omega))⟩ ?_;refine SS ?_;refine ab ?_;refine af ?_;refine ab (aK (j+1,nx+1+1,_,_) (aq eH) ⟨oM,oM,?_⟩ oM);dsimp only;rw[C];exact up_same _ _ _
  .have bh:¬ j<ph.length:=by simpa using h
   have:j=ph.length:=by omega
   subst this;rw[List.take_length] at ay;exact⟨r,m,nx,aq eH,ay⟩
 .rintro s ⟨r,m,nx,hg,ay⟩;refine⟨_,hg,aw ?_⟩;refine af ?_;refine ab (aI (ni ay (l:=[(6,aB (jn A a x))]) ⟨?_,trivial⟩) (ax rfl rfl));rw[U];exact(j0 (by rw[c3];simp)).trans oS
theorem wE{a b r:Int}{ka kb:Nat}{J C:bB}{A:List Int}(ha:a=ka)(hb:b=kb)(pJ:f.blocks[ka]? =some J)(U:f.blocks[kb]? =some C)(hA:ahd[kb]? =some A)(hl:C.ins.length<=100000)
 (X:∀ y∈cg C,y.args.length=A.length) (hm:a∈A) (hw:J.fin.aH.length<=1000):PCall prog 70 [.pt (cv f beh ahd c),I a,I b,I r] (U8 (np J C A a b r)):=by
 have zK:=zK (f:=f) (beh:=beh) (ahd:=ahd) hc eQ hb U hA hl X hm;have uH:=uH (f:=f) (beh:=beh) (ahd:=ahd) hc eQ hb U hl;have zJ:=zJ (x:=J.fin) (b:=b) hw;have qM:=qM (l:=jn A a C) (v:=r);have vX:=vX (l:=cg C) (g:=142) (fs:=[]) (cs:=[.pt [I r]]) (p:=fun z=>z.to==r) (.fn oS (.cons (.pt (.cons (.s _) .nil)) .nil)) (fun x _=>ah1);subst ha;have ap:=(bL.1 pJ).1;refine bc Vg (.cons (tR hc) (.cons (.s _) (.cons (.s _) (.cons (.s _) .nil)))) (Tr.s _) ?_;rw[ah7];refine aw ?_;refine af ?_;refine ab (aI (bw [(0,[I r],3)] eH (l:=[(0,.pt (cv f beh ahd c)),(1,I ka),(2,I b),(7,.pt [I r])]) eH) (l8 (c8 aaw ?_)));refine bI ?_;refine af ?_;refine cl zJ ?_;refine au ?_;refine a8 bf (av rfl (fun h=>ao ?_) fun h=>c8 aax ?_)
 .refine SS ?_;refine ab (aT (bH (aL (ax (d:=U8 2) rfl ?_))));rw[np,if_pos h]
 .refine au ?_;refine cl zK ?_;refine SS ?_;refine cl qM ?_;refine SS ?_;refine a8 bf (av rfl (fun h'=>ao ?_) fun h'=>ao ?_)
  .refine SS ?_;refine ab (aT (bH (aL (ax (d:=U8 1) rfl ?_))));rw[np,if_neg (by simp[h]),if_pos h']
  .refine af ?_;refine cl uH ?_;refine SS ?_;refine cl vX ?_;refine SS ?_;refine ab (av rfl (fun h2=>ao ?_) fun h2=>lL (ao ?_))
   .refine SS ?_;refine ab (aT (bH (aL (ax (d:=U8 2) rfl ?_))));rw[np,if_neg (by simp[h]),if_neg (by simp[h']),if_pos (show dW C r=true from h2)]
   .refine SS ?_;refine ab (ax (d:=U8 0) rfl ?_);rw[np,if_neg (by simp[h]),if_neg (by simp[h']),if_neg (by rw[dW,h2];simp)]
end
theorem LL{l:List a7}:PCall prog 138 [dG l] (.fn (.func 176) [] [.pt [dG l]]):=by
 have C:∀ a∈[dG l],Tr a:=.cons (y9 l) .nil;refine bc TR C (.fn oS (.cons (.pt (.cons (y9 l) .nil)) .nil)) ?_;rw[aet];refine aw ?_;refine fP (Bb (d:=.sl _ _) rfl rfl) ak rfl ?_;refine aF (na (v:=.s .nilFunc) rfl) ak trivial ?_;refine ab (aI (bw [(0,[dG l],70)] eH (l:=[(1,.pt [dG l])]) eH) (ao ?_));refine af ?_;exact ab (ax rfl rfl)
theorem Vh{l:List a7}(hlen:l.length<=100000):SeqA prog 176 [] [.pt [dG l]] (vN l):=by
 refine Ke mixed TS kr fun L J Stop m nx hI X h0=>?_;rw[aeu];refine aw ?_;refine aJ ?_
 refine ab (cI (α:=Nat×Mem×Nat) (fun k=>⟨az [(0,.fn (.yield L) [] []),(1,.pt [dG l]),(3,I ((l.length:Int) - 1 - k.1))],k.2.1,k.2.2⟩)
  (fun k=>k.1<=l.length/\J k.1 k.2.1 k.2.2) (fun k=>l.length - k.1) (0,m,nx) (aq ⟨rfl,rfl,congrArg (fun z:Int=>I z) (show(l.length:Int) - 1=(l.length:Int) - 1 - ((0:Nat):Int) by omega),trivial⟩) ⟨oG,h0⟩ ?_)
 rintro⟨k,m,nx⟩ ⟨hk,C⟩;dsimp only at hk C ⊢;refine af ?_;refine ab ⟨_,rfl,fun h=>?_,fun h=>?_⟩
 .have ap:k<l.length:=by have h:(0:Int)<=(l.length:Int) - 1 - k:=by simpa using h
                         omega
  have hx:l[l.length - 1 - k]? =some l[l.length - 1 - k]:=aG oG;generalize l[l.length - 1 - k]=x at hx;have hy:=OG ap hx;have U:(l.length:Int) - 1 - k=((l.length - 1 - k:Nat):Int):=by omega
  rw[U];refine ws ?_;refine bK ?_;refine Lp rfl rfl dd ⟨rfl,k,hy,C,fun d m' nx' hp=>?_⟩;rcases hp with⟨rfl,hp⟩|⟨rfl,hp⟩
  .refine SS ?_;refine ab (av rfl (fun h=>oH) fun h=>ct ?_);refine au ?_;exact ab (aK (k+1,m',nx') (aq ⟨rfl,rfl,congrArg (fun z:Int=>I z) (show((l.length - 1 - k:Nat):Int) - 1=(l.length:Int) - 1 - ((k+1:Nat):Int) by omega),trivial⟩) ⟨by simp only;omega,hp⟩ (by simp only;omega))
  .refine SS ?_;exact ab (av rfl (fun h=>aT (bR (vB (.inr hp)))) fun h=>oH)
 .have bh:¬ k<l.length:=by
   intro ap;simp at h;omega
  have:k=l.length:=by omega
  subst this;exact ue (.inl (by rw[IV];exact C))
section
variable{f:aA}{beh ahd:List (List Int)}{c:D}(hc:Tr c)(eQ:c.one=true)
include hc eQ
theorem Hl{n:Nat}{w:Int}(hn:beh.length=n)(s8:∀ b,∀ t∈bt beh b,0<=t/\t.toNat<n)(du:∀ b,(bt beh b).length<=100000){i5 i6 r:Nat}(h56:i5≠i6)(Ff:i5≠r)(Wx:i6≠r):∀ (k:Nat) (m:Mem) (nx:Nat) (seen:List Bool) (o:List Int) (b:Nat),
 i5<nx->i6<nx->r<nx->m i5=some (.cells [.rs r 0 n] 52)->m i6=some (.cells [.fn (.func 168) [] [.rp i5 0,.pt [.pt (cv f beh ahd c)],.pt [I w],.rp i6 0]] 128)->m r=some (.cells (seen.map B) 4)->
 seen.length=n->b<n->seen.count false<=k->seen.getD b false=false->
 ACalls prog 168 [I b,.rp i5 0,.pt [.pt (cv f beh ahd c)],.pt [I w],.rp i6 0] m nx (fun d m' nx'=>d=.tup []/\nx'=nx/\m'=up m r (some (.cells ((eE (bt beh) w k (seen,o) b).1.map B) 4)))
 |0,m,nx,seen,o,b,h5,h6,hr,MW,wu,wq,g',hb,qi,wG=>by
  have _:=hc;have _:=eQ;have:=wT (wU wG oG);omega
 |k+1,m,nx,seen,o,b,h5,h6,hr,MW,wu,wq,g',hb,qi,wG=>by
  have kL:=CM (beh:=beh) (b:=b) oG;have dF:=s8 b;have jA:=du b;have nI:=wT (wU wG oG);have IH:=Hl (w:=w) hn s8 du h56 Ff Wx k;refine yx TT ?_;rw[aev];have ay:=MW;have cQ:=wq;rw[yX];generalize bt beh b=l at kL dF jA;refine ws ?_;refine au ?_;refine Vi ?_;refine ab (aw ?_);refine aE ?_
  refine ab (dM (α:=Nat) (fun j=>⟨az [(1,.rp i5 0),(3,.pt [I w]),(4,.rp i6 0),(17,aB l),(18,I l.length),(19,I j)],up m r (some (.cells ((ep (bt beh) w k (seen.set b true,o) (l.take j)).1.map B) 4)),nx⟩)
   (fun j=>j<=l.length) (fun j=>l.length - j) 0 (jd eH ?_) (Nat.zero_le _) ?_)
  .rw[List.take_zero];show up m r _=up m r (some (.cells ((seen.set b true).map B) 4));rw[List.map_set]
  intro j hj;obtain⟨cl,cc⟩:=(Gj (beh:=bt beh) (w:=w) k).2 (l.take j) (seen.set b true,o)
  have cq:∀ t,l[j]? =some t->ep (bt beh) w k (seen.set b true,o) (l.take (j+1))=if xH (ep (bt beh) w k (seen.set b true,o) (l.take j)).1 t=false/\t≠w then eE (bt beh) w k (ep (bt beh) w k (seen.set b true,o) (l.take j)) t.toNat else ep (bt beh) w k (seen.set b true,o) (l.take j):=fun t ht=>by
   rw[List.take_add_one,ht];exact IW (bt beh) w k (seen.set b true,o) (l.take j) t
  have gd:j=l.length->ep (bt beh) w k (seen.set b true,o) (l.take j)=ep (bt beh) w k (seen.set b true,o) l:=fun e=>by rw[e,List.take_length]
  generalize ep (bt beh) w k (seen.set b true,o) (l.take j)=s at cl cc cq gd;simp only[List.length_set] at cl cc;have ay:up m r (some (.cells (s.1.map B) 4)) i5=some (.cells [.rs r 0 n] 52):=ag Ff MW;have cQ:up m r (some (.cells (s.1.map B) 4)) r=some (.cells (s.1.map B) 4):=up_same _ _ _;have gy:up m r (some (.cells (s.1.map B) 4)) i6=some (.cells [.fn (.func 168) [] [.rp i5 0,.pt [.pt (cv f beh ahd c)],.pt [I w],.rp i6 0]] 128):=ag Wx wu;have mX:∀ v,up (up m r (some (.cells (s.1.map B) 4))) r v=up m r v:=fun v=>la _ _ _ _;generalize hM:up m r (some (.cells (s.1.map B) 4))=M at ay cQ gy mX;refine SS ?_;refine ab ⟨_,rfl,fun h=>?_,fun h=>?_⟩
  .have ap:j<l.length:=by simpa using h
   have hx:l[j]? =some l[j]:=aG ap;have rW:=dF _ (bO ap);generalize l[j]=t at hx rW;have J:=cq t hx;obtain⟨C,rfl⟩:=cN rW.1;have vd:C<n:=rW.2;have hv:s.1[C]? =some s.1[C]:=aG oG;have pK:s.1.getD C false=s.1[C]:=by simp[bF,hv]
   have X:xH s.1 (C:Int)=s.1[C]:=pK;generalize s.1[C]=v at hv pK X;have kd:=gu (f:=B) hv;refine ws ?_;refine au ?_;refine er ?_;refine bI ?_;refine af ?_;refine ab (av rfl (fun hp=>?_) fun hp=>?_)
   .have U:v=false/\(C:Int)≠w:=by
     revert hp;cases v<;>simp
    have J:=J.trans (if_pos ⟨X.trans U.1,U.2⟩);refine eZ ?_;refine aF (fV rfl gy rfl V.h) ak (fW V.h V.h rfl) ?_;refine SS ?_;refine kZ (IH M nx s.1 s.2 C h5 h6 hr ay gy cQ (cl.trans g') vd oG (pK.trans U.1)) rfl dd fun d m' nx' hp=>?_;obtain⟨rfl,rfl,rfl⟩:=hp;refine ab ?_;refine af ?_;refine ab (aK (j+1) (jd eH ?_) oG oG);rw[mX,J];rfl
   .have U:¬ (v=false/\(C:Int)≠w):=by
     revert hp;cases v<;>simp
    have J:=J.trans (if_neg fun hh=>U ⟨X.symm.trans hh.1,hh.2⟩);refine ct ?_;refine af ?_;refine ab (aK (j+1) (jd eH ?_) oG oG);rw[J];exact hM.symm
  .have bh:¬ j<l.length:=by simpa using h
   refine ue ⟨rfl,rfl,?_⟩;rw[<- gd oG];exact hM.symm
end
theorem MX{m:Mem}{nx i n:Nat}{l:List Int}(hi:i<nx)(hm:m i=some (.cells (l.map I) 3))(hl:l.length=n)(hn:n<=100000):
 ACalls prog 84 [.rs i 0 n] m nx (fun r m' nx'=>r=.tup []/\nx'=nx/\m'=up m i (some (.cells (l.reverse.map I) 3))):=by
 refine yx Vj ?_;rw[ah']
 have U:up m i (some (.cells (l.map I) 3))=m:=by
  funext j;simp only[up];split
  .rename_i e;rw[e,hm]
  .rfl
 have ay:=hm;refine aw ?_;refine aV ?_
 refine ab (cI (α:=List Int×Nat) (fun s=>⟨az [(0,.rs i 0 n),(2,I s.2),(3,I ((n:Int) - 1 - s.2))],up m i (some (.cells (s.1.map I) 3)),nx⟩)
  (fun s=>s.1.length=n/\s.2<=n/\∀ p,p<n->s.1.getD p 0=if p<s.2\/n<=p+s.2 then l.getD (n - 1 - p) 0 else l.getD p 0) (fun s=>n - s.2) (l,0) (jd ⟨rfl,rfl,congrArg (fun z:Int=>I z) (show(n:Int) - 1=(n:Int) - 1 - ((0:Nat):Int) by omega),trivial⟩ U.symm) ⟨hl,Nat.zero_le _,fun p hp=>by rw[if_neg (by simp only;omega)]⟩ ?_)
 rintro⟨d,k⟩ ⟨hd,hk,hinv⟩;dsimp only at hd hk hinv ⊢;have ay:up m i (some (.cells (d.map I) 3)) i=some (.cells (d.map I) 3):=up_same _ _ _;refine au ?_;refine ab ⟨_,rfl,fun h=>?_,fun h=>?_⟩
 .have ap:(k:Int)<(n:Int) - 1 - k:=by simpa using h
  obtain⟨j,hj⟩:∃ j:Nat,(n:Int) - 1 - k=j/\j=n - 1 - k:=⟨n - 1 - k,oG,rfl⟩
  have ha:d[k]? =some d[k]:=aG oG;have hb:d[j]? =some d[j]:=aG oG;have C:d.getD k 0=d[k]:=by simp[bF,ha]
  have J:d.getD j 0=d[j]:=by simp[bF,hb]
  have kd:=gu (f:=I) hb;have gA:=gu (f:=I) ha;generalize X:d[k]=a at ha C gA;generalize hB:d[j]=b at hb J kd;clear X hB;rw[hj.1];refine kU aay ?_;refine aE ?_;refine af ?_;refine aF (fV rfl ay gA V.h) ak (fW V.h V.h gA) ?_;refine SS ?_;refine cJ (iA (d:=.s (.int _ _)) (cs':=_) rfl rfl ay rfl rfl) ak (dQ V.h V.h (by first|(simp;done)|exact⟨rfl,bA rfl⟩|(simp;omega)) rfl) ?_;refine af ?_;refine a8 bf ?_;refine bK ?_;refine ab (aK ((d.set k b).set j a,k+1) (jd ⟨rfl,rfl,congrArg (fun z:Int=>I z) (show(j:Int) - 1=(n:Int) - 1 - ((k+1:Nat):Int) by omega),trivial⟩ ?_) ⟨by simp[hd],by simp only;omega,fun p hp=>?_⟩ (by simp only;omega))
  .rw[la,la];simp only[List.map_set]
  .simp only
   have e:((d.set k b).set j a).getD p 0=if p=j then a else if p=k then b else d.getD p 0:=by
    simp only[bF,List.getElem?_set];by_cases e1:j=p
    .subst e1;simp[hd,hp]
    .rw[if_neg e1,if_neg (show ¬ p=j from fun e=>e1 e.symm)];by_cases e2:k=p
     .subst e2;simp[hd,hp]
     .rw[if_neg e2,if_neg (show ¬ p=k from fun e=>e2 e.symm)]
   rw[e];have h1:=hinv p hp;by_cases e1:p=j
   .subst e1;rw[if_pos rfl,if_pos oG];have:=hinv k oG;rw[if_neg oG,C] at this;rw[this,show n - 1 - p=k by omega]
   .rw[if_neg e1];by_cases e2:p=k
    .subst e2;rw[if_pos rfl,if_pos oG];have:=hinv j oG;rw[if_neg oG,J] at this;rw[this,show n - 1 - p=j by omega]
    .rw[if_neg e2,h1];by_cases e3:p<k\/n<=p+k
     .rw[if_pos e3,if_pos oG]
     .rw[if_neg e3,if_neg oG]
 .have bh:¬ (k:Int)<(n:Int) - 1 - k:=by simpa using h
  refine ue ⟨rfl,rfl,?_⟩;rw[ah9 hl hd hinv oG]
section
variable{f:aA}{beh ahd:List (List Int)}{c:D}(hc:Tr c)(eQ:c.one=true)
include hc eQ
theorem Hn{n:Nat}{w:Int}(hn:beh.length=n)(yd:f.blocks.length=n)(qF:0<n)(mO:n<=100000)(s8:∀ b,∀ t∈bt beh b,0<=t/\t.toNat<n)(X:∀ b,(bt beh b).length<=100000):
 OCall prog 116 [.pt (cv f beh ahd c),I w] ((cS (bt beh) n w).map B) n 4:=by
 refine Af TW (.cons (tR hc) (.cons (.s _) .nil)) (.map fun _=>.s _) ?_;rw[aeB];refine aw ?_;refine fP (Bb (d:=.pt _) rfl rfl) ak rfl ?_;refine af ?_;refine ab (aI (bw [(0,[.pt (cv f beh ahd c)],79),(1,[I w],3)] eH (l:=[(2,.pt [.pt (cv f beh ahd c)]),(3,.pt [I w])]) eH) (aw ?_));have J:((f.blocks.length:Nat):Int).toNat=n:=yd;refine bI ?_;refine Vk ?_;refine ab (aI (aP (l:=[(2,.pt [.pt (cv f beh ahd c)]),(3,.pt [I w]),(5,.rp 3 0)]) (ml:=[(2,.cells ((List.replicate n false).map B) 4),(3,.cells [.rs 2 0 n] 52)]) eH ⟨?_,?_,trivial⟩) (aC (ao ?_)))
 .exact congrArg (fun c=>some (Row.cells c 4)) ((congrArg (fun k=>replD k [B false]) J).trans (q7 n false))
 .exact congrArg (fun k=>some (Row.cells [D.rs 2 0 k] 52)) J
 refine af ?_;refine ab (cH rfl (fun h=>?_) fun h=>b7 (ao ?_))
 .have C:w=0:=by simpa using h
  refine aC (aw ?_);refine af ?_;refine ab (aI (.refl _) (cK (ax rfl ⟨2,rfl,?_⟩)));rw[cS,if_pos C];rfl
 .have C:¬ w=0:=by simpa using h
  refine SS ?_;refine er ?_;refine SS ?_;refine cJ (iA (d:=.fn _ _ _) (cs':=[_]) rfl rfl rfl rfl rfl) ak (dQ V.h V.h (by first|(simp;done)|exact⟨rfl,bA rfl⟩|(simp;omega)) rfl) ?_;refine ab (aw ?_);have Hl:=Hl (f:=f) (beh:=beh) (ahd:=ahd) (w:=w) hc eQ hn s8 X (i5:=3) (i6:=4) (r:=2) oC oC oC n;have hR:cS (bt beh) n w=(eE (bt beh) w n (List.replicate n false,[]) 0).1:=by rw[cS,if_neg C]
  have U:=(Gj (beh:=bt beh) (w:=w) n).1 (List.replicate n false,[]) 0;rw[<- hR] at U;refine SS ?_;refine kZ (Hl _ _ (List.replicate n false) [] 0 oG oG oG rfl rfl rfl oS qF oS (by rw[bF,List.getElem?_replicate];split<;>rfl)) rfl dd fun d m' nx' hp=>?_;obtain⟨rfl,rfl,rfl⟩:=hp;rw[<- hR];generalize cS (bt beh) n w=R at U hR ⊢;refine ab (aI (aP (l:=[(5,.rp 3 0)]) (ml:=[(2,.cells (R.map B) 4),(3,.cells [.rs 2 0 n] 52)]) eH eH) (aw ?_));refine af ?_;exact ab (aI (.refl _) (ax rfl ⟨2,rfl,rfl⟩))
end
structure Ho(i3 i4 i5 r n:Nat)(fv:D)(m:Mem)(nx q:Nat)(s:List Bool×List Int):Prop where
 h3:i3<nx
 h4:i4<nx
 h5:i5<nx
 hr:r<nx
 m3:m i3=some (.cells [.rs r 0 n] 52)
 m5:m i5=some (.cells [fv] 128)
 mr:m r=some (.cells (s.1.map B) 4)
 m4:m i4=some (.cells [jc q (s.2.map I)] 27)
 mq:s.2≠[]->q<nx/\q≠i3/\q≠i4/\q≠i5/\q≠r/\m q=some (.cells (s.2.map I) 3)
section
variable{f:aA}{beh ahd:List (List Int)}{c:D}(hc:Tr c)(eQ:c.one=true)
include hc eQ
theorem Ev{n:Nat}(hn:beh.length=n)(s8:∀ b,∀ t∈bt beh b,0<=t/\t.toNat<n)(du:∀ b,(bt beh b).length<=100000){i3 i4 i5 r:Nat}(r6:i3≠i4)(h35:i3≠i5)(Wy:i3≠r)(MY:i4≠i5)(H3:i4≠r)(Ff:i5≠r):
 ∀ (k:Nat) (m:Mem) (nx q:Nat) (C:List Bool×List Int) (b:Nat),
 Ho i3 i4 i5 r n (.fn (.func 149) [] [.rp i3 0,.pt [.pt (cv f beh ahd c)],.rp i5 0,.rp i4 0]) m nx q C->C.1.length=n->b<n->C.1.count false<=k->C.1.getD b false=false->C.2.length+C.1.count false<=100000->
 ACalls prog 149 [I b,.rp i3 0,.pt [.pt (cv f beh ahd c)],.rp i5 0,.rp i4 0] m nx (fun d m' nx'=>d=.tup []/\∃ q',Ho i3 i4 i5 r n (.fn (.func 149) [] [.rp i3 0,.pt [.pt (cv f beh ahd c)],.rp i5 0,.rp i4 0]) m' nx' q' (eE (bt beh) (-1) k C b))
 |0,m,nx,q,C,b,J,g',hb,qi,wG,hlen=>by
  have _:=hc;have _:=eQ;have:=wT (wU wG oG);omega
 |k+1,m,nx,q,C,b,J,g',hb,qi,wG,hlen=>by
  have kL:=CM (beh:=beh) (b:=b) oG;have dF:=s8 b;have jA:=du b;have nI:=wT (wU wG oG);have IH:=Ev hn s8 du r6 h35 Wy MY H3 Ff k;have g9:=(J2 (w:= -1) s8 k).2;refine yx TX ?_;rw[aeC];have ay:=J.m3;have cQ:=J.mr;have⟨p3,p4,p5,pr,_,_,_,_,pq⟩:=J;rw[yX];generalize bt beh b=l at kL dF jA;refine ws ?_;refine au ?_;refine Vi ?_;refine ab (aC (aw ?_));refine aE ?_
  refine ab (bV (fun s=>∃ m nx q,Ghost prog s ⟨az [(0,I b),(4,.rp i4 0)],m,nx⟩/\Ho i3 i4 i5 r n (.fn (.func 149) [] [.rp i3 0,.pt [.pt (cv f beh ahd c)],.rp i5 0,.rp i4 0]) m nx q (ep (bt beh) (-1) k (C.1.set b true,C.2) l)) (dM (α:=Nat×Nat×Mem×Nat)
   (fun j=>⟨az [(0,I b),(1,.rp i3 0),(3,.rp i5 0),(4,.rp i4 0),(17,aB l),(18,I l.length),(19,I j.1)],j.2.2.1,j.2.2.2⟩)
   (fun j=>j.1<=l.length/\Ho i3 i4 i5 r n (.fn (.func 149) [] [.rp i3 0,.pt [.pt (cv f beh ahd c)],.rp i5 0,.rp i4 0]) j.2.2.1 j.2.2.2 j.2.1 (ep (bt beh) (-1) k (C.1.set b true,C.2) (l.take j.1))) (fun j=>l.length - j.1) (0,q,_,nx)
   (aq eH) ⟨Nat.zero_le _,?_⟩ ?_) ?_)
  .dsimp only;refine⟨p3,p4,p5,pr,ag Wy J.m3,ag Ff J.m5,?_,ag H3 J.m4,fun h=>?_⟩
   .rw[List.take_zero];show up m r _ r=some (.cells ((C.1.set b true).map B) 4);rw[List.map_set];exact up_same _ _ _
   .obtain⟨a1,a2,a3,a4,a5,a6⟩:=pq h;exact⟨a1,a2,a3,a4,a5,ag a5 a6⟩
  .clear J ay cQ p3 p4 p5 pr pq;rintro⟨j,q,m,nx⟩ ⟨hj,J⟩;dsimp only at hj J ⊢;obtain⟨cl,cc⟩:=(Gj (beh:=bt beh) (w:= -1) k).2 (l.take j) (C.1.set b true,C.2);have cp:=g9 (l.take j) (fun c h=>dF c (List.mem_of_mem_take h)) (C.1.set b true,C.2) (by simpa using g')
   have cq:∀ t,l[j]? =some t->ep (bt beh) (-1) k (C.1.set b true,C.2) (l.take (j+1))=if xH (ep (bt beh) (-1) k (C.1.set b true,C.2) (l.take j)).1 t=false/\t≠ -1 then eE (bt beh) (-1) k (ep (bt beh) (-1) k (C.1.set b true,C.2) (l.take j)) t.toNat else ep (bt beh) (-1) k (C.1.set b true,C.2) (l.take j):=fun t ht=>by
    rw[List.take_add_one,ht];exact IW (bt beh) (-1) k (C.1.set b true,C.2) (l.take j) t
   have gd:j=l.length->ep (bt beh) (-1) k (C.1.set b true,C.2) (l.take j)=ep (bt beh) (-1) k (C.1.set b true,C.2) l:=fun e=>by rw[e,List.take_length]
   generalize ep (bt beh) (-1) k (C.1.set b true,C.2) (l.take j)=s at cl cc cq gd J cp;simp only[List.length_set] at cl cc cp;have ay:=J.m3;have cQ:=J.mr;have gy:=J.m5;refine SS ?_;refine ab ⟨_,rfl,fun h=>?_,fun h=>?_⟩
   .have ap:j<l.length:=by simpa using h
    have hx:l[j]? =some l[j]:=aG ap;have rW:=dF _ (bO ap);generalize l[j]=t at hx rW;have X:=cq t hx;obtain⟨U,rfl⟩:=cN rW.1;have vd:U<n:=rW.2;have hv:s.1[U]? =some s.1[U]:=aG oG;have pK:s.1.getD U false=s.1[U]:=by simp[bF,hv]
    have Al:xH s.1 (U:Int)=s.1[U]:=pK;generalize s.1[U]=v at hv pK Al;have kd:=gu (f:=B) hv;refine ws ?_;refine au ?_;refine er ?_;refine aV ?_;refine ab (av rfl (fun hp=>?_) fun hp=>?_)
    .have ve:v=false:=by simpa using hp
     have X:=X.trans (if_pos ⟨Al.trans ve,oG⟩);refine eZ ?_;refine aF (fV rfl gy rfl V.h) ak (fW V.h V.h rfl) ?_;refine SS ?_;refine kZ (IH m nx q s U J (cl.trans g') vd oG (pK.trans ve) oG) rfl dd fun d m' nx' hp=>?_;obtain⟨rfl,q',hp⟩:=hp;refine ab ?_;refine af ?_;refine ab (aK (j+1,q',m',nx') (aq eH) ⟨oM,?_⟩ oM);dsimp only;rw[X];exact hp
    .have ve:v=true:=by simpa using hp
     have X:=X.trans (if_neg fun hh=>by rw[Al,ve] at hh;exact absurd hh.1 oS);refine ct ?_;refine af ?_;refine ab (aK (j+1,q,m,nx) (aq eH) ⟨oM,?_⟩ oM);dsimp only;rw[X];exact J
   .have bh:¬ j<l.length:=by simpa using h
    rw[<- gd oG];exact⟨m,nx,q,aq eH,J⟩
  .clear J ay cQ p3 p4 p5 pr pq;rintro s ⟨m,nx,q,hg,J⟩;have cp:=g9 l dF (C.1.set b true,C.2) (by simpa using g');generalize ep (bt beh) (-1) k (C.1.set b true,C.2) l=u at J cp ⊢;obtain⟨u1,u2⟩:=u;have⟨p3,p4,p5,pr,m3,m5,mr,m4,pq⟩:=J;dsimp only at mr m4 pq cp ⊢;refine⟨_,hg,gv ?_⟩;by_cases hz:u2=[]
   .subst hz;have ay:m i4=some (.cells [.z] 27):=m4;refine aJ ?_;refine UU ?_;refine ab (ue ⟨rfl,nx+1,?_⟩);dsimp only;refine⟨oG,oG,oG,oG,?_,?_,?_,?_,fun _=>⟨oG,oG,oG,oG,oG,?_⟩⟩
    .exact ag r6 (ag oG (ag oG m3))
    .exact ag (Ne.symm MY) (ag oG (ag oG m5))
    .exact ag (Ne.symm H3) (ag oG (ag oG mr))
    .exact(up_same _ _ _).trans rfl
    .exact ag oG ((up_same _ _ _).trans rfl)
   .have aM:u2.map I≠[]:=by simpa using hz
    obtain⟨q1,q2,q3,q4,q5,q6⟩:=pq hz;have ay:m i4=some (.cells [.rs q 0 u2.length] 27):=by rw[m4,rD aM,List.length_map]
    have cQ:=q6;have oQ:(u2.map I).length=u2.length:=by simp
    refine aJ ?_;refine UW ?_;refine ab (ue ⟨rfl,nx+1,?_⟩);dsimp only;refine⟨oG,oG,oG,oG,?_,?_,?_,?_,fun _=>⟨oG,oG,oG,oG,oG,?_⟩⟩
    .exact ag r6 (ag oG (ag (Ne.symm q2) (ag oG m3)))
    .exact ag (Ne.symm MY) (ag oG (ag (Ne.symm q4) (ag oG m5)))
    .exact ag (Ne.symm H3) (ag oG (ag (Ne.symm q5) (ag oG mr)))
    .refine(up_same _ _ _).trans ?_;rw[List.map_append,rD oS];simp
    .refine ag oG ((up_same _ _ _).trans ?_);rw[List.map_append];rfl
theorem Fg{n:Nat}(hn:beh.length=n)(yd:f.blocks.length=n)(qF:0<n)(mO:n<=100000)(s8:∀ b,∀ t∈bt beh b,0<=t/\t.toNat<n)(du:∀ b,(bt beh b).length<=100000):
 OCall prog 85 [.pt (cv f beh ahd c)] ((ug (bt beh) n).map I) (ug (bt beh) n).length 3:=by
 refine Af Vl (.cons (tR hc) .nil) (.map fun _=>.s _) ?_;rw[aia];refine aw ?_;refine fP (Bb (d:=.pt _) rfl rfl) ak rfl ?_;refine SS ?_;refine ab (aI (bw [(0,[.pt (cv f beh ahd c)],79)] eH (l:=[(1,.pt [.pt (cv f beh ahd c)])]) eH) (aw ?_));have dE:((f.blocks.length:Nat):Int).toNat=n:=yd;refine bI ?_;refine Vk ?_;refine ab (aI (aP (l:=[(1,.pt [.pt (cv f beh ahd c)]),(3,.rp 2 0)]) (ml:=[(1,.cells ((List.replicate n false).map B) 4),(2,.cells [.rs 1 0 n] 52)]) eH ⟨?_,?_,trivial⟩) (ao ?_))
 .exact congrArg (fun c=>some (Row.cells c 4)) ((congrArg (fun k=>replD k [B false]) dE).trans (q7 n false))
 .exact congrArg (fun k=>some (Row.cells [D.rs 1 0 k] 52)) dE
 refine SS ?_;refine er ?_;refine SS ?_;refine er ?_;refine SS ?_;refine cJ (iA (d:=.fn _ _ _) (cs':=[_]) rfl rfl rfl rfl rfl) ak (dQ V.h V.h (by first|(simp;done)|exact⟨rfl,bA rfl⟩|(simp;omega)) rfl) ?_;refine ab (aw ?_);have Ev:=Ev (f:=f) (beh:=beh) (ahd:=ahd) hc eQ hn s8 du (i3:=2) (i4:=3) (i5:=4) (r:=1) oC oC oC oC oC oC n;have hz:(List.replicate n false).getD 0 false=false:=by rw[bF,List.getElem?_replicate];split<;>rfl
 have vf:=(J2 (w:= -1) s8 n).1 (List.replicate n false,[]) 0 oS qF hz
 have C:(eE (bt beh) (-1) n (List.replicate n false,[]) 0).2≠[]:=by
  obtain⟨j,rfl⟩:∃ j,n=j+1:=⟨n - 1,oG⟩
  exact acO
 have hR:ug (bt beh) n=(eE (bt beh) (-1) n (List.replicate n false,[]) 0).2.reverse:=rfl;refine SS ?_;refine kZ (Ev _ _ 0 (List.replicate n false,[]) 0 ⟨oC,oC,oC,oC,rfl,rfl,rfl,rfl,fun h=>absurd rfl h⟩ oS qF oS hz oP) rfl dd fun d m' nx' hp=>?_;obtain⟨rfl,J,X⟩:=hp;have m4:=X.m4;obtain⟨q1,q2,q3,q4,q5,U⟩:=X.mq C;rw[hR];clear X hR Ev;generalize (eE (bt beh) (-1) n (List.replicate n false,[]) 0)=u at vf C m4 U ⊢;obtain⟨u1,u2⟩:=u;dsimp only at vf C m4 U ⊢;have Eg:u2.map I≠[]:=by simpa using C
 have ay:m' 3=some (.cells [.rs J 0 u2.length] 27):=by rw[m4,rD Eg,List.length_map]
 have cQ:=U;have jA:u2.length<=100000:=by simp at vf;omega
 refine ab (aI (aq (l:=[(4,.rp 3 0)]) eH) (ao ?_));refine SS ?_;refine kZ (MX q1 U rfl jA) rfl dd fun d m2 gX hp=>?_;obtain⟨rfl,rfl,rfl⟩:=hp;refine er ?_;have ay:up m' J (some (.cells (u2.reverse.map I) 3)) 3=some (.cells [.rs J 0 u2.length] 27):=ag (Ne.symm q3) ay;refine af ?_;refine ab (ax rfl ⟨J,?_,up_same _ _ _⟩);rw[List.length_reverse];rfl
end
end Go.Proofs.Tryz.K
namespace Go.Abs
section
variable{P:Program}{m:Mem}{nx:Nat}
theorem Xr{f:FuncId}{rds:List Nat}{args args' es:List D}{n:Nat}{t:TypeId}(ot:Sns P rds m args args')(hc:OCall P f args' es n t)(iu:∀ d∈es,d.scal=true):
 ACalls P f args m nx (fun d m' nx'=>d=.rs nx 0 n/\m'=up m nx (some (.cells es t))/\nx'=nx+1):=by
 refine⟨hc.1,fun F β w vs hm hβ hR=>?_⟩;have hn:=hβ nx (bP _)
 obtain⟨h1,h2⟩:=sns_R (P:=P) (F:=F) (β:=β) (w:=w) (fun i hi r hr=>by
  obtain⟨p,hp,ay⟩:=hm.row i r hr
  exact⟨p,hp,ay,fun b hb=>hm.nf i p b hp hb⟩) ot
 refine(hc.2.2 F w vs (fun b hb=>hm.fb b hb) ⟨by rw[hR.1,h1],fun k d v hd hv=>?_⟩).mono ?_
 .have ap:k<args.length:=by rw[h1];exact(bL.1 hd).1
  exact h2 k args[k] d (by simp[ap]) hd v (hR.2 k args[k] v (by simp[ap]) hv)
 rintro e w' ⟨v,p,he,Kt,C,ay,hv,hk⟩;have kF:=hm.kept hk
 have hs:Step β w (up β nx (some p)) w':=by
  refine⟨hk.1,fun b hb hf=>⟨hk.2.1 b hb,fun i q hq=>?_⟩,fun i q hq=>.inl ?_,hk.2.2⟩
  .by_cases hi:i=nx
   .subst hi;rw[up_same] at hq;cases hq;intro e;have:=(C b e).1;omega
   .rw[up_ne _ _ hi] at hq;exact hf i q hq
  .rw[up_ne _ _ (fun e=>by rw[e,hn] at hq;cases hq)];exact hq
 have U:∀ i q b,up β nx (some p) i=some q->q.blk=some b->(i=nx/\q=p)\/(i≠nx/\β i=some q):=fun i q b hq _=>by
  by_cases hi:i=nx
  .subst hi;rw[up_same] at hq;cases hq;exact .inl ⟨rfl,rfl⟩
  .rw[up_ne _ _ hi] at hq;exact .inr ⟨hi,hq⟩
 have Ku:RowR P F (up β nx (some p)) w' (.cells es t) p:=by
  cases ay with
  |nil _=>exact .nil _
  |cells _ _ b o room sz c h1 h2 h3 h4 h5=>
   refine .cells es t b o room sz c h1 h2 h3 h4 fun k d hd=>?_;obtain⟨u,qt,qv,qw⟩:=h5 k d hd;exact⟨u,qt,scal_R (iu d (cx hd)) qv,qw⟩
 refine⟨v,.rs nx 0 n,up m nx (some (.cells es t)),nx+1,up β nx (some p),he,⟨rfl,rfl,rfl⟩,?_,fun i hi=>by rw[up_ne _ _ oG];exact hβ i oG,?_,hs,Nat.le_succ _,fun i hi hb=>by rw[up_ne _ _ oG];exact hb⟩
 .refine⟨fun i r hi=>?_,fun i j q q' b hq ir e J=>?_,fun i q b hq e=>?_,fun i q b hq e=>?_,kF.fb⟩
  .by_cases X:i=nx
   .subst X;rw[up_same] at hi;cases hi;exact⟨p,up_same _ _ _,Ku⟩
   .rw[up_ne _ _ X] at hi;obtain⟨q,hq,Md⟩:=hm.row i r hi;exact⟨q,by rw[up_ne _ _ X];exact hq,Md.step hs fun b hb=>hk.2.1 b (hm.lt i q b hq hb)⟩
  .rcases U i q b hq e with⟨rfl,rfl⟩|⟨hi,h1⟩<;>rcases U j q' b ir J with⟨rfl,rfl⟩|⟨hj,h2⟩
   .rfl
   .have:=(C b e).1;have:=hm.lt j q' b h2 J;omega
   .have:=(C b J).1;have:=hm.lt i q b h1 e;omega
   .exact hm.inj i j q q' b h1 h2 e J
  .rcases U i q b hq e with⟨_,rfl⟩|⟨_,h1⟩
   .exact(C b e).2
   .exact kF.lt i q b h1 e
  .rcases U i q b hq e with⟨_,rfl⟩|⟨_,h1⟩
   .intro hF;have:=hm.fb b hF;have:=(C b e).1;omega
   .exact hm.nf i q b h1 e
 .cases hv with
  |rsd _ _ _ _ h _=>rw[up_same] at h;cases h;exact absurd rfl Kt
  |rsn _ a h=>rw[up_same] at h;cases h;exact .rsn nx a (up_same _ _ _)
  |rsz _ _ a b o len room sz h=>rw[up_same] at h;cases h;exact .rsz nx 0 a b o len room sz (up_same _ _ _)
  |rs _ _ _ cap b o len room sz h h1 h2 h3 h4=>rw[up_same] at h;cases h;exact .rs nx 0 n cap b o len room sz (up_same _ _ _) h1 h2 h3 h4
end
section
variable{P:Program}{env:Env}{m:Mem}{nx:Nat}
theorem F4{f:FuncId}{args:List D}{de:D->Mem->Nat->Prop}{i:Nat}{r:Row}(hm:m i=some r)(he:enterOk P f=true)(h:i<nx->ACalls P f args m nx de):ACalls P f args m nx de:=⟨he,fun F β w vs C J hR=>by
 refine(h ?_).2 F β w vs C J hR;rcases Nat.lt_or_ge i nx with g|g
 .exact g
 .obtain⟨p,hp,_⟩:=C.row i r hm
  rw[J i g] at hp;cases hp⟩
theorem GW{Y:YSpec}{ops:Array Oper}{dr:Bool}{cf:List (Nat×Nat)}{Q:Exit->St->Prop}{rest:List Oper}{tr:Tra}{op:Op}{ty:TypeId}{pos:String}{after:Array Edge}{f:FuncId}{args:List D}{r:D}{ups:List (Nat×Option Row)}{rds:List Nat}{d:Option Nat}
 (h:∀ C J,(∀ i∈rds,m i≠none->C i=m i)->ACalls P f args C J fun r' m' nx'=>r'=r/\m'=upds C ups/\nx'=J) (U:∀ i∈ups.map (·.1),i∈rds/\m i≠none) (hc:callD (rho env op) op=some (f,args)) (ha:iC env op.operands.toList)
 (K:AOps P Y ops dr cf Q rest (St.put ⟨env,upds m ups,nx⟩ d r) (tr++[(rds,ups.map (·.1))])):AOps P Y ops dr cf Q (⟨d,op,ty,pos,after,none⟩::rest) ⟨env,m,nx⟩ tr:=CV hc ha (.inr (.inr (.inr (.inr (.inl ⟨r,ups,rds,h,U,K⟩)))))
theorem OJ{i:Nat}{cs:List D}{e:TypeId}{l:List (Nat×D)}(hm:m i=some (.cells cs e))(hl:jk l fun t=>sub (fz0 i cs (P.cellsOf e)) (env t)):
 Ghost P ⟨env,m,nx⟩ ⟨az l,fun j=>if j=i then none else(m j).map (Row.sub (fz0 i cs (P.cellsOf e))),nx⟩:=
 (Ghost.freeze env m nx i cs e hm).trans (Ghost.forget _ _ _ _ (nX hl))
theorem gQ.fz{j n q sz:Nat}{e et:TypeId}{ρ:Nat->Nat}{L:Nat->List D}{cs:List D}(h:gQ m nx j n e et ρ L)(J:∀ i,pC (L i))(hq:j≠q)(C:∀ i,i<n->L i≠[]->ρ i≠q):
 gQ (fun p=>if p=q then none else(m p).map (Row.sub (fz0 q cs sz))) nx j n e et ρ L:=by
 refine⟨?_,h.kJ,fun i hi hl=>?_,h.lt,h.ne,h.inj⟩
 .rw[if_neg hq,h.row];refine congrArg some (j8.cells (X:=fun p=>p=q) (fun d hd=>?_) q cs sz rfl);obtain⟨i,hi,rfl⟩:=List.mem_map.1 hd;by_cases hl:L i=[]
  .rw[hl];exact .z
  .rw[rD hl];exact .rs (C i (by simpa using hi) hl)
 .rw[if_neg (C i hi hl),h.kA i hi hl];exact congrArg some (j8.Ep (X:=fun p=>p=q) (J i) q cs sz rfl)
end
end Go.Abs
namespace Go.Argus
open Go.Proofs.Tryz.K (nextR)
theorem FT{f:aA}{x:End}(h:jI f x=true):dc x=cX x:=by
 unfold jI at h;rw[aO] at h;obtain⟨h,hb⟩:=h;have hb:=QA hb;obtain⟨kind,a,b,to,fS,name,ins,args,aH,cP⟩:=x;simp only[gf] at h hb;by_cases h1:kind=1
 .subst h1;simp only[Int.reduceEq,if_false,if_true] at hb;have J:aH=[]:=List.length_eq_zero_iff.1 hb.2.2.2.2.2.2.2;have C:cP= -1:=hb.2.2.2.2.2.1;subst J C;simp[dc,fK,nP,dp,cX,iw,aN]
 by_cases h2:kind=2
 .subst h2;simp only[Int.reduceEq,if_false,if_true] at hb;have J:aH=[]:=List.length_eq_zero_iff.1 hb.2.2.2.2.2.2.2;have C:cP= -1:=hb.2.2.2.2.2.1;subst J C;simp[dc,fK,nP,dp,cX,iw,aN]
 by_cases h3:kind=3
 .subst h3;simp only[Int.reduceEq,if_false,if_true] at hb;have J:aH=[]:=List.length_eq_zero_iff.1 hb.2.2.2.2.2.2.2;have C:cP= -1:=hb.2.2.2.2.2.1;subst J C;simp[dc,fK,nP,dp,cX,iw,aN]
 by_cases h4:kind=4
 .subst h4;simp only[Int.reduceEq,if_false,if_true] at hb;have J:aH=[]:=List.length_eq_zero_iff.1 hb.2.2.2.2.2.2.2;have C:cP= -1:=hb.2.2.2.2.2.1;subst J C;simp[dc,fK,nP,dp,cX,iw,aN]
 by_cases h5:kind=5
 .subst h5;by_cases C:0<=cP<;>simp[dc,fK,nP,dp,cX,iw,aN,C]
 by_cases U:kind=6
 .subst U;by_cases C:0<=cP<;>simp[dc,fK,nP,dp,cX,iw,aN,C]
 by_cases X:kind=7
 .subst X;simp only[Int.reduceEq,if_false,if_true] at hb;have J:aH=[]:=List.length_eq_zero_iff.1 hb.2.2.2.2.2.2.2;have C:cP= -1:=hb.2.2.2.2.2.1;subst J C;simp[dc,fK,nP,dp,cX,iw,aN]
 by_cases h8:kind=8
 .subst h8;by_cases C:0<=cP<;>simp[dc,fK,nP,dp,cX,iw,aN,C]
 by_cases h9:kind=9
 .subst h9;simp only[Int.reduceEq,if_false,if_true] at hb;have J:aH=[]:=List.length_eq_zero_iff.1 hb.2.2.2.2.2.2.2;have C:cP= -1:=hb.2.2.2.2.2.1;subst J C;simp[dc,fK,nP,dp,cX,iw,aN]
 .simp only[h1,h2,h3,h4,h5,U,X,h8,h9,if_false] at h;cases h
theorem XD{f:aA}(h:iV f=true):∀ x∈f.blocks,dc x.fin=cX x.fin:=by
 unfold iV at h;simp only[aO] at h;obtain⟨J,U,_,C,hR⟩:=h;intro x hx;obtain⟨k,hk⟩:=dt hx;have ap:k<f.blocks.length:=(bL.1 hk).1;have:=bJ.1 C k (by simpa using ap);rw[jG,getD_some hk] at this;simp only[aO,Bool.not_eq_true',decide_eq_false_iff_not] at this;exact FT this.1
def bg(f:aA):List (List Int):=f.blocks.map fun x=>nextR x.fin
theorem qX{f:aA}{k:Nat}{x:bB}(h:f.blocks[k]? =some x):bt (bg f) k=nextR x.fin:=by
 unfold bt bg;simp[bF,h]
theorem CC{f:aA}{k:Nat}(h:f.blocks.length<=k):bt (bg f) k=[]:=by
 unfold bt bg;rw[bF,List.getElem?_eq_none (by simpa using h)];rfl
def iG(f:aA)(a b c:D):List D:=[S f.name,B f.iter,I f.args,U8 f.result,kQ f.aj,kQ f.aW,q0 f.signals,fL f.blocks,a,b,c]
def jx(f:aA)(n k:Nat):List D:=(List.range n).map fun i=>if i<k then aB (bt (bg f) i) else .z
@[simp] theorem alj (f : aA) (n k : Nat) : (jx f n k).length = n := by simp [jx]
theorem aaz{f:aA}{n k:Nat}{x:D}(hk:k<n):(jx f n k).set k x=(List.range n).map fun i=>if i=k then x else if i<k then aB (bt (bg f) i) else .z:=by
 unfold jx;rw[IP];exact List.map_congr_left fun i _=>rfl
def vD(f:aA):List D:=cv f (bg f) (bX f.blocks) (b9 (cS (bt (bg f)) f.blocks.length (-1)))
end Go.Argus
namespace Go.Proofs.Tryz.K
set_option maxRecDepth 10000
theorem beh_in{f:aA}(h:jl f):∀ b,∀ t∈bt (bg f) b,0<=t/\t.toNat<f.blocks.length:=fun b t ht=>by
 cases hx:f.blocks[b]? with
 |none=>rw[CC (List.getElem?_eq_none_iff.1 hx)] at ht;simp at ht
 |some x=>
  rw[qX hx] at ht;have:=(h.ends x (cx hx)).to t (Cx.1 ht);omega
theorem Gk{f:aA}(h:jl f):∀ b,(bt (bg f) b).length<=100000:=fun b=>by
 cases hx:f.blocks[b]? with
 |none=>rw[CC (List.getElem?_eq_none_iff.1 hx)];simp
 |some x=>
  rw[qX hx];have:=wW x.fin;have:=(h.ends x (cx hx)).wh;omega
set_option maxHeartbeats 2000000 in
theorem Km{f:aA}(cW:dS f=0):PCall prog 51 [.agg (aD f)] (.tup [.pt (vD f),I 0]):=by
 have yE:=yE (f:=f);rw[cW] at yE
 have hf:iV f=true:=by
  unfold dS at cW;split at cW
  .assumption
  .cases cW
 have aY:=vC hf;have uS:=XD hf;obtain⟨n,hn⟩:∃ n,f.blocks.length=n:=⟨_,rfl⟩
 have mO:n<=1200:=hn▸aY.lC;have fJ:∀ b,∀ t∈bt (bg f) b,0<=t/\t.toNat<n:=hn▸beh_in aY;have du:=Gk aY;refine bc LM (.cons (.agg (fu f)) .nil) (.tup (.cons (.pt (IU (.sl (.map fun _=>.s _)))) (.cons (.s _) .nil))) ?_;rw[Vm];refine aw ?_;refine au ?_;refine ab (aI (bw [(0,aD f,26)] eH (l:=[(1,.pt (aD f))]) eH) (aC (ao ?_)));refine SS ?_;refine cl yE ?_;refine SS ?_;refine ab (aC (ao ?_));refine af ?_;refine ab (cH rfl (fun h=>oH) fun h=>b7 (ao ?_));refine aJ ?_;refine ab (oW aaA ?_);refine dk ?_;refine aF (na (v:=.rp _ _) rfl) ak trivial ?_;have dE:((f.blocks.length:Nat):Int).toNat=n:=hn;refine a8 bf (aI (aP (l:=[(1,.pt (aD f)),(6,.rp 3 0)]) (ml:=[(1,.cells (List.replicate n .z) 27),(2,.cells (List.replicate n .z) 27),(3,.cells (iG f (.rs 1 0 n) (.rs 2 0 n) .z) 89)]) eH ⟨?_,?_,?_,trivial⟩) (aC (aw ?_)))
 .exact congrArg (fun c=>some (Row.cells c 27)) ((congrArg (fun k=>replD k [D.z]) dE).trans (Gi n))
 .exact congrArg (fun c=>some (Row.cells c 27)) ((congrArg (fun k=>replD k [D.z]) dE).trans (Gi n))
 .exact congrArg (fun k=>some (Row.cells (iG f (.rs 1 0 k) (.rs 2 0 k) .z) 89)) dE
 refine aJ ?_
 have qD:jx f n 0=List.replicate n D.z:=by
  unfold jx;simp only[Nat.not_lt_zero,if_false];rw[List.map_const',List.length_range]
 refine ab (bV (fun s=>∃ m nx ρ,Ghost prog s ⟨az [(6,.rp 3 0)],m,nx⟩/\4<=nx/\m 1=some (.cells (jx f n n) 27)/\m 3=some (.cells (iG f (.rs 1 0 n) (.rs 2 0 n) .z) 89)/\gQ m nx 2 n 27 3 ρ (fun i=>(bN f.blocks n i).map I)/\(∀ i,i<n->(bN f.blocks n i).map I≠[]->ρ i≠1/\ρ i≠3)) (dM (α:=Nat×Mem×Nat)
  (fun k=>⟨az [(1,.pt (aD f)),(6,.rp 3 0),(28,fL f.blocks),(29,I n),(30,I k.1)],k.2.1,k.2.2⟩)
  (fun k=>k.1<=n/\4<=k.2.2/\k.2.1 1=some (.cells (jx f n k.1) 27)/\k.2.1 3=some (.cells (iG f (.rs 1 0 n) (.rs 2 0 n) .z) 89)/\(∃ ρ,gQ k.2.1 k.2.2 2 n 27 3 ρ (fun i=>(bN f.blocks k.1 i).map I)/\(∀ i,i<n->(bN f.blocks k.1 i).map I≠[]->ρ i≠1/\ρ i≠3))/\∀ i,(bN f.blocks k.1 i).length<=12*k.1) (fun k=>n - k.1)
  (0,bm [(1,.cells (List.replicate n .z) 27),(2,.cells (List.replicate n .z) 27),(3,.cells (iG f (.rs 1 0 n) (.rs 2 0 n) .z) 89)],4)
  (aq ⟨rfl,rfl,rfl,congrArg (fun k:Nat=>I k) hn,rfl,trivial⟩) ⟨Nat.zero_le _,bP _,by rw[qD];rfl,rfl,⟨fun _=>0,Jr (show 2<4 by decide) rfl,fun _ _ h=>absurd rfl h⟩,fun _=>bP _⟩ ?_) ?_)
 .rintro⟨k,m,nx⟩ ⟨hk,gh,U,m3,⟨ρ,C,J⟩,hlen⟩;dsimp only at hk gh U m3 C J hlen ⊢;refine SS ?_;refine ab ⟨_,rfl,fun h=>?_,fun h=>?_⟩
  .have ap:k<n:=by simpa using h
   have hx:f.blocks[k]? =some f.blocks[k]:=aG oG;have bM:f.blocks[k]∈f.blocks:=bO _;generalize f.blocks[k]=x at hx bM
   have cq:bN f.blocks (k+1)=(nextR x.fin).foldl (dz k) (bN f.blocks k):=by
    rw[bN,List.range_succ,List.foldl_append];show pX f.blocks _ k=_;rw[pX,hx];rfl
   have fT:=qX hx;have dF:=fJ k;have Cb:=(aY.ends x bM).wh;have hle:=yW x.fin;have B7:=uS x bM;have B2:=wW x.fin;have yv:nextR x.fin=kS (fN (dc x.fin)):=by rw[B7];rfl
   have wg:=wg (x:=x.fin) oG;rw[fT] at dF;generalize bN f.blocks k=L0 at C hlen J cq;refine ws ?_;refine bK ?_;refine er ?_;refine SS ?_;refine aF (dx (vs:=bd _) rfl (up_same _ _ _) V.h V.h rfl) ak (dy V.h V.h (by first|(simp;done)|omega|exact bA rfl)) ?_;refine Bm wg rfl dd ?_;refine SS ?_;generalize dc x.fin=d at hle yv wg;refine ab (aw ?_);refine SS ?_;refine kZ (wC (i:=nx+1) (l:=d) oG (up_same _ _ _) rfl oG) rfl dd fun r m' nx' hp=>?_;obtain⟨rfl,rfl,rfl⟩:=hp;have g':(fN d).length=d.length:=IN d;have cy:(kS (fN d)).length=(nextR x.fin).length:=by rw[yv]
   refine ab (aI (jd (l:=[(1,.pt (aD f)),(6,.rp 3 0),(7,I k),(9,.rs (nx+1) 0 d.length),(28,fL f.blocks),(29,I n),(30,I k)]) (m':=up (up m nx (some (.cells (c9 x) 72))) (nx+1) (some (.cells ((fN d).map I) 3))) eH (by rw[la,la])) (oW Zh ?_));have ay:up (up m nx (some (.cells (c9 x) 72))) (nx+1) (some (.cells ((fN d).map I) 3)) 3=some (.cells (iG f (.rs 1 0 n) (.rs 2 0 n) .z) 89):=ag oG (ag oG m3);have cQ:up (up m nx (some (.cells (c9 x) 72))) (nx+1) (some (.cells ((fN d).map I) 3)) 1=some (.cells (jx f n k) 27):=ag oG (ag oG U);have gy:up (up m nx (some (.cells (c9 x) 72))) (nx+1) (some (.cells ((fN d).map I) 3)) (nx+1)=some (.cells ((fN d).map I) 3):=up_same _ _ _;have Cg:=C.lt;have C:=C.ext (m':=up (up m nx (some (.cells (c9 x) 72))) (nx+1) (some (.cells ((fN d).map I) 3))) (nx':=nx+2) (fun q hq=>ag oG (ag oG rfl)) oG;generalize up (up m nx (some (.cells (c9 x) 72))) (nx+1) (some (.cells ((fN d).map I) 3))=M at ay cQ gy C;clear U m3;refine bK ?_;refine GW (r:=.rs (nx+1) 0 (kS (fN d)).length) (ups:=[(nx+1,some (.cells (vL (fN d) d.length) 3))]) (rds:=[nx+1]) (fun m2 gX mM=>?_) ?_ rfl dd ?_
   .have e:=mM (nx+1) oS (by rw[gy];simp);rw[gy] at e;refine F4 e BE.he fun mH=>(Eo mH e g' oG).mono ?_;rintro r m' nx' ⟨h1,h2,h3⟩;exact⟨h2,h3,h1⟩
   .intro i hi;simp at hi;subst hi;exact⟨oS,by rw[gy];simp⟩
   have lA:vL (fN d) d.length=(nextR x.fin).map I++List.replicate (d.length - (nextR x.fin).length) (I 0):=by rw[vL,yv]
   show AOps _ _ _ _ _ _ _ ⟨up _ 46 _,up M (nx+1) (some (.cells (vL (fN d) d.length) 3)),_⟩ _;rw[<- yv,lA]
   have dZ:(nextR x.fin).length<=d.length:=by
    rw[yv];have:(kS (fN d)).length<=(fN d).length:=JU _;omega
   clear lA cy yv gy;generalize nextR x.fin=l at dF B2 cq fT dZ;refine aF (kV rfl rfl (ag oG cQ) V.h V.h) ak ⟨V.h,oG⟩ ?_;refine cJ (iA (d:=.rs _ _ _) (cs':=_) rfl rfl (ag oG cQ) rfl rfl) ak (dQ V.h V.h (by first|(simp;done)|exact⟨rfl,bA rfl⟩|(simp;omega)) rfl) ?_;refine a8 (by simp[apartT];omega) ?_;have e1:(jx f n k).set k (.rs (nx+1) 0 l.length)=(List.range n).map fun i=>if i=k then .rs (nx+1) 0 l.length else if i<k then aB (bt (bg f) i) else .z:=aaz ap
   rw[e1];refine aI (OJ (i:=nx+1) (e:=3) (cs:=l.map I++List.replicate (d.length - l.length) (I 0)) (l:=[(1,.pt (aD f)),(6,.rp 3 0),(7,I k),(28,fL f.blocks),(29,I n),(30,I k)]) (ag oG (up_same _ _ _)) ⟨rfl,F5 oG,rfl,rfl,rfl,rfl,trivial⟩) (aw ?_)
   have N1:(fun j=>if j=nx+1 then none else(up (up M (nx+1) (some (.cells (l.map I++List.replicate (d.length - l.length) (I 0)) 3))) 1 (some (.cells ((List.range n).map fun i=>if i=k then .rs (nx+1) 0 l.length else if i<k then aB (bt (bg f) i) else .z) 27)) j).map (Row.sub (fz0 (nx+1) (l.map I++List.replicate (d.length - l.length) (I 0)) (prog.cellsOf 3)))) 1=some (.cells (jx f n (k+1)) 27):=by
    dsimp only;rw[if_neg oG,up_same];show some (Row.cells (List.map _ (List.map _ _)) 27)=_;rw[List.map_map,jx];refine congrArg (fun c=>some (Row.cells c 27)) (List.map_congr_left fun i _=>?_);simp only[Function.comp_apply];by_cases Wz:i=k
    .subst Wz;rw[if_pos rfl,if_pos oG,fT,c3,Bq];simp[aB]
    .rw[if_neg Wz];by_cases h2:i<k
     .rw[if_pos h2,if_pos oG];rfl
     .rw[if_neg h2,if_neg oG];rfl
   have N3:(fun j=>if j=nx+1 then none else(up (up M (nx+1) (some (.cells (l.map I++List.replicate (d.length - l.length) (I 0)) 3))) 1 (some (.cells ((List.range n).map fun i=>if i=k then .rs (nx+1) 0 l.length else if i<k then aB (bt (bg f) i) else .z) 27)) j).map (Row.sub (fz0 (nx+1) (l.map I++List.replicate (d.length - l.length) (I 0)) (prog.cellsOf 3)))) 3=some (.cells (iG f (.rs 1 0 n) (.rs 2 0 n) .z) 89):=by
    dsimp only;rw[if_neg oG,up_ne _ _ oG,up_ne _ _ oG,ay];refine congrArg some (j8.cells (X:=fun p=>p=nx+1) (fun d hd=>?_) _ _ _ rfl);simp only[iG,List.mem_cons,List.not_mem_nil,or_false] at hd;rcases hd with rfl|rfl|rfl|rfl|rfl|rfl|rfl|rfl|rfl|rfl|rfl
    .exact .s _
    .exact .s _
    .exact .s _
    .exact .s _
    .exact .sl _ _
    .exact .sl _ _
    .exact .sl _ _
    .exact .sl _ _
    .exact .rs oG
    .exact .rs oG
    .exact .z
   have NJ:gQ (fun j=>if j=nx+1 then none else(up (up M (nx+1) (some (.cells (l.map I++List.replicate (d.length - l.length) (I 0)) 3))) 1 (some (.cells ((List.range n).map fun i=>if i=k then .rs (nx+1) 0 l.length else if i<k then aB (bt (bg f) i) else .z) 27)) j).map (Row.sub (fz0 (nx+1) (l.map I++List.replicate (d.length - l.length) (I 0)) (prog.cellsOf 3)))) (nx+2) 2 n 27 3 ρ (fun i=>(L0 i).map I):=by
    refine gQ.fz ⟨?_,C.kJ,fun i hi hl=>?_,C.lt,C.ne,C.inj⟩ (fun _=>.map) oG fun i hi hl=>by have:=Cg i hi hl;omega
    .exact ag oG (ag oG C.row)
    .have:=Cg i hi hl;exact ag (J i hi hl).1 (ag oG (C.kA i hi hl))
   clear ay cQ C e1;generalize (fun j=>if j=nx+1 then none else(up (up M (nx+1) (some (.cells (l.map I++List.replicate (d.length - l.length) (I 0)) 3))) 1 (some (.cells ((List.range n).map fun i=>if i=k then .rs (nx+1) 0 l.length else if i<k then aB (bt (bg f) i) else .z) 27)) j).map (Row.sub (fz0 (nx+1) (l.map I++List.replicate (d.length - l.length) (I 0)) (prog.cellsOf 3))))=m at N1 N3 NJ ⊢;have ay:=N3;have cQ:=N1
   have kd:(jx f n (k+1)).drop k=aB l::(jx f n (k+1)).drop (k+1):=by
    rw[List.drop_eq_getElem_cons oP];congr 1;simp[jx,fT]
   refine aE ?_;have pL:l.length<=10:=by omega
   clear kd ay cQ hx Cb B7 hle B2 g' dZ wg
   refine ab (dM (α:=Nat×Mem×Nat)
    (fun j=>⟨az [(1,.pt (aD f)),(6,.rp 3 0),(7,I k),(28,fL f.blocks),(29,I n),(30,I k),(54,aB l),(55,I l.length),(56,I j.1)],j.2.1,j.2.2⟩)
    (fun j=>j.1<=l.length/\4<=j.2.2/\j.2.1 1=some (.cells (jx f n (k+1)) 27)/\j.2.1 3=some (.cells (iG f (.rs 1 0 n) (.rs 2 0 n) .z) 89)/\(∃ ρ,gQ j.2.1 j.2.2 2 n 27 3 ρ (fun i=>((l.take j.1).foldl (dz k) L0 i).map I)/\(∀ i,i<n->((l.take j.1).foldl (dz k) L0 i).map I≠[]->ρ i≠1/\ρ i≠3))/\∀ i,((l.take j.1).foldl (dz k) L0 i).length<=12*k+j.1) (fun j=>l.length - j.1) (0,m,nx+2)
    (aq eH) ⟨Nat.zero_le _,oM,N1,N3,⟨ρ,NJ,J⟩,hlen⟩ ?_)
   clear N1 N3 NJ hlen J Cg gh;rintro⟨j,m,nx⟩ ⟨hj,gh,U,m3,⟨ρ,C,J⟩,hlen⟩;dsimp only at hj gh U m3 C J hlen ⊢;have ay:=C.row;have cQ:=m3;have cF:=C.kJ;have ek:∀ t,l[j]? =some t->(l.take (j+1)).foldl (dz k) L0=dz k ((l.take j).foldl (dz k) L0) t:=fun t ht=>l7 ht;have pg:j=l.length->(l.take j).foldl (dz k) L0=bN f.blocks (k+1):=fun e=>by rw[cq,dn oG]
   generalize (l.take j).foldl (dz k) L0=L at C J hlen ay ek pg;refine SS ?_;refine ab ⟨_,rfl,fun h=>?_,fun h=>?_⟩
   .have xU:j<l.length:=by simpa using h
    have wD:l[j]? =some l[j]:=aG xU;have oU:=dF _ (bO xU);generalize l[j]=t at wD oU;obtain⟨i,rfl⟩:=cN oU.1;have bl:i<n:=oU.2;have hL:=hlen i;have ek:(l.take (j+1)).foldl (dz k) L0=up L i (L i++[(k:Int)]):=ek _ wD
    have sO:∀ i,((l.take (j+1)).foldl (dz k) L0 i).length<=12*k+(j+1):=fun a=>by
     rw[ek];exact FG (t:=(i:Int)) hlen a
    have yC:(fun a=>((l.take (j+1)).foldl (dz k) L0 a).map I)=up (fun a=>(L a).map I) i ((L i++[(k:Int)]).map I):=by rw[ek];exact Kl
    obtain⟨cs,kd⟩:=Jq (ρ:=ρ) (L:=fun i=>(L i).map I) bl
    have WA:∀ a,a<n->((l.take (j+1)).foldl (dz k) L0 a).map I≠[]->up ρ i (nx+1) a≠1/\up ρ i (nx+1) a≠3:=fun a ha aM=>by
     simp only[up];split
     .omega
     .rename_i yB;refine J a ha ?_;rw[ek,up_ne _ _ yB] at aM;exact aM
    refine ws ?_;refine au ?_;refine ab (kU Zi ?_);by_cases hz:L i=[]
    .have tB:jc (ρ i) ((L i).map I)=.z:=by rw[hz];rfl
     rw[tB] at kd;refine aE ?_;refine bI ?_;refine a8 (by simp[apartT];omega) ?_;refine af ?_;refine ab (aK (j+1,up (up (up m nx (some (.cells [I k] 3))) (nx+1) (some (.cells [I k] 3))) 2 (some (.cells ((om ρ (fun i=>(L i).map I) n).set i (.rs (nx+1) 0 1)) 27)),nx+2) (aq eH) ⟨oM,oM,?_,?_,⟨up ρ i (nx+1),?_,WA⟩,sO⟩ oM)
     .dsimp only;exact ag oG (ag oG (ag oG U))
     .dsimp only;exact ag oG (ag oG (ag oG m3))
     dsimp only;rw[yC];refine C.Cc bl oS oG oG ?_ ?_ (fun q hq qK _=>?_)
     .rw[hz];exact up_same _ _ _
     .rw[hz];exact ag oG (up_same _ _ _)
     .exact ag oG (ag oG (ag oG rfl))
    .have aM:(L i).map I≠[]:=by simpa using hz
     have tB:jc (ρ i) ((L i).map I)=.rs (ρ i) 0 (L i).length:=by rw[rD aM,List.length_map]
     rw[tB] at kd;have gy:=C.kA i bl aM;have Cg:=C.lt i bl aM;have hρ2:=C.ne i bl aM;obtain⟨Wp,hρ3⟩:=J i bl aM;refine aE ?_;refine aV ?_;refine rH (rq rfl (ag oG gy) rfl V.h V.h (pP (up_same _ _ _) rfl) rfl) ak ⟨V.h,rfl,(by first|omega|exact bA rfl|(simp;done)|(simp;omega)),oC,(by first|rfl|(simp;done)|(simp;omega)),(by unfold maxLen;first|omega|(simp;omega)),(by rw[b3];first|omega|(simp;omega)),(by first|(simp;done)|(simp;omega))⟩ ?_;refine af ?_;refine a8 (by simp[apartT];omega) ?_;refine af ?_;refine ab (aK (j+1,up (up (up (up m nx (some (.cells [I k] 3))) (ρ i) none) (nx+1) (some (.cells ((L i).map I++[I k]) 3))) 2 (some (.cells ((om ρ (fun i=>(L i).map I) n).set i (.rs (nx+1) 0 ((L i).length+1))) 27)),nx+2) (aq eH) ⟨oM,oM,?_,?_,⟨up ρ i (nx+1),?_,WA⟩,sO⟩ oM)
     .dsimp only;exact ag oG (ag oG (ag oG (ag oG U)))
     .dsimp only;exact ag oG (ag oG (ag oG (ag oG m3)))
     dsimp only;rw[yC];refine C.Cc bl oS oG oG ?_ ?_ (fun q hq qK oE=>?_)
     .rw[List.length_map,List.length_append];exact up_same _ _ _
     .rw[List.map_append];exact ag oG (up_same _ _ _)
     .have:=oE aM;exact ag oG (ag oG (ag oG (ag oG rfl)))
   .have bh:¬ j<l.length:=by simpa using h
    have vl:=pg oG;subst vl;show AOps _ _ _ _ _ _ _ _ _;refine af ?_;refine ab (aK (k+1,m,nx) (aq eH) ⟨oM,gh,U,m3,⟨ρ,C,J⟩,fun i=>by have:=hlen i;dsimp only at this ⊢;omega⟩ oM)
  .have bh:¬ k<n:=by simpa using h
   have:k=n:=by omega
   subst this;exact⟨m,nx,ρ,aq eH,gh,U,m3,C,J⟩
 .rintro s ⟨m,nx,ρ,hg,gh,U,m3,C,J⟩;have tz:¬ ∃ i,i<n/\(bN f.blocks n i).map I≠[]/\ρ i=2:=fun⟨i,h1,h2,h3⟩=>C.ne i h1 h2 h3;have WB:¬ ∃ i,i<n/\(bN f.blocks n i).map I≠[]/\ρ i=1:=fun⟨i,h1,h2,h3⟩=>(J i h1 h2).1 h3;have WC:¬ ∃ i,i<n/\(bN f.blocks n i).map I≠[]/\ρ i=3:=fun⟨i,h1,h2,h3⟩=>(J i h1 h2).2 h3;have zX:=hg.trans (IQ (l:=[(6,.rp 3 0)]) (ml:=[(1,.cells (jx f n n) 27),(3,.cells (iG f (.rs 1 0 n) (.rs 2 0 n) .z) 89)]) (fun r=>∃ i,i<n/\(bN f.blocks n i).map I≠[]/\ρ i=r) C (fun _=>.map) c3 (fun i h1 h2=>⟨i,h1,h2,rfl⟩) tz ⟨rfl,trivial⟩ (fun x hx=>by simp at hx;subst hx;exact .rp WC) ⟨U,m3,trivial⟩ (fun x hx=>?_))
  rotate_left
  .simp only[List.mem_cons,List.not_mem_nil,or_false] at hx;rcases hx with rfl|rfl
   .refine⟨j8.cells fun d hd=>?_,WB⟩;obtain⟨i,_,rfl⟩:=List.mem_map.1 hd;split
    .exact .sl _ _
    .exact .z
   .refine⟨j8.cells fun d hd=>?_,WC⟩;simp only[iG,List.mem_cons,List.not_mem_nil,or_false] at hd;rcases hd with rfl|rfl|rfl|rfl|rfl|rfl|rfl|rfl|rfl|rfl|rfl
    .exact .s _
    .exact .s _
    .exact .s _
    .exact .s _
    .exact .sl _ _
    .exact .sl _ _
    .exact .sl _ _
    .exact .sl _ _
    .exact .rs WB
    .exact .rs tz
    .exact .z
  have Fh:jx f n n=(bg f).map aB:=by
   unfold jx bg;refine List.ext_getElem (by simp[hn]) fun i h1 h2=>?_;have hi:i<n:=by simpa using h1
   simp only[List.getElem_map,List.getElem_range,hi,if_true];exact congrArg aB (qX (aG oG))
  have hg2:=zX.trans (m9 (i:=1) (e:=27) (cs:=jx f n n) (l:=[(6,.rp 3 0)]) (ml:=[(2,.cells ((List.range n).map fun i=>.sl ((bN f.blocks n i).map I) ((bN f.blocks n i).map I).length) 27),(3,.cells (iG f (bG (bg f)) (.rs 2 0 n) .z) 89)]) rfl eH ⟨?_,?_,trivial⟩)
  rotate_left
  .refine wY oG rfl (j8.cells (X:=fun p=>p=1) (fun d hd=>?_) _ _ _ rfl);obtain⟨i,_,rfl⟩:=List.mem_map.1 hd;exact .sl _ _
  .show some (Row.cells (List.map _ (iG f (.rs 1 0 n) (.rs 2 0 n) .z)) 89)=_
   have e1:sub (fz0 1 (jx f n n) (prog.cellsOf 27)) (.rs 1 0 n)=bG (bg f):=by
    rw[j0 (by rw[Ch];simp),Fh,bG,show(bg f).length=n by simp[bg,hn]]
   have e2:sub (fz0 1 (jx f n n) (prog.cellsOf 27)) (.rs 2 0 n)=.rs 2 0 n:=vo oG;simp only[iG,List.map_cons,List.map_nil,e1,e2];rfl
  have hg3:=hg2.trans (m9 (i:=2) (e:=27) (cs:=(List.range n).map fun i=>.sl ((bN f.blocks n i).map I) ((bN f.blocks n i).map I).length) (l:=[(6,.rp 3 0)]) (ml:=[(3,.cells (iG f (bG (bg f)) (bG (bX f.blocks)) .z) 89)]) rfl eH ⟨?_,trivial⟩)
  rotate_left
  .show some (Row.cells (List.map _ (iG f (bG (bg f)) (.rs 2 0 n) .z)) 89)=_
   have e1:sub (fz0 2 ((List.range n).map fun i=>.sl ((bN f.blocks n i).map I) ((bN f.blocks n i).map I).length) (prog.cellsOf 27)) (.rs 2 0 n)=bG (bX f.blocks):=by
    rw[j0 (by rw[Ch];simp),Js,bX,hn]
   simp only[iG,List.map_cons,List.map_nil,e1];rfl
  refine⟨_,hg3,aw ?_⟩;have Hn:=Hn (f:=f) (beh:=bg f) (ahd:=bX f.blocks) (c:=.z) (w:= -1) .z rfl (by simp[bg,hn]) hn (by have:=aY.pos;omega) oG fJ du;have vf:=vn (w:= -1) fJ (by have:=aY.pos;omega);have pM:vD f=cv f (bg f) (bX f.blocks) (b9 (cS (bt (bg f)) n (-1))):=by rw[vD,hn]
  rw[pM];generalize cS (bt (bg f)) n (-1)=R at Hn vf ⊢;refine af ?_;refine kZ (Xr (rds:=[3]) (args:=[.rp 3 0,I (-1)]) (args':=[.pt (cv f (bg f) (bX f.blocks) .z),I (-1)]) ⟨adr (cs:=cv f (bg f) (bX f.blocks) .z) rfl oS rfl (IU .z),cU (.s _),trivial⟩ Hn (fun d hd=>by obtain⟨x,_,rfl⟩:=List.mem_map.1 hd;rfl)) rfl dd fun d m' nx' hp=>?_;obtain⟨rfl,rfl,rfl⟩:=hp;have ay:up (bm [(3,.cells (iG f (bG (bg f)) (bG (bX f.blocks)) .z) 89)]) nx (some (.cells (R.map B) 4)) 3=some (.cells (iG f (bG (bg f)) (bG (bX f.blocks)) .z) 89):=ag oG rfl;refine af ?_;refine cJ (iA (d:=.rs _ _ _) (cs':=_) rfl rfl ay rfl rfl) ak (dQ V.h V.h (by first|(simp;done)|exact⟨rfl,bA rfl⟩|(simp;omega)) rfl) ?_;refine ab ?_
  have e0:(fun j=>if j=nx then none else(up (up (bm [(3,.cells (iG f (bG (bg f)) (bG (bX f.blocks)) .z) 89)]) nx (some (.cells (R.map B) 4))) 3 (some (.cells (iG f (bG (bg f)) (bG (bX f.blocks)) (.rs nx 0 n)) 89)) j).map (Row.sub (fz0 nx (R.map B) (prog.cellsOf 4)))) 3=some (.cells (iG f (bG (bg f)) (bG (bX f.blocks)) (b9 R)) 89):=by
   dsimp only;rw[if_neg oG,up_same];show some (Row.cells (List.map _ (iG f (bG (bg f)) (bG (bX f.blocks)) (.rs nx 0 n))) 89)=_
   have e1:sub (fz0 nx (R.map B) (prog.cellsOf 4)) (.rs nx 0 n)=b9 R:=by
    rw[j0 (by rw[c4];simp[vf]),b9,vf]
   simp only[iG,List.map_cons,List.map_nil,e1];rfl
  refine⟨_,(OJ (i:=nx) (e:=4) (cs:=R.map B) (l:=[(6,.rp 3 0)]) (ag oG (up_same _ _ _)) ⟨F5 oG,trivial⟩).trans (ni (i:=3) (l:=[(6,.pt (cv f (bg f) (bX f.blocks) (b9 R)))]) e0 ⟨lP,trivial⟩),ao ?_⟩;refine au ?_;exact ab (dN rfl rfl rfl)
end Go.Proofs.Tryz.K
end
namespace Go.Argus
open Go Go.Abs
def fO:List Int:=List.replicate 19 0
def c6(w:List Int)(l:List Int):List Int:=l.foldl (fun w r=>iX w r.toNat) w
def kD(s:List Int)(y:a7):List Int:=c6 (ia s (bT y)) (bU y)
structure LS where
 aX:List (List Int)
 out:List (List Int)
 ch:Bool
structure LG where
 beh:Nat->List Int
 blk:Nat->bB
 yI:Nat->Int->List Int
 yJ:Nat->Int->Int
def kn(g:LG)(aX:List (List Int))(b:Nat)(s:List Int)(c:Int):List Int:=p7 s (ia (c6 (aX.getD c.toNat []) (g.yI b c)) (g.yJ b c))
def ll(g:LG)(aX:List (List Int))(b:Nat):List Int:=c6 ((g.beh b).foldl (kn g aX b) fO) (bS (g.blk b).fin)
def rM(g:LG)(b:Nat)(s:List Int):List Int:=(g.blk b).ins.reverse.foldl kD s
def ic(g:LG)(s:LS)(b:Nat):LS:=
 if ll g s.aX b≠s.out.getD b []\/rM g b (ll g s.aX b)≠s.aX.getD b [] then⟨s.aX.set b (rM g b (ll g s.aX b)),s.out.set b (ll g s.aX b),true⟩ else s
def tS(g:LG)(l:List Int)(s:LS):LS:=l.foldl (fun s b=>ic g s b.toNat) ⟨s.aX,s.out,false⟩
def pR(g:LG)(l:List Int):Nat->LS->LS
 |0,s=>s
 |k+1,s=>if(tS g l s).ch=true then pR g l k (tS g l s) else tS g l s
def dv(w:List Int):Prop:=w.length=19/\dY w
theorem dv.with{w:List Int}(h:dv w)(m:Nat):dv (iX w m):=⟨by simp[h.1],h.2.with m⟩
theorem dv.zero:dv fO:=⟨by simp[fO],ZS 19⟩
theorem dv.ia{w:List Int}(h:dv w)(n:Int):dv (ia w n):=⟨by simp[h.1],h.2.ia n⟩
theorem dv.both{w v:List Int}(h:dv w):dv (p7 w v):=⟨by simp[h.1],dY.ki h.2 19⟩
theorem dv.c6{w:List Int}(h:dv w):∀ l:List Int,dv (c6 w l)
 |[]=>h
 |r::l=>dv.c6 (h.with r.toNat) l
def GC(l:List Int):Prop:=∀ r∈l,0<=r/\r<1216
theorem I6{w:List Int}(h:dv w){l:List Int}(hl:GC l)(r:Nat):bk (c6 w l) r=true↔bk w r=true\/(r:Int)∈l:=by
 induction l generalizing w with
 |nil=>simp[c6]
 |cons a l ih=>
  have ha:=hl a oS;have:c6 w (a::l)=c6 (iX w a.toNat) l:=rfl;rw[this,ih (h.with _) (fun r hr=>hl r (by simp[hr])),PY h.2 (by have:=h.1;omega)];simp only[Bool.or_eq_true,decide_eq_true_eq,List.mem_cons];have:r=a.toNat↔(r:Int)=a:=by omega
  rw[this];constructor
  .rintro((h|h)|h)
   .exact .inl h
   .exact .inr (.inl h)
   .exact .inr (.inr h)
  .rintro(h|h|h)
   .exact .inl (.inl h)
   .exact .inl (.inr h)
   .exact .inr h
def qn(r:Nat)(p:Prop):List a7->Prop
 |[]=>p
 |y::t=>(r:Int)∈bU y\/(bT y≠(r:Int)/\qn r p t)
structure Lb(y:a7):Prop where
 rd:GC (bU y)
 wr:bT y<1216
theorem dv.kD{s:List Int}(h:dv s)(y:a7):dv (kD s y):=(h.ia _).c6 _
theorem abb{s:List Int}(h:dv s){y:a7}(hy:Lb y)(r:Nat):bk (kD s y) r=true↔(r:Int)∈bU y\/(bT y≠(r:Int)/\bk s r=true):=by
 unfold kD;rw[I6 (h.ia _) hy.rd,O6 h.2 (by have:=h.1;have:=hy.wr;omega)];simp only[aO,Bool.not_eq_true',decide_eq_false_iff_not];constructor
 .rintro(⟨h1,h2⟩|h1)
  .exact .inr ⟨fun e=>h2 e.symm,h1⟩
  .exact .inl h1
 .rintro(h1|⟨h1,h2⟩)
  .exact .inr h1
  .exact .inl ⟨h2,fun e=>h1 e.symm⟩
theorem dv.CZ{s:List Int}(h:dv s):∀ l:List a7,dv (l.foldl Argus.kD s)
 |[]=>h
 |y::l=>dv.CZ (h.kD y) l
theorem NR{s:List Int}(h:dv s)(r:Nat):∀ (l:List a7),(∀ y∈l,Lb y)->(bk (l.reverse.foldl kD s) r=true↔qn r (bk s r=true) l)
 |[],_=>Iff.rfl
 |y::l,hl=>by
  rw[List.reverse_cons,List.foldl_append];show bk (kD (l.reverse.foldl kD s) y) r=true↔_;rw[abb (h.CZ _) (hl y oS),NR h r l fun y hy=>hl y (by simp[hy])];rfl
theorem AP{r:Nat}{p q:Prop}(h:p->q):∀ {l:List a7},qn r p l->qn r q l
 |[],hp=>h hp
 |y::l,hp=>by
  rcases hp with hp|⟨h1,h2⟩
  .exact .inl hp
  .exact .inr ⟨h1,AP h h2⟩
structure uI(g:LG)(n:Nat):Prop where
 beh:∀ b,∀ c∈g.beh b,0<=c/\c.toNat<n
 ins:∀ b,∀ y∈(g.blk b).ins,Lb y
 yI:∀ b,∀ c∈g.beh b,GC (g.yI b c)
 yJ:∀ b,∀ c∈g.beh b,g.yJ b c<1216
 WG:∀ b,GC (bS (g.blk b).fin)
def Bu(g:LG)(p:Nat->Prop)(b:Nat)(r:Nat)(c:Int):Prop:=g.yJ b c≠(r:Int)/\((r:Int)∈g.yI b c\/p c.toNat)
def qo(g:LG)(p:Nat->Prop)(b:Nat)(r:Nat):Prop:=(r:Int)∈bS (g.blk b).fin\/∃ c∈g.beh b,Bu g p b r c
def qp(g:LG)(p:Nat->Prop)(b:Nat)(r:Nat):Prop:=qn r (qo g p b r) (g.blk b).ins
structure ajj(n:Nat)(s:LS):Prop where
 ln:s.aX.length=n
 lo:s.out.length=n
 aX:∀ w∈s.aX,dv w
 out:∀ w∈s.out,dv w
section
variable{g:LG}{n:Nat}
theorem Ks{l:List (List Int)}(hl:∀ w∈l,dv w){k:Nat}(hk:k<l.length):dv (l.getD k []):=by
 rw[bF,aG hk];exact hl _ (bO hk)
theorem abc(hg:uI g n){aX:List (List Int)}(hi:aX.length=n)(X:∀ w∈aX,dv w){b:Nat}(r:Nat){c:Int}(hc:c∈g.beh b){s:List Int}(C:dv s):
 bk (kn g aX b s c) r=true↔bk s r=true\/Bu g (fun c=>bk (aX.getD c []) r=true) b r c:=by
 have eK:=hg.beh b c hc;have J:=Ks X (show c.toNat<aX.length by omega);have h1:=J.c6 (g.yI b c);have h2:=h1.ia (g.yJ b c);have ap:=hg.yJ b c hc;have U:=hg.yI b c hc;have cG:=h1.1;unfold kn Bu;rw[aa6 C.2 h2.2 C.1 h2.1,Bool.or_eq_true,O6 h1.2 oG];simp only[aO,Bool.not_eq_true',decide_eq_false_iff_not];rw[I6 J U];constructor
 .rintro(h|⟨h1,h2⟩)
  .exact .inl h
  .exact .inr ⟨fun e=>h2 e.symm,h1.symm⟩
 .rintro(h|⟨h1,h2⟩)
  .exact .inl h
  .exact .inr ⟨h2.symm,fun e=>h1 e.symm⟩
theorem J3(hg:uI g n){aX:List (List Int)}(hi:aX.length=n)(U:∀ w∈aX,dv w){b:Nat}(r:Nat)(l:List Int)(hl:∀ c∈l,c∈g.beh b):∀ s,dv s->
 dv (l.foldl (kn g aX b) s)/\(bk (l.foldl (kn g aX b) s) r=true↔bk s r=true\/∃ c∈l,Bu g (fun c=>bk (aX.getD c []) r=true) b r c):=by
 induction l with
 |nil=>exact fun s C=>⟨C,oS⟩
 |cons c l ih=>
  intro s C;have hc:=hl c oS;have J:dv (kn g aX b s c):=C.both;have he:=abc hg hi U r hc C;rw[List.foldl_cons];generalize kn g aX b s c=s1 at J he;obtain⟨a1,a2⟩:=ih (fun c h=>hl c (by simp[h])) s1 J;refine⟨a1,?_⟩;rw[a2,he];constructor
  .rintro((h|h)|⟨d,h1,h2⟩)
   .exact .inl h
   .exact .inr ⟨c,oS,h⟩
   .exact .inr ⟨d,by simp[h1],h2⟩
  .rintro(h|⟨d,h1,h2⟩)
   .exact .inl (.inl h)
   .rcases List.mem_cons.1 h1 with e|e
    .exact .inl (.inr (e▸h2))
    .exact .inr ⟨d,e,h2⟩
theorem J9(hg:uI g n){aX:List (List Int)}(hi:aX.length=n)(C:∀ w∈aX,dv w)(b r:Nat):
 dv (ll g aX b)/\(bk (ll g aX b) r=true↔qo g (fun c=>bk (aX.getD c []) r=true) b r):=by
 obtain⟨h1,h2⟩:=J3 hg hi C (b:=b) r (g.beh b) (fun _ h=>h) fO dv.zero;refine⟨h1.c6 _,?_⟩;unfold ll qo;rw[I6 h1 (hg.WG b),h2];have:bk fO r=false:=JE 19 r;rw[this];simp[or_comm]
theorem ace(hg:uI g n){s:List Int}(C:dv s)(b r:Nat):dv (rM g b s)/\(bk (rM g b s) r=true↔qn r (bk s r=true) (g.blk b).ins):=
 ⟨C.CZ _,NR C r _ (hg.ins b)⟩
theorem Qi(hg:uI g n){aX:List (List Int)}(hi:aX.length=n)(C:∀ w∈aX,dv w)(b r:Nat):
 dv (rM g b (ll g aX b))/\(bk (rM g b (ll g aX b)) r=true↔qp g (fun c=>bk (aX.getD c []) r=true) b r):=by
 obtain⟨h1,h2⟩:=J9 hg hi C b r;obtain⟨h3,h4⟩:=ace hg h1 b r;refine⟨h3,?_⟩;rw[h4];unfold qp;exact⟨AP h2.1,AP h2.2⟩
theorem AQ{p q:Nat->Prop}(h:∀ c,p c->q c){b r:Nat}:qo g p b r->qo g q b r:=by
 rintro(h1|⟨c,h1,h2,h3⟩)
 .exact .inl h1
 .exact .inr ⟨c,h1,h2,h3.imp_right (h _)⟩
theorem CH{p q:Nat->Prop}(h:∀ c,p c->q c){b r:Nat}:qp g p b r->qp g q b r:=AP (AQ h)
end
end Go.Argus
namespace Go.Argus
def sV(w:List Int):Nat:=(List.range 1216).countP fun r=> !bk w r
theorem OT{p q:Nat->Bool}{l:List Nat}(h:∀ x,q x=true->p x=true){x:Nat}(hx:x∈l)(hp:p x=true)(hq:q x=false):l.countP q<l.countP p:=by
 induction l with
 |nil=>simp at hx
 |cons a l ih=>
  simp only[List.countP_cons];have J:l.countP q<=l.countP p:=List.countP_mono_left fun y _ hy=>h y hy;rcases List.mem_cons.1 hx with e|e
  .subst e;simp[hp,hq];omega
  .have:=ih e;cases C:q a with
   |false=>simp;omega
   |true=>simp[h a C];omega
theorem Qj{w v:List Int}(h:∀ r,bk w r=true->bk v r=true):sV v<=sV w:=List.countP_mono_left fun r _ hr=>by
 cases C:bk w r with
 |false=>rfl
 |true=>rw[h r C] at hr;cases hr
theorem Qk{w v:List Int}(U:dv w)(hv:dv v)(h:∀ r,bk w r=true->bk v r=true)(X:w≠v):sV v<sV w:=by
 have:∃ r,bk w r≠bk v r:=by
  apply Classical.byContradiction;intro hc;refine X (I3 U.2 hv.2 (by rw[U.1,hv.1]) fun r=>?_);apply Classical.byContradiction;exact fun hr=>hc ⟨r,hr⟩
 obtain⟨r,hr⟩:=this
 have J:bk w r=false:=by
  cases e:bk w r with
  |false=>rfl
  |true=>rw[h r e] at hr;exact absurd e hr
 have C:bk v r=true:=by
  cases e:bk v r with
  |true=>rfl
  |false=>rw[J,e] at hr;exact absurd rfl hr
 have ap:r<1216:=by
  apply Classical.byContradiction;intro hc
  have:bk v r=false:=by
   unfold bk;rw[bF,List.getElem?_eq_none (by rw[hv.1];omega)];simp
  rw[this] at C;cases C
 refine OT (p:=fun r=> !bk w r) (q:=fun r=> !bk v r) (fun x hx=>?_) (x:=r) (by simpa using ap) (by simp[J]) (by simp[C]);cases e:bk w x with
 |false=>rfl
 |true=>rw[h x e] at hx;cases hx
def Ed(l:List (List Int)):Nat:=(l.map sV).sum
theorem Pc{l:List (List Int)}{k:Nat}{w v:List Int}(h:l[k]? =some w):Ed (l.set k v)+sV w=Ed l+sV v:=by
 unfold Ed;rw[List.map_set];exact JX (by simp[h])
def tD(s:LS):Nat:=Ed s.aX+Ed s.out
def wH(s:LS):Nat:=tD s+if s.ch=true then 1 else 0
def AD(s:LS)(r:Nat)(c:Nat):Prop:=bk (s.aX.getD c []) r=true
structure pD(g:LG)(n:Nat)(ord:List Int)(s:LS):Prop where
 ok:ajj n s
 mi:∀ b r,bk (s.aX.getD b []) r=true->qp g (AD s r) b r
 mo:∀ b r,bk (s.out.getD b []) r=true->qo g (AD s r) b r
 si:∀ b r,bk (s.aX.getD b []) r=true->(b:Int)∈ord
 so:∀ b r,bk (s.out.getD b []) r=true->(b:Int)∈ord
 snd:∀ (r:Nat) (Q:Nat->Prop),(∀ b,qp g Q b r->Q b)->∀ b,bk (s.aX.getD b []) r=true->Q b
theorem AY{l:List (List Int)}{b:Nat}(hb:b<l.length)(v:List Int)(c:Nat):(l.set b v).getD c []=if c=b then v else l.getD c []:=by
 simp only[bF,List.getElem?_set];by_cases h:b=c
 .subst h;simp[hb]
 .rw[if_neg h,if_neg fun e=>h e.symm]
section
variable{g:LG}{n:Nat}{ord:List Int}
theorem PF(hg:uI g n){s:LS}(h:pD g n ord s){b:Nat}(hb:b<n)(yK:(b:Int)∈ord):pD g n ord (ic g s b)/\wH (ic g s b)<=wH s:=by
 have U:=fun r=>J9 hg h.ok.ln h.ok.aX b r;have C:=fun r=>Qi hg h.ok.ln h.ok.aX b r;have J:b<s.aX.length:=by rw[h.ok.ln];exact hb
 have X:b<s.out.length:=by rw[h.ok.lo];exact hb
 have qz:=Ks h.ok.aX J;have hwo:=Ks h.ok.out X;have gi:s.aX[b]? =some (s.aX.getD b []):=by rw[bF,aG J];rfl
 have go:s.out[b]? =some (s.out.getD b []):=by rw[bF,aG X];rfl
 unfold ic;generalize hOe:ll g s.aX b=O at U C;generalize hTe:rM g b O=T at C;split
 .rename_i hc;have Az:∀ r,bk (s.out.getD b []) r=true->bk O r=true:=fun r hr=>(U r).2.2 (h.mo b r hr);have vg:∀ r,bk (s.aX.getD b []) r=true->bk T r=true:=fun r hr=>(C r).2.2 (h.mi b r hr)
  have BA:∀ r c,AD s r c->AD ⟨s.aX.set b T,s.out.set b O,true⟩ r c:=fun r c hr=>by
   unfold AD at hr ⊢;simp only;rw[AY J];split
   .rename_i e;subst e;exact vg r hr
   .exact hr
  refine⟨⟨⟨by simp[h.ok.ln],by simp[h.ok.lo],fun w hw=>?_,fun w hw=>?_⟩,fun c r hr=>?_,fun c r hr=>?_,fun c r hr=>?_,fun c r hr=>?_,fun r Q hQ c hr=>?_⟩,?_⟩
  .rcases List.mem_or_eq_of_mem_set hw with e|e
   .exact h.ok.aX w e
   .subst e;exact(C 0).1
  .rcases List.mem_or_eq_of_mem_set hw with e|e
   .exact h.ok.out w e
   .subst e;exact(U 0).1
  .simp only at hr;rw[AY J] at hr;split at hr
   .rename_i e;subst e;exact CH (BA r) ((C r).2.1 hr)
   .exact CH (BA r) (h.mi c r hr)
  .simp only at hr;rw[AY X] at hr;split at hr
   .rename_i e;subst e;exact AQ (BA r) ((U r).2.1 hr)
   .exact AQ (BA r) (h.mo c r hr)
  .simp only at hr;rw[AY J] at hr;split at hr
   .rename_i e;subst e;exact yK
   .exact h.si c r hr
  .simp only at hr;rw[AY X] at hr;split at hr
   .rename_i e;subst e;exact yK
   .exact h.so c r hr
  .simp only at hr;rw[AY J] at hr;split at hr
   .rename_i e;subst e;exact hQ _ (CH (fun d hd=>h.snd r Q hQ d hd) ((C r).2.1 hr))
   .exact h.snd r Q hQ c hr
  .unfold wH tD;simp only;have e1:=Pc (v:=T) gi;have e2:=Pc (v:=O) go;have l1:=Qj Az;have l2:=Qj vg
   have:sV O<sV (s.out.getD b [])\/sV T<sV (s.aX.getD b []):=by
    rcases hc with hc|hc
    .exact .inl (Qk hwo (U 0).1 Az fun e=>hc e.symm)
    .exact .inr (Qk qz (C 0).1 vg fun e=>hc e.symm)
   split<;>omega
 .exact⟨h,bP _⟩
theorem abd{s:LS}{b:Nat}(h:s.ch=true):(ic g s b).ch=true:=by
 unfold ic;split
 .rfl
 .exact h
theorem Rt:∀ {l:List Int} {s:LS},s.ch=true->(l.foldl (fun s b=>ic g s b.toNat) s).ch=true
 |[],_,h=>h
 |b::l,s,h=>by rw[List.foldl_cons];exact Rt (abd h)
theorem Ql:∀ {l:List Int} {s:LS},(l.foldl (fun s b=>ic g s b.toNat) s).ch=false->l.foldl (fun s b=>ic g s b.toNat) s=s/\∀ b∈l,ll g s.aX b.toNat=s.out.getD b.toNat []/\rM g b.toNat (ll g s.aX b.toNat)=s.aX.getD b.toNat []
 |[],_,_=>⟨rfl,oS⟩
 |b::l,s,h=>by
  rw[List.foldl_cons] at h ⊢;by_cases hc:ll g s.aX b.toNat≠s.out.getD b.toNat []\/rM g b.toNat (ll g s.aX b.toNat)≠s.aX.getD b.toNat []
  .have:(ic g s b.toNat).ch=true:=by unfold ic;rw[if_pos hc]
   rw[Rt this] at h;cases h
  .have e:ic g s b.toNat=s:=by unfold ic;rw[if_neg hc]
   rw[e] at h ⊢;obtain⟨h1,h2⟩:=Ql h;refine⟨h1,fun c C=>?_⟩;rcases List.mem_cons.1 C with e|e
   .subst e;exact⟨Classical.byContradiction fun e=>hc (.inl e),Classical.byContradiction fun e=>hc (.inr e)⟩
   .exact h2 c e
theorem QE(hg:uI g n)(C:∀ b∈ord,0<=b/\b.toNat<n){s:LS}(h:pD g n ord s):pD g n ord (tS g ord s)/\wH (tS g ord s)<=tD s:=by
 have h0:pD g n ord ⟨s.aX,s.out,false⟩:=⟨⟨h.ok.ln,h.ok.lo,h.ok.aX,h.ok.out⟩,h.mi,h.mo,h.si,h.so,h.snd⟩
 have:=AO (J:=pD g n ord) (φ:=wH) (f:=fun s b=>ic g s b.toNat) (l:=ord) (fun b hb s U=>PF hg U (C b hb).2 (by have:=(C b hb).1;rwa[Int.toNat_of_nonneg this])) (s:=⟨s.aX,s.out,false⟩) h0;exact⟨this.1,this.2⟩
theorem Ru(hg:uI g n)(C:∀ b∈ord,0<=b/\b.toNat<n):∀ (k:Nat) {s:LS},pD g n ord s->tD s<k->pD g n ord (pR g ord k s)/\
 ∀ b∈ord,ll g (pR g ord k s).aX b.toNat=(pR g ord k s).out.getD b.toNat []/\rM g b.toNat (ll g (pR g ord k s).aX b.toNat)=(pR g ord k s).aX.getD b.toNat []
 |0,s,_,hk=>by omega
 |k+1,s,h,hk=>by
  obtain⟨h1,h2⟩:=QE hg C h;rw[pR];split
  .rename_i hc;refine Ru hg C k h1 ?_;unfold wH at h2;rw[if_pos hc] at h2;omega
  .rename_i hc;have hc:(tS g ord s).ch=false:=by simpa using hc
   refine⟨h1,?_⟩;obtain⟨e1,e2⟩:=Ql (g:=g) hc;have e1:tS g ord s=⟨s.aX,s.out,false⟩:=e1;rw[e1];exact e2
def qY(n:Nat):LS:=⟨List.replicate n fO,List.replicate n fO,true⟩
theorem ZU(n b r:Nat):bk ((List.replicate n fO).getD b []) r=false:=by
 rw[bF,List.getElem?_replicate];split
 .exact JE 19 r
 .simp[bk]
theorem QD(n:Nat):pD g n ord (qY n):=by
 have C:∀ b r,¬ bk ((List.replicate n fO).getD b []) r=true:=fun b r h=>by rw[ZU] at h;cases h
 exact⟨⟨by simp[qY],by simp[qY],fun w J=>by rw[List.eq_of_mem_replicate J];exact .zero,fun w J=>by rw[List.eq_of_mem_replicate J];exact .zero⟩,
  fun b r h=>absurd h (C b r),fun b r h=>absurd h (C b r),fun b r h=>absurd h (C b r),fun b r h=>absurd h (C b r),fun r Q _ b h=>absurd h (C b r)⟩
def lQ(g:LG)(n:Nat)(ord:List Int):LS:=pR g ord (tD (qY n)+1) (qY n)
theorem IY(hg:uI g n)(C:∀ b∈ord,0<=b/\b.toNat<n):pD g n ord (lQ g n ord)/\
 (∀ (b:Nat) r,(b:Int)∈ord->(bk ((lQ g n ord).aX.getD b []) r=true↔qp g (AD (lQ g n ord) r) b r))/\(∀ (b:Nat) r,(b:Int)∈ord->(bk ((lQ g n ord).out.getD b []) r=true↔qo g (AD (lQ g n ord) r) b r)):=by
 obtain⟨h1,h2⟩:=Ru hg C (tD (qY n)+1) (QD n) (Nat.lt_succ_self _);unfold lQ;generalize pR g ord (tD (qY n)+1) (qY n)=R at h1 h2;refine⟨h1,fun b r hb=>?_,fun b r hb=>?_⟩
 .obtain⟨e1,e2⟩:=h2 b hb;simp only[bx] at e1 e2;rw[<- e2];exact(Qi hg h1.ok.ln h1.ok.aX b r).2
 .obtain⟨e1,e2⟩:=h2 b hb;simp only[bx] at e1 e2;rw[<- e1];exact(J9 hg h1.ok.ln h1.ok.aX b r).2
end
end Go.Argus
section
open Go Go.Abs Go.Proofs Go.Argus
namespace Go.Argus
def eN(f:aA)(c:Nat):List Int:=bN f.blocks f.blocks.length c
def bu(f:aA)(b:Nat):bB:=f.blocks.getD b jM
def cB(f:aA):LG:=⟨bt (bg f),bu f,fun b c=>jn (eN f c.toNat) b (bu f c.toNat),fun b c=>gR (bu f b).fin c⟩
theorem iU{f:aA}{b:Nat}{x:bB}(h:f.blocks[b]? =some x):bu f b=x:=getD_some h
theorem OK{f:aA}{b:Nat}(h:f.blocks.length<=b):bu f b=jM:=by
 unfold bu;rw[bF,List.getElem?_eq_none h];rfl
theorem R6{α:Type}{p:α->Bool}{y:α}:∀ {l:List α},y∈l.takeWhile p->p y=true
 |[],h=>by simp at h
 |a::l,h=>by
  rw[List.takeWhile_cons] at h;split at h
  .rename_i ha;rcases List.mem_cons.1 h with e|e
   .subst e;exact ha
   .exact R6 e
  .simp at h
theorem aaB{x:bB}{y:a7}(h:y∈cg x):y.op=19:=by simpa[bC] using R6 h
theorem Zj{x:bB}{y:a7}(h:y∈cg x):y∈x.ins:=(List.takeWhile_prefix bC).subset h
theorem jl.xQ{f:aA}(h:jl f){b:Nat}{x:bB}(hx:f.blocks[b]? =some x){y:a7}(hy:y∈cg x):y.args.length=(eN f b).length/\∀ r∈y.args,0<=r/\r<1200:=by
 obtain⟨j,hj⟩:=dt (Zj hy);obtain⟨h1,_,_,_,h2⟩:=(FE h.aj h.aW.1 h.aW.2 (h.right b x hx j y hj)).2 (aaB hy);refine⟨by unfold eN;omega,fun r hr=>?_⟩;have:=(h2 r hr).2;unfold iY at this;have:=h.aj;omega
def gI(f:aA):List Int:=(ug (bt (bg f)) f.blocks.length).reverse
theorem IF{w:List Int}{l:List Int}{j:Nat}{r:Int}(h:l[j]? =some r):c6 w (l.take (j+1))=iX (c6 w (l.take j)) r.toNat:=by
 unfold c6;exact l7 (f:=fun w (r:Int)=>iX w r.toNat) h
def cm(l:List (Int×Int)):List (Value×D):=l.map fun p=>(.int .i64 p.1,I p.2)
def hC(a:Int):List (Int×Int)->Option Int
 |[]=>none
 |(k,v)::t=>if k=a then some v else hC a t
theorem Gl(a:Int):∀ l:List (Int×Int),(lookD (.int .i64 a) (cm l)).map (·.2)=(hC a l).map I
 |[]=>rfl
 |(b,v)::l=>by
  have ih:=Gl a l;unfold cm at ih ⊢;simp only[List.map_cons,lookD,veq,veq1,beq_self_eq_true,Bool.true_and,hC] at ih ⊢;by_cases h:b=a
  .subst h;simp
  .have hb:(b==a)=false:=by simpa using h
   simp only[hb,Bool.false_eq_true,if_false,Option.map_map,h];exact ih
theorem acP{P:Program}{t:TypeId}(C:zeroD P (melP P t)=I 0)(a:Int)(l:List (Int×Int)):gotD P t false (lookD (.int .i64 a) (cm l))=I ((hC a l).getD 0):=by
 have h:=Gl a l;cases h1:lookD (.int .i64 a) (cm l) with
 |none=>
  rw[h1] at h;cases h2:hC a l with
  |some x=>rw[h2] at h;simp at h
  |none=>simp[gotD,C]
 |some x=>
  rw[h1] at h;cases h2:hC a l with
  |none=>rw[h2] at h;simp at h
  |some y=>rw[h2] at h;simp at h;simp[gotD,h]
theorem abP{P:Program}{t:TypeId}(C:zeroD P (melP P t)=I 0)(a:Int)(l:List (Int×Int)):gotD P t true (lookD (.int .i64 a) (cm l))=.tup [I ((hC a l).getD 0),B (hC a l).isSome]:=by
 have h:=Gl a l;cases h1:lookD (.int .i64 a) (cm l) with
 |none=>
  rw[h1] at h;cases h2:hC a l with
  |some x=>rw[h2] at h;simp at h
  |none=>simp[gotD,C]
 |some x=>
  rw[h1] at h;cases h2:hC a l with
  |none=>rw[h2] at h;simp at h
  |some y=>rw[h2] at h;simp at h;simp[gotD,h]
theorem R7{a v:Int}{l:List (Int×Int)}(h:hC a l=none):putD (.int .i64 a) (I v) (cm l)=cm (l++[(a,v)]):=by
 have h1:=Gl a l;rw[h] at h1;unfold putD;cases h2:lookD (.int .i64 a) (cm l) with
 |none=>simp[cm]
 |some x=>rw[h2] at h1;simp at h1
theorem J4{P:Program}{kt:TypeId}(hk:P.underlying kt=some (.int .i64))(l:List (Int×Int)):(cm l).all (fun e=>keyP P kt e.1)=true:=by
 refine bJ.2 fun x hx=>?_;obtain⟨y,_,rfl⟩:=List.mem_map.1 hx;simp[keyP,hk]
inductive vE(l:List (Int×Int)):Int->List Int->Prop
 |nil:vE l (-1) []
 |cons {b a:Int} {p:List Int}:b≠ -1->hC b l=some a->vE l a p->vE l b (b::p)
end Go.Argus
namespace Go.Proofs.Tryz.K
set_option maxRecDepth 10000
theorem lg_ok{f:aA}(h:jl f):uI (cB f) f.blocks.length:=by
 have U:∀ b,∀ y∈(bu f b).ins,p6 y:=fun b y hy=>by
  cases hx:f.blocks[b]? with
  |none=>rw[OK (List.getElem?_eq_none_iff.1 hx)] at hy;simp[jM] at hy
  |some x=>rw[iU hx] at hy;exact(h.blk x (cx hx)).ins y hy
 have C:∀ b,b<f.blocks.length->Bp (bu f b).fin:=fun b hb=>by
  rw[iU (aG hb)];exact(h.ends _ (bO hb)).fin
 refine⟨beh_in h,fun b y hy=>?_,fun b c hc=>?_,fun b c hc=>?_,fun b=>?_⟩
 .have:=U b y hy;exact⟨fun r hr=>by have:=this.rd r hr;omega,by have:=this.wr;omega⟩
 .have J:=beh_in h b c hc;have hx:=aG J.2;intro r hr;obtain⟨y,hy,rfl⟩:=List.mem_map.1 hr;rw[iU hx] at hy;obtain⟨e1,e2⟩:=h.xQ hx hy;rw[bF];cases e:y.args[(jO (fun z=>(b:Int)==z) (eN f c.toNat)).toNat]? with
  |none=>simp
  |some v=>
   have:=e2 v (cx e);simp only[Option.getD_some];omega
 .show gR _ _<1216
  have hb:b<f.blocks.length:=by
   rcases Nat.lt_or_ge b f.blocks.length with g|g
   .exact g
   .have hc:c∈bt (bg f) b:=hc;rw[CC g] at hc;simp at hc
  have:=(C b hb).wr;show gR (bu f b).fin c<1216;unfold gR;split<;>omega
 .intro r hr;have hr:r∈bS (bu f b).fin:=hr;rcases Nat.lt_or_ge b f.blocks.length with g|g
  .have:=(C b g).rd r hr;omega
  .rw[OK g] at hr;simp[jM,bS,aN] at hr
theorem ord_in{f:aA}(h:jl f):∀ b∈gI f,0<=b/\b.toNat<f.blocks.length:=fun b hb=>by
 have C:=h.pos;have hb:=(OL (beh_in h) C).1 (List.mem_reverse.1 hb);refine⟨hb.1,?_⟩;have hl:=vn (w:= -1) (beh_in h) C;rcases Nat.lt_or_ge b.toNat f.blocks.length with g|g
 .exact g
 .rw[bF,List.getElem?_eq_none oG] at hb;simp at hb
theorem abO{f:aA}(h:jl f):(gI f).length<=1200:=by
 have J:=h.pos;have C:(List.replicate f.blocks.length false).getD 0 false=false:=by rw[bF,List.getElem?_replicate];split<;>rfl
 have:=(J2 (w:= -1) (beh_in h) f.blocks.length).1 (List.replicate f.blocks.length false,[]) 0 oS J C;have hl:=h.lC;unfold gI ug;simp at this ⊢;omega
end Go.Proofs.Tryz.K
namespace Go.Abs
theorem GX{i j sz:Nat}{C cs:List D}{e:TypeId}{m:Mem}(J:j≠i)(hm:m j=some (.cells cs e))(h:pC cs):(if j=i then none else(m j).map (Row.sub (fz0 i C sz)))=some (.cells cs e):=
 wY J hm (j8.Ep (X:=fun p=>p=i) h i C sz rfl)
end Go.Abs
namespace Go.Proofs.Tryz.K
set_option maxRecDepth 10000
set_option maxHeartbeats 1000000 in
theorem Cl{f:aA}{n:Nat}(h:jl f)(hn:f.blocks.length=n){c:D}(hc:Tr c)(eQ:c.one=true):PCall prog 65 [.pt (cv f (bg f) (bX f.blocks) c)] (.tup [.sl (bD (lQ (cB f) n (gI f)).aX) n,.sl (bD (lQ (cB f) n (gI f)).out) n]):=by
 have rR:=h;have fJ:=beh_in h;have du:=Gk h;have ik:=h.pos;have mO:n<=1200:=hn▸h.lC;have r9:=lg_ok h;have lV:=ord_in h;have jy:=abO h;rw[hn] at fJ ik r9 lV;have Fg:=Fg (f:=f) (beh:=bg f) (ahd:=bX f.blocks) hc eQ (n:=n) (by simp[bg,hn]) hn ik oG fJ du;have Br:gI f=(ug (bt (bg f)) n).reverse:=by rw[gI,hn]
 refine bc Vn (.cons (tR hc) .nil) (.tup (.cons (.sl (Kk _)) (.cons (.sl (Kk _)) .nil))) ?_;rw[aib];refine ws ?_;refine af ?_;refine er ?_;refine dk ?_;refine ab (oW aaC ?_);refine SS ?_;refine fP (AS rfl rfl V.h V.h) ak ⟨oG,rfl,oG,by rw[LN];omega,V.h⟩ ?_;refine SS ?_;refine fP (AS rfl rfl V.h V.h) ak ⟨oG,rfl,oG,by rw[LN];omega,V.h⟩ ?_;refine af ?_;have dE:((f.blocks.length:Nat):Int).toNat=n:=hn;refine a8 bf (aI (aP (l:=[(0,.pt (cv f (bg f) (bX f.blocks) c)),(2,.rs 0 0 n),(3,.rs 1 0 n)]) (ml:=[(0,.cells (bD (List.replicate n fO)) 100),(1,.cells (bD (List.replicate n fO)) 100)]) ⟨rfl,?_,?_,trivial⟩ ⟨?_,?_,trivial⟩) (ao ?_))
 .exact congrArg (fun k=>D.rs 0 0 k) dE
 .exact congrArg (fun k=>D.rs 1 0 k) dE
 .exact congrArg (fun c=>some (Row.cells c 100)) ((congrArg (fun k=>replD k (fO.map bp)) dE).trans (Jm n fO))
 .exact congrArg (fun c=>some (Row.cells c 100)) ((congrArg (fun k=>replD k (fO.map bp)) dE).trans (Jm n fO))
 have oF:(ug (bt (bg f)) n).length<=1200:=by rw[Br,List.length_reverse] at jy;exact jy
 generalize ug (bt (bg f)) n=O at Fg Br oF;refine SS ?_;refine Bm Fg rfl dd ?_;refine SS ?_;refine ab (aw ?_);refine SS ?_;refine kZ (MX (i:=2) (l:=O) (Nat.lt_succ_self _) rfl rfl oG) rfl dd fun r m' nx' hp=>?_;obtain⟨rfl,rfl,rfl⟩:=hp;generalize hR:lQ (cB f) n (gI f)=R;have hR:R=pR (cB f) (gI f) (tD (qY n)+1) (qY n):=hR.symm;have Ah:pD (cB f) n (gI f) (qY n):=QD n;have aeD:D.sl (O.reverse.map I) O.length=aB (gI f):=by rw[Br,aB,List.length_reverse]
 have Cm:O.reverse=gI f:=Br.symm;rw[Cm];have MZ:O.length=(gI f).length:=by rw[Br,List.length_reverse]
 clear Cm aeD;generalize gI f=ord at*
 refine ab (aI (m9 (i:=2) (e:=3) (cs:=ord.map I) (l:=[(0,.pt (cv f (bg f) (bX f.blocks) c)),(2,.rs 0 0 n),(3,.rs 1 0 n),(5,aB ord)]) (ml:=[(0,.cells (bD (List.replicate n fO)) 100),(1,.cells (bD (List.replicate n fO)) 100)]) rfl ⟨rfl,rfl,rfl,?_,trivial⟩ ⟨GX oG rfl (CX _),GX oG rfl (CX _),trivial⟩) (aC (aw ?_)))
 .refine(j0 (by rw[c3];simp[MZ])).trans ?_;rw[MZ]
 refine SS ?_
 refine ab (bV (fun s=>∃ n',Ghost prog s ⟨az [(2,.rs 0 0 n),(3,.rs 1 0 n)],bm [(0,.cells (bD R.aX) 100),(1,.cells (bD R.out) 100)],n'⟩/\pD (cB f) n ord R) (y7 (α:=LS×Nat)
  (fun s=>⟨az [(0,.pt (cv f (bg f) (bX f.blocks) c)),(2,.rs 0 0 n),(3,.rs 1 0 n),(5,aB ord),(6,B s.1.ch)],bm [(0,.cells (bD s.1.aX) 100),(1,.cells (bD s.1.out) 100)],s.2⟩)
  (fun s=>pD (cB f) n ord s.1/\3<=s.2/\(s.1.ch=true->∃ k,tD s.1<k/\pR (cB f) ord k s.1=R)/\(s.1.ch=false->s.1=R)) (fun s=>2*tD s.1+if s.1.ch=true then 1 else 0) (qY n,3)
  (aP eH eH) ⟨Ah,bP _,fun _=>⟨_,Nat.lt_succ_self _,hR.symm⟩,fun h=>by cases h⟩ ?_) ?_)
 .clear hR Ah Fg MZ Br;rintro⟨s0,N0⟩ ⟨kz,mR,nM,xS⟩;dsimp only at kz mR nM xS ⊢;refine SS ?_;refine ab ⟨_,rfl,fun h0=>?_,fun h=>?_⟩
  .obtain⟨gz,Tv,xF⟩:=nM h0;obtain⟨gz,rfl⟩:∃ j,gz=j+1:=⟨gz - 1,oG⟩
   have xG:=QE r9 lV kz;refine ws ?_;refine SS ?_;refine ab (aw ?_);refine au ?_
   refine ab (dM (α:=Nat×Nat)
    (fun k=>⟨az [(0,.pt (cv f (bg f) (bX f.blocks) c)),(2,.rs 0 0 n),(3,.rs 1 0 n),(5,aB ord),(6,B ((ord.take k.1).foldl (fun s b=>ic (cB f) s b.toNat) ⟨s0.aX,s0.out,false⟩).ch),(38,aB ord),(39,I ord.length),(40,I k.1)],bm [(0,.cells (bD ((ord.take k.1).foldl (fun s b=>ic (cB f) s b.toNat) ⟨s0.aX,s0.out,false⟩).aX) 100),(1,.cells (bD ((ord.take k.1).foldl (fun s b=>ic (cB f) s b.toNat) ⟨s0.aX,s0.out,false⟩).out) 100)],k.2⟩)
    (fun k=>k.1<=ord.length/\3<=k.2) (fun k=>ord.length - k.1) (0,N0) (aP eH eH) ⟨Nat.zero_le _,mR⟩ ?_)
   rintro⟨k,N⟩ ⟨hk,hN⟩;dsimp only at hk hN ⊢;have aY:=(AO (J:=pD (cB f) n ord) (φ:=wH) (f:=fun s b=>ic (cB f) s b.toNat) (l:=ord.take k) (fun b hb s hs=>PF r9 hs (lV b (List.mem_of_mem_take hb)).2 (by have:=(lV b (List.mem_of_mem_take hb)).1;rw[Int.toNat_of_nonneg this];exact List.mem_of_mem_take hb)) (s:=⟨s0.aX,s0.out,false⟩) ⟨⟨kz.ok.ln,kz.ok.lo,kz.ok.aX,kz.ok.out⟩,kz.mi,kz.mo,kz.si,kz.so,kz.snd⟩).1;have cq:∀ b,ord[k]? =some b->(ord.take (k+1)).foldl (fun s b=>ic (cB f) s b.toNat) ⟨s0.aX,s0.out,false⟩=ic (cB f) ((ord.take k).foldl (fun s b=>ic (cB f) s b.toNat) ⟨s0.aX,s0.out,false⟩) b.toNat:=fun b hb=>l7 (f:=fun s (b:Int)=>ic (cB f) s b.toNat) hb;have gd:k=ord.length->(ord.take k).foldl (fun s b=>ic (cB f) s b.toNat) ⟨s0.aX,s0.out,false⟩=tS (cB f) ord s0:=fun e=>by rw[e,List.take_length];rfl
   generalize (ord.take k).foldl (fun s b=>ic (cB f) s b.toNat) ⟨s0.aX,s0.out,false⟩=u at aY cq gd;refine SS ?_;refine ab ⟨_,rfl,fun h=>?_,fun h=>?_⟩
   .have ap:k<ord.length:=by simpa using h
    have WD:ord[k]? =some ord[k]:=aG ap;have M3:=lV _ (bO ap);generalize ord[k]=b at WD M3;obtain⟨C,rfl⟩:=cN M3.1;have u4:C<n:=M3.2;have hx:f.blocks[C]? =some f.blocks[C]:=aG oG;have bM:f.blocks[C]∈f.blocks:=bO _;generalize f.blocks[C]=x at hx bM;have aU:=cq _ WD;rw[bx] at aU;refine ws ?_;refine au ?_;refine ab (aw ?_);refine bI ?_;refine af ?_;refine ab (aI (m9 (i:=N) (e:=72) (cs:=c9 x) (l:=[(0,.pt (cv f (bg f) (bX f.blocks) c)),(2,.rs 0 0 n),(3,.rs 1 0 n),(5,aB ord),(6,B u.ch),(8,I C),(9,.pt (c9 x)),(38,aB ord),(39,I ord.length),(40,I k)]) (ml:=[(0,.cells (bD u.aX) 100),(1,.cells (bD u.out) 100)]) (up_same _ _ _) ⟨rfl,vo oG,vo oG,rfl,rfl,rfl,lP,rfl,rfl,rfl,trivial⟩ ⟨GX oG (ag oG (ag oG rfl)) (CX _),GX oG (ag oG (ag oG rfl)) (CX _),trivial⟩) (aw ?_));refine SS ?_;have kL:=fJ C;have H4:=qX hx;have hlb:=du C;have alC:(cB f).beh C=bt (bg f) C:=rfl;have sW:(cB f).blk C=x:=iU hx;have Fi:(bg f)[C]? =some (bt (bg f) C):=CM (by simp[bg];omega);have Am:True->ll (cB f) u.aX C=c6 ((bt (bg f) C).foldl (kn (cB f) u.aX C) fO) (bS x.fin):=fun _=>by rw[ll,sW];rfl
    generalize Vo:bt (bg f) C=l at kL hlb Fi Am;have LO:∀ c∈l,c∈(cB f).beh C:=fun c h=>by rw[<- Vo] at h;exact h
    refine ab (aI (jd (l:=[(0,.pt (cv f (bg f) (bX f.blocks) c)),(2,.rs 0 0 n),(3,.rs 1 0 n),(5,aB ord),(6,B u.ch),(8,I C),(9,.pt (c9 x)),(10,.rp (N+1) 0),(38,aB ord),(39,I ord.length),(40,I k)]) (m':=up (bm [(0,.cells (bD u.aX) 100),(1,.cells (bD u.out) 100)]) (N+1) (some (.cells (fO.map bp) 100))) eH rfl) (aC (aw ?_)));refine aE ?_
    refine ab (bV (fun s=>∃ m nx,Ghost prog s ⟨az [(0,.pt (cv f (bg f) (bX f.blocks) c)),(2,.rs 0 0 n),(3,.rs 1 0 n),(5,aB ord),(6,B u.ch),(8,I C),(9,.pt (c9 x)),(10,.rp (N+1) 0),(38,aB ord),(39,I ord.length),(40,I k)],m,nx⟩/\N+1<nx/\m 0=some (.cells (bD u.aX) 100)/\m 1=some (.cells (bD u.out) 100)/\m (N+1)=some (.cells ((l.foldl (kn (cB f) u.aX C) fO).map bp) 100)) (dM (α:=Nat×Mem×Nat)
     (fun j=>⟨az [(0,.pt (cv f (bg f) (bX f.blocks) c)),(2,.rs 0 0 n),(3,.rs 1 0 n),(5,aB ord),(6,B u.ch),(8,I C),(9,.pt (c9 x)),(10,.rp (N+1) 0),(38,aB ord),(39,I ord.length),(40,I k),(58,aB l),(59,I l.length),(60,I j.1)],j.2.1,j.2.2⟩)
     (fun j=>j.1<=l.length/\N+1<j.2.2/\j.2.1 0=some (.cells (bD u.aX) 100)/\j.2.1 1=some (.cells (bD u.out) 100)/\j.2.1 (N+1)=some (.cells (((l.take j.1).foldl (kn (cB f) u.aX C) fO).map bp) 100)) (fun j=>l.length - j.1) (0,up (bm [(0,.cells (bD u.aX) 100),(1,.cells (bD u.out) 100)]) (N+1) (some (.cells (fO.map bp) 100)),N+2)
     (aq eH) ⟨Nat.zero_le _,Nat.lt_succ_self _,by dsimp only;exact ag oG rfl,by dsimp only;exact ag oG rfl,up_same _ _ _⟩ ?_) ?_)
    .rintro⟨j,m,nx⟩ ⟨hj,gh,X,m1,mq⟩;dsimp only at hj gh X m1 mq ⊢;have iu:=(J3 r9 aY.ok.ln aY.ok.aX (b:=C) 0 (l.take j) (fun c h=>LO c (List.mem_of_mem_take h)) fO dv.zero).1;have Ew:∀ c,l[j]? =some c->(l.take (j+1)).foldl (kn (cB f) u.aX C) fO=kn (cB f) u.aX C ((l.take j).foldl (kn (cB f) u.aX C) fO) c:=fun c hc=>l7 hc;have Vp:j=l.length->(l.take j).foldl (kn (cB f) u.aX C) fO=l.foldl (kn (cB f) u.aX C) fO:=fun e=>by rw[e,List.take_length]
     generalize (l.take j).foldl (kn (cB f) u.aX C) fO=w at mq iu Ew Vp;have hw:w.length=19:=iu.1;refine SS ?_;refine ab ⟨_,rfl,fun h=>?_,fun h=>?_⟩
     .have cF:j<l.length:=by simpa using h
      have yH:l[j]? =some l[j]:=aG cF;have sa:=bO cF;generalize l[j]=cc at yH sa;have ez:=kL cc sa;have cy:=LO cc sa;have Ew:=Ew cc yH;obtain⟨U,rfl⟩:=cN ez.1;have eK:U<n:=ez.2;have WE:U<u.aX.length:=by rw[aY.ok.ln];exact eK
      have hi:u.aX[U]? =some u.aX[U]:=aG WE;have qz:=aY.ok.aX _ (bO WE);have pK:u.aX.getD U []=u.aX[U]:=getD_some hi;generalize u.aX[U]=wc at hi qz pK;have alD:wc.length=19:=qz.1;have Ag:∀ w∈u.aX,w.length=19:=fun w hw=>(aY.ok.aX w hw).1;have ay:=X;refine ws ?_;refine au ?_;refine ab (aw ?_);refine af ?_;refine aF (tT rfl rfl ay V.h V.h) ak ⟨V.h,oG⟩ ?_;refine aF (dx rfl ay V.h V.h (zu oN oN)) ak (dy V.h V.h (rB oN oN)) ?_;refine SS ?_;refine cJ (gq rfl rfl (up_same _ _ _) (CW (by first|rfl|exact bA rfl|(simp;done)|(simp;omega)|omega) (by first|rfl|exact bA rfl|(simp;done)|(simp;omega)|omega))) ak (y3 (by first|rfl|exact bA rfl|(simp;done)|(simp;omega)|omega) (by first|rfl|exact bA rfl|(simp;done)|(simp;omega)|omega) (by first|rfl|exact jv _|(simp[jv];done)|exact F3)) ?_;have wI:f.blocks[U]? =some f.blocks[U]:=aG oG;have iy:f.blocks[U]∈f.blocks:=bO _;generalize f.blocks[U]=y at wI iy
      have M4:(cB f).yI C (U:Int)=jn (eN f U) C y:=by
       show jn (eN f U) C (bu f U)=_;rw[iU wI]
      have fI:(cB f).yJ C (U:Int)=gR x.fin (U:Int):=by
       show gR (bu f C).fin _=_;rw[iU hx]
      have Ai:=r9.yI C (U:Int) cy;have wB:=r9.yJ C (U:Int) cy;have Fj:(C:Int)∈eN f U:=yU.2 ⟨C,rfl,oG,x,hx,(U:Int),by rw[<- H4];rw[Vo];exact sa,oS⟩
      have An:(bX f.blocks)[U]? =some (eN f U):=by
       unfold eN;exact AH rfl oG
      have H5:=rR.blk y iy;have zK:=zK (f:=f) (beh:=bg f) (ahd:=bX f.blocks) hc eQ (a:=(C:Int)) (b:=(U:Int)) (k:=U) rfl wI An H5.len (fun z hz=>(rR.xQ wI hz).1) Fj
      have aic:(jn (eN f U) C y).length<=100000:=by
       have:=(List.takeWhile_prefix (l:=y.ins) bC).length_le;have:=H5.len;unfold jn cg;rw[List.length_map];omega
      have lz:kn (cB f) u.aX C w (U:Int)=p7 w (ia (c6 wc (jn (eN f U) C y)) (gR x.fin (U:Int))):=by
       unfold kn;rw[M4,fI,bx,pK]
      rw[M4] at Ai;rw[fI] at wB;have lz:True->(l.take (j+1)).foldl (kn (cB f) u.aX C) fO=p7 w (ia (c6 wc (jn (eN f U) C y)) (gR x.fin (U:Int))):=fun _=>Ew.trans lz;clear M4 fI Ew pK;generalize jn (eN f U) C y=gl at zK aic lz Ai;refine ab (aI (jd (l:=[(0,.pt (cv f (bg f) (bX f.blocks) c)),(2,.rs 0 0 n),(3,.rs 1 0 n),(5,aB ord),(6,B u.ch),(8,I C),(9,.pt (c9 x)),(10,.rp (N+1) 0),(12,I U),(13,.rp nx 0),(38,aB ord),(39,I ord.length),(40,I k),(58,aB l),(59,I l.length),(60,I j)]) (m':=up m nx (some (.cells (wc.map bp) 100))) eH (la _ _ _ _)) (aC (aw ?_)));refine au ?_;refine cl zK ?_;refine af ?_
      refine ab (bV (fun s=>Ghost prog s ⟨az [(0,.pt (cv f (bg f) (bX f.blocks) c)),(2,.rs 0 0 n),(3,.rs 1 0 n),(5,aB ord),(6,B u.ch),(8,I C),(9,.pt (c9 x)),(10,.rp (N+1) 0),(12,I U),(13,.rp nx 0),(38,aB ord),(39,I ord.length),(40,I k),(58,aB l),(59,I l.length),(60,I j)],up m nx (some (.cells ((c6 wc gl).map bp) 100)),nx+1⟩) (dM (α:=Nat)
       (fun i=>⟨az [(0,.pt (cv f (bg f) (bX f.blocks) c)),(2,.rs 0 0 n),(3,.rs 1 0 n),(5,aB ord),(6,B u.ch),(8,I C),(9,.pt (c9 x)),(10,.rp (N+1) 0),(12,I U),(13,.rp nx 0),(38,aB ord),(39,I ord.length),(40,I k),(58,aB l),(59,I l.length),(60,I j),(71,aB gl),(72,I gl.length),(73,I i)],up m nx (some (.cells ((c6 wc (gl.take i)).map bp) 100)),nx+1⟩)
       (fun i=>i<=gl.length) (fun i=>gl.length - i) 0 (aq eH) (Nat.zero_le _) ?_) ?_)
      .intro i hi;have mY:(c6 wc (gl.take i)).length=19:=(qz.c6 _).1;have kC:∀ r,gl[i]? =some r->c6 wc (gl.take (i+1))=iX (c6 wc (gl.take i)) r.toNat:=fun r hr=>IF hr;have xW:i=gl.length->c6 wc (gl.take i)=c6 wc gl:=fun e=>by rw[e,List.take_length]
       generalize c6 wc (gl.take i)=v at mY kC xW;have ay:up m nx (some (.cells (v.map bp) 100)) nx=some (.cells (v.map bp) 100):=up_same _ _ _;refine SS ?_;refine ab ⟨_,rfl,fun h=>?_,fun h=>?_⟩
       .have fB:i<gl.length:=by simpa using h
        have hr:gl[i]? =some gl[i]:=aG fB;have ow:=Ai _ (bO fB);generalize gl[i]=r at hr ow;have kC:=kC r hr;obtain⟨rn,rfl⟩:=cN ow.1;rw[bx] at kC;have s7:=s7 (w:=v) (m:=rn) mY oG;have Hp:(iX v rn).length=19:=by simp[mY]
        refine ws ?_;refine au ?_;refine ab (eZ ?_);refine af ?_;refine cl s7 ?_;refine SS ?_;refine ab ?_;refine af ?_;refine ab (aK (i+1) (jd eH ?_) oG oG);rw[kC,la]
       .have bh:¬ i<gl.length:=by simpa using h
        rw[xW oG];exact aq eH
      .intro s hg;have mY:(c6 wc gl).length=19:=(qz.c6 _).1;generalize c6 wc gl=v at mY hg lz;have ay:up m nx (some (.cells (v.map bp) 100)) (N+1)=some (.cells (w.map bp) 100):=ag oG mq;have cQ:up m nx (some (.cells (v.map bp) 100)) nx=some (.cells (v.map bp) 100):=up_same _ _ _;have zJ:=zJ (x:=x.fin) (b:=(U:Int)) (by have:=(rR.ends x bM).wh;omega);have we:=we (w:=v) (n:=gR x.fin (U:Int)) mY ⟨by unfold gR;have:=(rR.ends x bM).fin.wr;split<;>omega,wB⟩;have pL:(ia v (gR x.fin (U:Int))).length=19:=by simp[mY]
       generalize gR x.fin (U:Int)=wn at zJ we pL lz wB;generalize ia v wn=v1 at we pL lz;have Hk:=Hk (w:=w) (v:=v1) hw pL;have Fk:(p7 w v1).length=19:=by simp[hw]
       generalize p7 w v1=v2 at Hk Fk lz;refine⟨_,hg,kU Zk ?_⟩;refine SS ?_;refine aF (dx rfl cQ V.h V.h (iI (by first|rfl|exact bA rfl|(simp;done)|(simp;omega)|omega))) ak (dy V.h V.h (by first|rfl|exact bA rfl|(simp;done)|(simp;omega)|omega)) ?_;refine au ?_;refine cl zJ ?_;refine cl we ?_;refine cl Hk ?_;refine SS ?_;refine a8 bf ?_;refine af ?_;refine ab (aK (j+1,up (up m nx (some (.cells (v.map bp) 100))) (N+1) (some (.cells (v2.map bp) 100)),nx+1) (aq eH) ⟨oM,oM,?_,?_,?_⟩ oM)
       .dsimp only;exact ag oG (ag oG X)
       .dsimp only;exact ag oG (ag oG m1)
       .dsimp only;rw[lz trivial];exact up_same _ _ _
     .have bh:¬ j<l.length:=by simpa using h
      rw[Vp oG] at mq;exact⟨m,nx,aq eH,gh,X,m1,mq⟩
    .rintro s ⟨m,nx,hg,gh,X,m1,mq⟩;have iu:=(J3 r9 aY.ok.ln aY.ok.aX (b:=C) 0 l LO fO dv.zero).1;generalize l.foldl (kn (cB f) u.aX C) fO=w0 at mq iu Am;have uF:=uF (x:=x.fin) (rR.ends x bM).fin.a1 (rR.ends x bM).fin.a2;have aid:=(rR.blk x bM).rf;have df:=r9.WG C;rw[sW] at df;generalize bS x.fin=rl at uF aid df Am;refine⟨_,hg,aC (aw ?_)⟩;refine af ?_;refine cl uF ?_;refine af ?_
     refine ab (bV (fun s=>Ghost prog s ⟨az [(0,.pt (cv f (bg f) (bX f.blocks) c)),(2,.rs 0 0 n),(3,.rs 1 0 n),(5,aB ord),(6,B u.ch),(8,I C),(9,.pt (c9 x)),(10,.rp (N+1) 0),(38,aB ord),(39,I ord.length),(40,I k)],up m (N+1) (some (.cells ((c6 w0 rl).map bp) 100)),nx⟩) (dM (α:=Nat)
      (fun i=>⟨az [(0,.pt (cv f (bg f) (bX f.blocks) c)),(2,.rs 0 0 n),(3,.rs 1 0 n),(5,aB ord),(6,B u.ch),(8,I C),(9,.pt (c9 x)),(10,.rp (N+1) 0),(38,aB ord),(39,I ord.length),(40,I k),(92,aB rl),(93,I rl.length),(94,I i)],up m (N+1) (some (.cells ((c6 w0 (rl.take i)).map bp) 100)),nx⟩)
      (fun i=>i<=rl.length) (fun i=>rl.length - i) 0 (jd eH ?_) (Nat.zero_le _) ?_) ?_)
     .funext p;simp only[up];split
      .rename_i e;subst e;exact mq
      .rfl
     .intro i hi;have mY:(c6 w0 (rl.take i)).length=19:=(iu.c6 _).1;have kC:∀ r,rl[i]? =some r->c6 w0 (rl.take (i+1))=iX (c6 w0 (rl.take i)) r.toNat:=fun r hr=>IF hr;have xW:i=rl.length->c6 w0 (rl.take i)=c6 w0 rl:=fun e=>by rw[e,List.take_length]
      generalize c6 w0 (rl.take i)=v at mY kC xW;have ay:up m (N+1) (some (.cells (v.map bp) 100)) (N+1)=some (.cells (v.map bp) 100):=up_same _ _ _;refine SS ?_;refine ab ⟨_,rfl,fun h=>?_,fun h=>?_⟩
      .have fB:i<rl.length:=by simpa using h
       have hr:rl[i]? =some rl[i]:=aG fB;have ow:=df _ (bO fB);generalize rl[i]=r at hr ow;have kC:True->_:=fun _=>kC r hr;obtain⟨rn,rfl⟩:=cN ow.1;rw[bx] at kC;have s7:=s7 (w:=v) (m:=rn) mY oG;have Hp:(iX v rn).length=19:=by simp[mY]
       generalize iX v rn=v2 at s7 Hp kC;refine ws ?_;refine au ?_;refine ab (eZ ?_);refine af ?_;refine cl s7 ?_;refine SS ?_;refine ab ?_;refine af ?_;refine ab (aK (i+1) (jd eH ?_) oG oG);rw[kC trivial,la]
      .have bh:¬ i<rl.length:=by simpa using h
       rw[xW oG];exact aq eH
     .intro s hg;have Ao:=iu.c6 rl;have H6:True->rM (cB f) C (ll (cB f) u.aX C)=x.ins.reverse.foldl kD (c6 w0 rl):=fun _=>by rw[rM,sW,Am trivial]
      generalize c6 w0 rl=v at hg Ao Am H6;have mY:v.length=19:=Ao.1;have ay:up m (N+1) (some (.cells (v.map bp) 100)) (N+1)=some (.cells (v.map bp) 100):=up_same _ _ _;have X:up m (N+1) (some (.cells (v.map bp) 100)) 0=some (.cells (bD u.aX) 100):=ag oG X;have m1:up m (N+1) (some (.cells (v.map bp) 100)) 1=some (.cells (bD u.out) 100):=ag oG m1;refine⟨_,hg,aw ?_⟩;clear hg;generalize up m (N+1) (some (.cells (v.map bp) 100))=m at ay X m1;refine af ?_;refine cJ (gq rfl rfl (up_same _ _ _) (CW (by first|rfl|exact bA rfl|(simp;done)|(simp;omega)|omega) (by first|rfl|exact bA rfl|(simp;done)|(simp;omega)|omega))) ak (y3 (by first|rfl|exact bA rfl|(simp;done)|(simp;omega)|omega) (by first|rfl|exact bA rfl|(simp;done)|(simp;omega)|omega) (by first|rfl|exact jv _|(simp[jv];done)|exact F3)) ?_;have M5:up m nx (some (.cells (v.map bp) 100)) nx=some (.cells (v.map bp) 100):=up_same _ _ _;have Ap:up m nx (some (.cells (v.map bp) 100)) (N+1)=some (.cells (v.map bp) 100):=ag oG ay;have X:up m nx (some (.cells (v.map bp) 100)) 0=some (.cells (bD u.aX) 100):=ag oG X;have m1:up m nx (some (.cells (v.map bp) 100)) 1=some (.cells (bD u.out) 100):=ag oG m1;refine ab (aI (jd (l:=[(0,.pt (cv f (bg f) (bX f.blocks) c)),(2,.rs 0 0 n),(3,.rs 1 0 n),(5,aB ord),(6,B u.ch),(8,I C),(9,.pt (c9 x)),(10,.rp (N+1) 0),(18,.rp nx 0),(38,aB ord),(39,I ord.length),(40,I k)]) (m':=up m nx (some (.cells (v.map bp) 100))) eH (la _ _ _ _)) ?_);clear ay;generalize up m nx (some (.cells (v.map bp) 100))=m at M5 Ap X m1;obtain⟨T,hT⟩:∃ T,T=nx:=⟨_,rfl⟩
      rw[<- hT] at M5 gh ⊢;clear hT;have LL:=LL (l:=x.ins);refine ew (fun s=>∃ m' nx',Ghost prog s ⟨az [(0,.pt (cv f (bg f) (bX f.blocks) c)),(2,.rs 0 0 n),(3,.rs 1 0 n),(5,aB ord),(6,B u.ch),(8,I C),(9,.pt (c9 x)),(10,.rp (N+1) 0),(18,.rp T 0),(38,aB ord),(39,I ord.length),(40,I k)],m',nx'⟩/\m' 0=some (.cells (bD u.aX) 100)/\m' 1=some (.cells (bD u.out) 100)/\m' (N+1)=some (.cells (v.map bp) 100)/\m' T=some (.cells ((x.ins.reverse.foldl kD v).map bp) 100)/\T<nx') (ao ?_) fun s hs=>?_
      .refine af ?_;refine cl LL ?_;refine ab (nY ?_);refine⟨rfl,trivial,176,[],[.pt [dG x.ins]],vN x.ins,fun i m' nx'=>m' 0=some (.cells (bD u.aX) 100)/\m' 1=some (.cells (bD u.out) 100)/\m' (N+1)=some (.cells (v.map bp) 100)/\m' T=some (.cells (((x.ins.reverse.take i).foldl kD v).map bp) 100)/\T<nx',rfl,Vh (rR.blk x bM).len,?_,⟨X,m1,Ap,M5,Nat.lt_succ_self _⟩,?_,?_⟩
       .intro y hy;obtain⟨i,_,rfl⟩:=List.mem_map.1 hy;exact⟨rfl,.cons (.s _) (.cons (.agg (mg _)) .nil)⟩
       .rintro i m nx y hy ⟨X,m1,mq,mT,LP⟩;have fB:i<x.ins.length:=by rw[<- IV];exact(bL.1 hy).1
        have hz:x.ins[x.ins.length - 1 - i]? =some x.ins[x.ins.length - 1 - i]:=aG oG;have H7:x.ins[x.ins.length - 1 - i]∈x.ins:=bO _;generalize x.ins[x.ins.length - 1 - i]=z at hz H7;rw[OG fB hz] at hy;cases hy;have hrz:x.ins.reverse[i]? =some z:=by rw[List.getElem?_reverse fB];exact hz
        have tq:True->(x.ins.reverse.take (i+1)).foldl kD v=kD ((x.ins.reverse.take i).foldl kD v) z:=fun _=>l7 hrz;have wJ:dv ((x.ins.reverse.take i).foldl kD v):=Ao.CZ _;generalize (x.ins.reverse.take i).foldl kD v=w1 at mT wJ tq;have lY:w1.length=19:=wJ.1;have HV:=(r9.ins C) z (by rw[sW];exact H7);have tg:=(rR.blk x bM).ins z H7;have uX:=(rR.blk x bM).rl z H7;have og:=og (x:=z);have qj:=qj (x:=z) tg.ar;have we:=we (w:=w1) (n:=bT z) lY ⟨by have:=tg.wr;omega,HV.wr⟩;have pL:(ia w1 (bT z)).length=19:=by simp[lY]
        have WH:=wJ.ia (bT z);have mN:=HV.rd;have tq:True->(x.ins.reverse.take (i+1)).foldl kD v=c6 (ia w1 (bT z)) (bU z):=tq;generalize ia w1 (bT z)=w2 at we pL tq WH;generalize bU z=rl at qj uX tq mN;refine gv ?_;refine af ?_;have ay:=mT;refine ab (show AW _ _ _ _ _ _ from nY (c8 Zl ?_));refine aF (dx rfl (ag oG (ag oG ay)) V.h V.h (iI (by first|rfl|exact bA rfl|(simp;done)|(simp;omega)|omega))) ak (dy V.h V.h (by first|rfl|exact bA rfl|(simp;done)|(simp;omega)|omega)) ?_;refine SS ?_;refine cl og ?_;refine cl we ?_;refine cJ (gq rfl rfl (ag oG (ag oG ay)) (CW (by first|rfl|exact bA rfl|(simp;done)|(simp;omega)|omega) (by first|rfl|exact bA rfl|(simp;done)|(simp;omega)|omega))) ak (y3 (by first|rfl|exact bA rfl|(simp;done)|(simp;omega)|omega) (by first|rfl|exact bA rfl|(simp;done)|(simp;omega)|omega) (by first|rfl|exact jv _|(simp[jv];done)|exact F3)) ?_;refine a8 bf (aw ?_);clear ay;refine aF (dx (vs:=a9 _) rfl (ag oG (up_same _ _ _)) V.h V.h rfl) ak (dy V.h V.h (by first|(simp;done)|omega|exact bA rfl)) ?_;refine cl qj ?_;refine af ?_
        refine ab (dM (α:=Nat×Mem) (fun j=>⟨az [(18,.rp T 0),(113,aB rl),(114,I rl.length),(115,I j.1)],j.2,nx+1⟩)
         (fun j=>j.1<=rl.length/\j.2 0=some (.cells (bD u.aX) 100)/\j.2 1=some (.cells (bD u.out) 100)/\j.2 (N+1)=some (.cells (v.map bp) 100)/\j.2 T=some (.cells ((c6 w2 (rl.take j.1)).map bp) 100)) (fun j=>rl.length - j.1) (0,up (up m nx (some (.cells (a9 z) 66))) T (some (.cells (w2.map bp) 100)))
         (jd eH (by rw[la])) ⟨Nat.zero_le _,by dsimp only;exact ag oG (ag oG X),by dsimp only;exact ag oG (ag oG m1),by dsimp only;exact ag oG (ag oG mq),by dsimp only;exact up_same _ _ _⟩ ?_)
        clear X m1 mq mT;rintro⟨j,m⟩ ⟨hj,X,m1,mq,mT⟩;dsimp only at hj X m1 mq mT ⊢;have mY:(c6 w2 (rl.take j)).length=19:=(WH.c6 _).1;have kC:∀ r,rl[j]? =some r->c6 w2 (rl.take (j+1))=iX (c6 w2 (rl.take j)) r.toNat:=fun r hr=>IF hr;have xW:j=rl.length->c6 w2 (rl.take j)=c6 w2 rl:=fun e=>by rw[e,List.take_length]
        generalize c6 w2 (rl.take j)=w3 at mY kC xW mT;have ay:=mT;refine SS ?_;refine ab ⟨_,rfl,fun h=>?_,fun h=>?_⟩
        .have cF:j<rl.length:=by simpa using h
         have hr:rl[j]? =some rl[j]:=aG cF;have ow:=mN _ (bO cF);generalize rl[j]=r at hr ow;have kC:True->_:=fun _=>kC r hr;obtain⟨rn,rfl⟩:=cN ow.1;rw[bx] at kC;have s7:=s7 (w:=w3) (m:=rn) mY oG;have Hp:(iX w3 rn).length=19:=by simp[mY]
         generalize iX w3 rn=w4 at s7 Hp kC;refine ws ?_;refine au ?_;refine ab (eZ ?_);refine af ?_;refine cl s7 ?_;refine SS ?_;refine ab ?_;refine af ?_;refine ab (aK (j+1,up m T (some (.cells (w4.map bp) 100))) (aq eH) ⟨oM,by dsimp only;exact ag oG X,by dsimp only;exact ag oG m1,by dsimp only;exact ag oG mq,?_⟩ oM);dsimp only;rw[kC trivial];exact up_same _ _ _
        .have bh:¬ j<rl.length:=by simpa using h
         refine⟨X,m1,mq,?_,oM⟩;rw[tq trivial, <- xW oG];exact mT
       .rintro m nx ⟨X,m1,mq,mT,LP⟩;refine⟨m,nx,aq eH,X,m1,mq,?_,LP⟩;rw[mT,IV,dn oS]
      .obtain⟨m2,gX,hg,X,m1,mq,mT,LP⟩:=hs;have rW:=Ao.CZ x.ins.reverse;generalize x.ins.reverse.foldl kD v=tt at mT rW H6;have alE:tt.length=19:=rW.1;have Aq:C<u.aX.length:=by rw[aY.ok.ln];exact u4
       have yK:C<u.out.length:=by rw[aY.ok.lo];exact u4
       have Fl:u.aX[C]? =some u.aX[C]:=aG Aq;have WI:u.out[C]? =some u.out[C]:=aG yK;have aie:u.aX[C].length=19:=(aY.ok.aX _ (bO Aq)).1;have aif:u.out[C].length=19:=(aY.ok.out _ (bO yK)).1;have LQ:True->u.aX.getD C []=u.aX[C]:=fun _=>getD_some Fl;have LR:True->u.out.getD C []=u.out[C]:=fun _=>getD_some WI;have Vq:∀ w∈u.aX,w.length=19:=fun w hw=>(aY.ok.aX w hw).1;have kC:∀ w∈u.out,w.length=19:=fun w hw=>(aY.ok.out w hw).1;generalize u.aX[C]=wi at Fl aie LQ;generalize u.out[C]=wo at WI aif LR
       have mQ:ic (cB f) u C=if v≠wo\/tt≠wi then⟨u.aX.set C tt,u.out.set C v,true⟩ else u:=by
        unfold ic;rw[H6 trivial,Am trivial,LQ trivial,LR trivial]
       have aU:True->_:=fun _=>aU.trans mQ;clear mQ Am H6 LQ LR;have ay:=mq;have cQ:=mT;have gy:=X;have D7:=m1;refine⟨_,hg,c8 Zm ?_⟩;clear hg;refine au ?_;refine aF (tT rfl rfl D7 V.h V.h) ak ⟨V.h,oG⟩ ?_;refine aF (dx rfl D7 V.h V.h (zu oN oN)) ak (dy V.h V.h (rB oN oN)) ?_;refine aF (Ts rfl rfl (by first|assumption|(simp;omega)|omega)) ak (Tt (by first|assumption|(simp;omega)|omega)) ?_;refine SS ?_;refine bE rfl rfl (dx rfl cQ V.h V.h (iI (by first|rfl|exact bA rfl|(simp;done)|(simp;omega)|omega))) (fun hc=>⟨ak,(dy V.h V.h (by first|rfl|exact bA rfl|(simp;done)|(simp;omega)|omega))⟩) ?_;refine af ?_;refine bE rfl rfl (tT rfl rfl gy V.h V.h) (fun hc=>⟨ak,⟨V.h,oG⟩⟩) ?_;refine bE rfl rfl (dx rfl gy V.h V.h (zu oN oN)) (fun hc=>⟨ak,(dy V.h V.h (rB oN oN))⟩) ?_;refine bE rfl rfl (Ts rfl rfl (by first|assumption|(simp;omega)|omega)) (fun hc=>⟨ak,(Tt (by first|assumption|(simp;omega)|omega))⟩) ?_;refine SS ?_;refine a8 bf (av rfl (fun hp=>?_) fun hp=>?_)
       .have aM:v≠wo\/tt≠wi:=by
         revert hp;by_cases e1:v=wo<;>by_cases e2:tt=wi<;>simp[e1,e2]
        have aU:True->_:=fun _=>(aU trivial).trans (if_pos aM);have rS:v.length=19:=mY;refine kU Zn ?_;refine aJ ?_;refine aF (dx rfl cQ V.h V.h (iI (by first|rfl|exact bA rfl|(simp;done)|(simp;omega)|omega))) ak (dy V.h V.h (by first|rfl|exact bA rfl|(simp;done)|(simp;omega)|omega)) ?_;refine SS ?_;refine aF (tT rfl rfl gy V.h V.h) ak ⟨V.h,oG⟩ ?_;refine cJ (gq rfl rfl gy (GR oC oN oN (by first|assumption|(simp;omega)|(simp;done)))) ak (y3 (by first|(simp;omega)|(simp;done)) (rB oN oN) (jv _)) ?_;refine aF (tT rfl rfl D7 V.h V.h) ak ⟨V.h,oG⟩ ?_;refine cJ (gq rfl rfl D7 (GR oC oN oN (by first|assumption|(simp;omega)|(simp;done)))) ak (y3 (by first|(simp;omega)|(simp;done)) (rB oN oN) (jv _)) ?_;refine SS ?_;refine a8 bf ?_;refine af ?_;refine ab (aK (k+1,gX) (aP ⟨rfl,rfl,rfl,rfl,?_,rfl,rfl,rfl,trivial⟩ ⟨?_,?_,trivial⟩) ⟨oM,oM⟩ oM)
        .dsimp only;rw[aU trivial];rfl
        .dsimp only;rw[aU trivial];exact ag oG (up_same _ _ _)
        .dsimp only;rw[aU trivial];exact up_same _ _ _
       .have aM:¬ (v≠wo\/tt≠wi):=by
         revert hp;by_cases e1:v=wo<;>by_cases e2:tt=wi<;>simp[e1,e2]
        have aU:True->_:=fun _=>(aU trivial).trans (if_neg aM);refine ct ?_;refine af ?_;refine ab (aK (k+1,gX) (aP ⟨rfl,rfl,rfl,rfl,?_,rfl,rfl,rfl,trivial⟩ ⟨?_,?_,trivial⟩) ⟨oM,oM⟩ oM)
        .dsimp only;rw[aU trivial];rfl
        .dsimp only;rw[aU trivial];exact X
        .dsimp only;rw[aU trivial];exact m1
   .have bh:¬ k<ord.length:=by simpa using h
    have hl:=gd oG;subst hl;refine aK (tS (cB f) ord s0,N) (aP eH eH) ⟨aY,hN,fun hc=>?_,fun hc=>?_⟩ ?_
    .refine⟨gz,?_,?_⟩
     .have:=xG.2;unfold wH at this;show tD (tS (cB f) ord s0)<gz;rw[if_pos hc] at this;omega
     .dsimp only at hc ⊢;rw[<- xF,pR,if_pos hc]
    .dsimp only at hc ⊢;rw[<- xF,pR,if_neg (by simp[hc])]
    .have:=xG.2;unfold wH at this;dsimp only;rw[if_pos h0];split at this<;>rename_i hc
     .rw[if_pos hc];omega
     .rw[if_neg hc];omega
  .have E5:=xS h;subst E5;exact⟨N0,aP eH eH,kz⟩
 .rintro s ⟨n',hg,xT⟩;refine⟨_,hg,aw ?_⟩;refine aJ ?_;refine ab (aI (bw [(0,bD R.aX,100),(1,bD R.out,100)] ⟨rfl,Gh oG rfl (CX _),trivial⟩ (l:=[(2,.sl (bD R.aX) n),(3,.sl (bD R.out) n)]) ⟨?_,?_,trivial⟩) (dN rfl rfl rfl))
  .show sub (fz0 1 (bD R.out) (prog.cellsOf 100)) (sub (fz0 0 (bD R.aX) (prog.cellsOf 100)) (D.rs 0 0 n))=_;rw[j0 (by rw[xV,CB (fun w hw=>(xT.ok.aX w hw).1),xT.ok.ln]),R2]
  .show sub (fz0 1 (bD R.out) (prog.cellsOf 100)) (sub (fz0 0 (bD R.aX) (prog.cellsOf 100)) (D.rs 1 0 n))=_;rw[vo oG,j0 (by rw[xV,CB (fun w hw=>(xT.ok.out w hw).1),xT.ok.lo])]
theorem QF{f:aA}(C:dS f≠0):PCall prog 51 [.agg (aD f)] (.tup [.s (.pointer none),I (dS f)]):=by
 have yE:=yE (f:=f);generalize dS f=e at yE C;have fQ:(e !=0)=true:=by simpa using C
 refine bc LM (.cons (.agg (fu f)) .nil) (.tup (.cons (.s _) (.cons (.s _) .nil))) ?_;rw[Vm];refine aw ?_;refine au ?_;refine ab (aI (bw [(0,aD f,26)] eH (l:=[(1,.pt (aD f))]) eH) (aC (ao ?_)));refine SS ?_;refine cl yE ?_;refine SS ?_;refine ab (aC (ao ?_));refine af ?_;refine ab (gU ?_);refine aC (ao ?_);refine au ?_;exact ab (cK (dN rfl rfl rfl))
theorem TY:zeroD prog (melP prog 120)=I 0:=kr
theorem WJ{m:Mem}{nx r mi:Nat}{l:List (Int×Int)}{b:Int}{p:List Int}(hr:r<nx)(vg:mi<nx)(hm:m r=some (.cells [.mp mi] 120))(eX:m mi=some (.map (cm l)))(hp:vE l b p)(hl:p.length<=100000):
 ACalls prog 83 [I b,.rp r 0] m nx (fun d m' nx'=>∃ q,d=.rs q 0 p.length/\nx<=q/\q<nx'/\m' q=some (.cells (p.reverse.map I) 3)/\∀ i,i<nx->m' i=m i):=by
 refine yx Vr ?_;rw[aih];refine ws ?_;refine SS ?_;refine ab (aw ?_);refine SS ?_
 refine ab (bV (fun s=>∃ q m' nx',Ghost prog s ⟨az [(4,.rs q 0 p.length)],m',nx'⟩/\nx<=q/\q<nx'/\m' q=some (.cells (p.map I) 3)/\∀ i,i<nx->m' i=m i)
  (cI (α:=Int×List Int×List Int×Nat×Mem×Nat) (fun s=>⟨az [(0,I s.1),(1,.rp r 0),(4,.rs s.2.2.2.1 0 s.2.1.length)],s.2.2.2.2.1,s.2.2.2.2.2⟩)
   (fun s=>vE l s.1 s.2.2.1/\s.2.1++s.2.2.1=p/\nx<=s.2.2.2.1/\s.2.2.2.1<s.2.2.2.2.2/\s.2.2.2.2.1 s.2.2.2.1=some (.cells (s.2.1.map I) 3)/\∀ i,i<nx->s.2.2.2.2.1 i=m i) (fun s=>s.2.2.1.length) (b,[],p,nx,up m nx (some (.cells [] 3)),nx+1)
   ((Ghost.nilrow _ _ _ 4 3 rfl).trans (aq eH)) ⟨hp,rfl,bP _,Nat.lt_succ_self _,up_same _ _ _,fun i hi=>up_ne _ _ oG⟩ ?_) ?_)
 .rintro⟨a,o,p',q,m',nx'⟩ ⟨X,J,hq,U,ay,C⟩;dsimp only at X J hq U ay C ⊢;have cQ:m' r=some (.cells [.mp mi] 120):=(C r hr).trans hm;have jy:o.length<=100000:=by have:=congrArg List.length J;simp at this;omega
  cases X with
  |nil=>
   refine af ?_;refine ab ⟨_,rfl,fun h=>oH,fun h=>?_⟩;rw[List.append_nil] at J;subst J;exact⟨q,m',nx',aq eH,hq,U,ay,C⟩
  |@cons _ a2 p2 aM oQ aii=>
   have fQ:(a != -1)=true:=by simpa using aM
   refine af ?_;refine ab ⟨_,rfl,fun h=>?_,fun h=>oH⟩;refine gv ?_;refine aV ?_;refine ab ?_;refine aF (fV rfl (ag oG (ag oG (ag oG cQ))) rfl V.h) ak (fW V.h V.h rfl) ?_;refine SS ?_;refine aF (Jb rfl (ag oG (ag oG (ag oG ((C mi vg).trans eX)))) rfl GY (acP TY _ _)) dd ⟨GZ,DL u9 _,J4 u9 _⟩ ?_;rw[oQ,Option.getD_some];refine SS ?_;refine ab (aK (a2,o++[a],p2,nx'+1,_,nx'+2) (aq ⟨rfl,rfl,?_,trivial⟩) ⟨aii,by simp only;rw[List.append_assoc];exact J,by simp only;omega,by simp only;omega,?_,fun i hi=>?_⟩ (by simp only[List.length_cons];omega))
   .show D.rs _ 0 _=D.rs _ 0 _;rw[List.length_append];rfl
   .dsimp only;rw[List.map_append];exact up_same _ _ _
   .dsimp only;exact ag oG (ag oG (ag oG (C i hi)))
 .rintro s ⟨q,m',nx',hg,hq,U,ay,C⟩;refine⟨_,hg,ao ?_⟩;refine SS ?_;refine kZ (MX U ay rfl hl) rfl dd fun d m2 gX hp=>?_;obtain⟨rfl,rfl,rfl⟩:=hp;refine er ?_;refine af ?_;exact ab (ax rfl ⟨q,rfl,hq,U,up_same _ _ _,fun i hi=>(up_ne _ _ oG).trans (C i hi)⟩)
end Go.Proofs.Tryz.K
end
namespace Go.Argus
open Go Go.Abs
open Go.Proofs.Tryz.K (nextR lg_ok beh_in ord_in)
def iN(f:aA):Nat->List Int:=bt (bg f)
def cV(f:aA)(r:Int)(b:Nat)(p:Bool):Int:=ld (bu f b) r p
def eM(f:aA)(r:Int)(a c:Nat):Int:=np (bu f a) (bu f c) (eN f c) a c r
def lB(f:aA)(r:Int)(b:Nat):Prop:=Lv (iN f) (cV f r) (eM f r) b
theorem J'(r:Int)(p:Bool):∀ l,dV r p l=0\/dV r p l=1\/dV r p l=2
 |[]=>.inl rfl
 |y::t=>by
  unfold dV;split
  .exact .inr (.inl rfl)
  .split
   .exact .inr (.inr rfl)
   .exact J' r p t
theorem J5(x:bB)(r:Int)(p:Bool):ld x r p=0\/ld x r p=1\/ld x r p=2:=by
 unfold ld;split
 .split
  .exact .inr (.inl rfl)
  .exact .inl rfl
 .exact J' r p x.ins
theorem K3(x y:bB)(A:List Int)(a b r:Int):np x y A a b r=0\/np x y A a b r=1\/np x y A a b r=2:=by
 unfold np;split
 .exact .inr (.inr rfl)
 .split
  .exact .inr (.inl rfl)
  .split
   .exact .inr (.inr rfl)
   .exact .inl rfl
theorem Pa{y:a7}(h:y.op=19):bU y=[]:=by simp[bU,aN,n4,q9,h]
theorem IJ{y:a7}(h:y.op=19):bT y=y.to:=by simp[bT,aN,l9,h]
theorem JH{r:Int}:∀ {l:List a7},(l.takeWhile bC).any (fun z=>z.to==r)=true->dV r true l=2
 |[],h=>by simp at h
 |y::l,h=>by
  rw[List.takeWhile_cons] at h;split at h
  .rename_i hp;have C:y.op=19:=by simpa[bC] using hp
   unfold dV;rw[Pa C];simp only[dJ,List.any_nil,Bool.false_eq_true,if_false];rw[List.any_cons,Bool.or_eq_true] at h;unfold fc;rw[IJ C];rcases h with h|h
   .simp[h]
   .split
    .rfl
    .exact JH h
  .simp at h
theorem JI{r:Int}:∀ {l:List a7},(∀ (j:Nat) y,l[j]? =some y->y.op=19->(l.take (j+1)).all bC=true)->(l.takeWhile bC).any (fun z=>z.to==r)=false->dV r false l=dV r true l
 |[],_,_=>rfl
 |y::l,hl,h=>by
  have tail:∀ (j:Nat) z,l[j]? =some z->z.op=19->bC y=true/\(l.take (j+1)).all bC=true:=fun j z J C=>by
   have:=hl (j+1) z (by simpa using J) C;simpa using this
  unfold dV;split
  .rfl
  .by_cases hp:bC y=true
   .rw[List.takeWhile_cons,if_pos hp,List.any_cons,Bool.or_eq_false_iff] at h;have C:y.op=19:=by simpa[bC] using hp
    have e:∀ p,fc r p y=false:=fun p=>by
     unfold fc;rw[IJ C,h.1];rfl
    rw[e,e];exact JI (fun j z J C=>(tail j z J C).2) h.2
   .have C:(y.op !=19)=true:=by
     simp only[bC] at hp;simpa using hp
    have e:fc r false y=fc r true y:=by
     unfold fc;simp[C]
    rw[e];have hn:∀ (j:Nat) z,l[j]? =some z->z.op≠19:=fun j z J h=>hp (tail j z J h).1
    have e2:dV r false l=dV r true l:=by
     clear hl h e tail
     induction l with
     |nil=>rfl
     |cons z l ih=>
      have J:=hn 0 z rfl
      have e:fc r false z=fc r true z:=by
       unfold fc;have:(z.op !=19)=true:=by simpa using J
       simp[this]
      unfold dV;rw[e,ih fun j y hy=>hn (j+1) y (by simpa using hy)]
    rw[e2]
theorem IK{r:Nat}{p:Prop}:∀ (l:List a7),(dV r true l=1->qn r p l)/\(dV r true l=2->¬ qn r p l)/\(dV r true l=0->(qn r p l↔p))
 |[]=>⟨fun h=>by simp[dV] at h,fun h=>by simp[dV] at h,fun _=>Iff.rfl⟩
 |y::l=>by
  obtain⟨h1,h2,h3⟩:=IK (p:=p) l;unfold dV;by_cases hr:dJ (bU y) r=true
  .rw[if_pos hr];refine⟨fun _=>.inl (jD.1 hr),fun h=>by omega,fun h=>by omega⟩
  .have U:¬ (r:Int)∈bU y:=fun h=>hr (jD.2 h);rw[if_neg hr];by_cases C:fc r true y=true
   .have J:bT y=(r:Int):=by
     unfold fc at C;split at C
     .rename_i h;simpa using h
     .cases C
    rw[if_pos C];refine⟨fun h=>by omega,fun _ h=>?_,fun h=>by omega⟩;rcases h with h|⟨h,_⟩
    .exact U h
    .exact h J
   .have J:bT y≠(r:Int):=fun e=>C (by unfold fc;simp[e]);rw[if_neg C];refine⟨fun h=>.inr ⟨J,h1 h⟩,fun h h'=>?_,fun h=>?_⟩
    .rcases h' with h'|⟨_,h'⟩
     .exact U h'
     .exact h2 h h'
    .refine Iff.trans ?_ (h3 h);exact⟨fun h'=>by rcases h' with h'|⟨_,h'⟩;exact absurd h' U;exact h',fun h'=>.inr ⟨J,h'⟩⟩
theorem three{f:aA}(h:jl f)(r:Int):Ec (iN f) (cV f r) (eM f r):=by
 refine⟨fun b p=>J5 _ _ _,fun a c=>K3 _ _ _ _ _ _,fun a c hc he=>?_⟩;have J:=beh_in h a c hc;have hx:=aG J.2;unfold cV ld;rw[iU hx]
 have:dV r false f.blocks[c.toNat].ins=dV r true f.blocks[c.toNat].ins:=by
  refine JI (fun j y hy C=>?_) ?_
  .exact((FE h.aj h.aW.1 h.aW.2 (h.right c.toNat _ hx j y hy)).2 C).2.1
  .unfold eM np at he;rw[iU hx] at he;split at he
   .omega
   .split at he
    .omega
    .split at he
     .omega
     .rename_i hp;simpa[dW,cg] using hp
 rw[this]
theorem SH{f:aA}{r:Int}{a c:Nat}:eM f r a c=0↔gR (bu f a).fin c≠r/\¬ r∈jn (eN f c) a (bu f c)/\dW (bu f c) r=false:=by
 unfold eM np;by_cases h1:(gR (bu f a).fin c==r)=true
 .rw[if_pos h1];have:gR (bu f a).fin c=r:=by simpa using h1
  constructor
  .intro h;omega
  .rintro⟨h,_⟩;exact absurd this h
 .have C:gR (bu f a).fin c≠r:=by simpa using h1
  rw[if_neg h1];by_cases h2:dJ (jn (eN f c) a (bu f c)) r=true
  .rw[if_pos h2];constructor
   .intro h;omega
   .rintro⟨_,h,_⟩;exact absurd (jD.1 h2) h
  .rw[if_neg h2];by_cases h3:dW (bu f c) r=true
   .rw[if_pos h3];constructor
    .intro h;omega
    .rintro⟨_,_,h⟩;rw[h3] at h;cases h
   .rw[if_neg h3];exact⟨fun _=>⟨C,fun h=>h2 (jD.2 h),by simpa using h3⟩,fun _=>rfl⟩
theorem SI{f:aA}{r:Int}{a c:Nat}:eM f r a c=1↔gR (bu f a).fin c≠r/\r∈jn (eN f c) a (bu f c):=by
 unfold eM np;by_cases h1:(gR (bu f a).fin c==r)=true
 .rw[if_pos h1];have:gR (bu f a).fin c=r:=by simpa using h1
  constructor
  .intro h;omega
  .rintro⟨h,_⟩;exact absurd this h
 .have C:gR (bu f a).fin c≠r:=by simpa using h1
  rw[if_neg h1];by_cases h2:dJ (jn (eN f c) a (bu f c)) r=true
  .rw[if_pos h2];exact⟨fun _=>⟨C,jD.1 h2⟩,fun _=>rfl⟩
  .rw[if_neg h2];constructor
   .intro h;split at h<;>omega
   .rintro⟨_,h⟩;exact absurd (jD.2 h) h2
theorem abe{f:aA}{r:Int}{b:Nat}(h:cV f r b true=2):¬ lB f r b:=by
 intro hl;cases hl with
 |here h'=>omega
 |read h' _ _=>omega
 |on h' _ _ _=>omega
theorem Rv{f:aA}{r:Int}{b:Nat}:cV f r b true=0↔dV r true (bu f b).ins=0/\¬ r∈bS (bu f b).fin:=by
 unfold cV ld;by_cases h:dV r true (bu f b).ins=0
 .rw[if_pos h];by_cases h2:dJ (bS (bu f b).fin) r=true
  .rw[if_pos h2];constructor
   .intro h;omega
   .rintro⟨_,h'⟩;exact absurd (jD.1 h2) h'
  .rw[if_neg h2];exact⟨fun _=>⟨h,fun h'=>h2 (jD.2 h')⟩,fun _=>rfl⟩
 .rw[if_neg h];exact⟨fun h'=>absurd h' h,fun h'=>absurd h'.1 h⟩
theorem Gu{f:aA}{r:Int}{b:Nat}:cV f r b true=1↔dV r true (bu f b).ins=1\/(dV r true (bu f b).ins=0/\r∈bS (bu f b).fin):=by
 unfold cV ld;by_cases h:dV r true (bu f b).ins=0
 .rw[if_pos h];by_cases h2:dJ (bS (bu f b).fin) r=true
  .rw[if_pos h2];exact⟨fun _=>.inr ⟨h,jD.1 h2⟩,fun _=>rfl⟩
  .rw[if_neg h2];constructor
   .intro h';omega
   .rintro(h'|⟨_,h'⟩)
    .omega
    .exact absurd (jD.2 h') h2
 .rw[if_neg h];exact⟨fun h'=>.inl h',fun h'=>by rcases h' with h'|⟨h',_⟩;exact h';exact absurd h' h⟩
theorem O8{f:aA}(h:jl f)(r b:Nat)(hi:qp (cB f) (lB f r) b r):lB f r b:=by
 unfold qp at hi;obtain⟨h1,h2,h3⟩:=IK (r:=r) (p:=qo (cB f) (lB f r) b r) (bu f b).ins;have hi:qn r (qo (cB f) (lB f r) b r) (bu f b).ins:=hi;rcases J' r true (bu f b).ins with hf|hf|hf
 .rcases(h3 hf).1 hi with ho|⟨c,hc,C,hg⟩
  .exact .here (Gu.2 (.inr ⟨hf,ho⟩))
  .by_cases X:(r:Int)∈bS (bu f b).fin
   .exact .here (Gu.2 (.inr ⟨hf,X⟩))
   .have h0:=Rv.2 ⟨hf,X⟩;have eK:=beh_in h b c hc;have U:((c.toNat:Nat):Int)=c:=Int.toNat_of_nonneg eK.1;have C:gR (bu f b).fin c≠r:=C;by_cases J:(r:Int)∈jn (eN f c.toNat) b (bu f c.toNat)
    .exact .read h0 hc (SI.2 ⟨by rw[U];exact C,J⟩)
    .rcases hg with hg|hg
     .exact absurd hg J
     .by_cases hp:dW (bu f c.toNat) r=true
      .have h2:cV f r c.toNat true=2:=by
        have:=JH (r:=(r:Int)) (l:=(bu f c.toNat).ins) hp;unfold cV ld;rw[this];rfl
       exact absurd hg (abe h2)
      .exact .on h0 hc (SH.2 ⟨by rw[U];exact C,J,by simpa using hp⟩) hg
 .exact .here (Gu.2 (.inl hf))
 .exact absurd hi (h2 hf)
theorem A9{f:aA}(h:jl f){p:Nat->Prop}{r b:Nat}(C:cV f r b true=1\/(cV f r b true=0/\∃ c∈iN f b,eM f r b c.toNat=1\/(eM f r b c.toNat=0/\p c.toNat))):qp (cB f) p b r:=by
 obtain⟨h1,h2,h3⟩:=IK (r:=r) (p:=qo (cB f) p b r) (bu f b).ins;show qn r (qo (cB f) p b r) (bu f b).ins;rcases C with C|⟨h0,c,hc,C⟩
 .rcases Gu.1 C with hf|⟨hf,X⟩
  .exact h1 hf
  .exact(h3 hf).2 (.inl X)
 .have hf:=(Rv.1 h0).1;have U:=beh_in h b c hc;have J:((c.toNat:Nat):Int)=c:=Int.toNat_of_nonneg U.1;refine(h3 hf).2 (.inr ⟨c,hc,?_⟩);rcases C with C|⟨C,hp⟩
  .have:=SI.1 C;rw[J] at this;exact⟨this.1,.inl this.2⟩
  .have:=SH.1 C;rw[J] at this;exact⟨this.1,.inr hp⟩
theorem Qd{f:aA}(h:jl f){x:Int}:x∈gI f↔0<=x/\(cS (bt (bg f)) f.blocks.length (-1)).getD x.toNat false=true:=by
 unfold gI;rw[List.mem_reverse];exact OL (beh_in h) h.pos
theorem JS{f:aA}(h:jl f)(r b:Nat):bk ((lQ (cB f) f.blocks.length (gI f)).aX.getD b []) r=true↔(cS (bt (bg f)) f.blocks.length (-1)).getD b false=true/\lB f r b:=by
 obtain⟨U,J,_⟩:=IY (lg_ok h) (ord_in h)
 have C:∀ c:Nat,(c:Int)∈gI f↔(cS (bt (bg f)) f.blocks.length (-1)).getD c false=true:=fun c=>by
  rw[Qd h];simp
 constructor
 .intro hb;exact⟨(C b).1 (U.si b r hb),U.snd r (lB f r) (fun c hc=>O8 h r c hc) b hb⟩
 .rintro⟨hc,hl⟩
  have key:∀ b,lB f r b->(b:Int)∈gI f->bk ((lQ (cB f) f.blocks.length (gI f)).aX.getD b []) r=true:=fun b hl=>by
   induction hl with
   |here h1=>exact fun hb=>(J _ r hb).2 (A9 h (.inl h1))
   |read h1 h2 h3=>exact fun hb=>(J _ r hb).2 (A9 h (.inr ⟨h1,_,h2,.inl h3⟩))
   |@on b c h1 h2 h3 _ ih=>
    intro hb;have X:=beh_in h b c h2;have lA:((c.toNat:Nat):Int)=c:=Int.toNat_of_nonneg X.1;have:=Iu (beh_in h) h.pos ((C b).1 hb) c h2;exact(J _ r hb).2 (A9 h (.inr ⟨h1,c,h2,.inr ⟨h3,ih ((C c.toNat).2 this)⟩⟩))
  exact key b hl ((C b).2 hc)
def ie(l:List (Int×Int)):List Int:=l.map (·.1)
theorem Jv{a:Int}:∀ {l:List (Int×Int)},hC a l=none↔¬ a∈ie l
 |[]=>by simp[hC,ie]
 |(k,v)::l=>by
  have ih:=Jv (a:=a) (l:=l);unfold ie at ih ⊢;simp only[hC,List.map_cons,List.mem_cons,not_or];by_cases h:k=a
  .subst h;simp
  .rw[if_neg h,ih];exact⟨fun h'=>⟨fun e=>h e.symm,h'⟩,fun h'=>h'.2⟩
theorem Rw{a c v x:Int}:∀ {l:List (Int×Int)},hC a l=some x->hC a (l++[(c,v)])=some x
 |[],h=>by simp[hC] at h
 |(k,w)::l,h=>by
  simp only[hC,List.cons_append] at h ⊢;split
  .rename_i e;rw[if_pos e] at h;exact h
  .rename_i e;rw[if_neg e] at h;exact Rw h
theorem Rx{c v:Int}:∀ {l:List (Int×Int)},hC c l=none->hC c (l++[(c,v)])=some v
 |[],_=>by simp[hC]
 |(k,w)::l,h=>by
  simp only[hC,List.cons_append] at h ⊢;split
  .rename_i e;rw[if_pos e] at h;cases h
  .rename_i e;rw[if_neg e] at h;exact Rx h
theorem vE.app{l:List (Int×Int)}{b c v:Int}{p:List Int}(h:vE l b p):vE (l++[(c,v)]) b p:=by
 induction h with
 |nil=>exact .nil
 |cons h1 h2 _ ih=>exact .cons h1 (Rw h2) ih
theorem I7:∀ {n:Nat} {l:List Int},l.Nodup->(∀ x∈l,0<=x/\x.toNat<n)->l.length<=n
 |0,l,_,h=>by
  cases l with
  |nil=>simp
  |cons a l=>have:=h a oS;omega
 |n+1,l,hd,h=>by
  by_cases hm:(n:Int)∈l
  .have h1:=I7 (n:=n) (l:=l.erase n) (hd.erase _) fun x hx=>by
    have C:=(hd.mem_erase_iff).1 hx;have:=h x C.2;have:=C.1;omega
   rw[List.length_erase_of_mem hm] at h1;omega
  .have h1:=I7 (n:=n) (l:=l) hd fun x hx=>by
    have:=h x hx;have:x≠n:=fun e=>hm (e▸hx);omega
   omega
structure BF(f:aA)(r b0:Int)(eJ:List (Int×Int))(op:List Int):Prop where
 Cn:∀ c∈ie eJ,0<=c/\c.toNat<f.blocks.length
 nd:(ie eJ).Nodup
 ch:∀ c∈ie eJ,∃ p:List Int,vE eJ c p/\p.length<=eJ.length/\GP (iN f) (cV f r) (eM f r) b0 p.reverse c
 qu:∀ c∈op,c∈ie eJ
 done:∀ c∈ie eJ,c∈op\/(cV f r c.toNat true≠1/\(cV f r c.toNat true=0->∀ d∈iN f c.toNat,eM f r c.toNat d.toNat≠1/\(eM f r c.toNat d.toNat=0->d∈ie eJ)))
 Iq:b0∈ie eJ
theorem yY(l:List (Int×Int))(c v:Int):ie (l++[(c,v)])=ie l++[c]:=by simp[ie]
theorem BF.len{f:aA}{r b0:Int}{eJ:List (Int×Int)}{op:List Int}(h:BF f r b0 eJ op):eJ.length<=f.blocks.length:=by
 have:=I7 h.nd h.Cn;simpa[ie] using this
theorem BF.init{f:aA}{r b0:Int}(h0:0<=b0/\b0.toNat<f.blocks.length):BF f r b0 [(b0, -1)] [b0]:=by
 refine⟨fun c hc=>?_,by simp[ie],fun c hc=>?_,fun c hc=>hc,fun c hc=>.inl hc,by simp[ie]⟩
 .simp[ie] at hc;subst hc;exact h0
 .simp[ie] at hc;subst hc;exact⟨[c],.cons oG (by simp[hC]) .nil,oS,.one⟩
theorem BF.push{f:aA}(hf:jl f){r b0 b c:Int}{eJ:List (Int×Int)}{op:List Int}(h:BF f r b0 eJ op)(hb:b∈ie eJ)(yL:cV f r b.toNat true=0)(hc:c∈iN f b.toNat)(he:eM f r b.toNat c.toNat=0)(hn:hC c eJ=none):
 BF f r b0 (eJ++[(c,b)]) (op++[c]):=by
 have X:¬ c∈ie eJ:=Jv.1 hn;have C:=beh_in hf _ c hc;have J:∀ x,x∈ie eJ->x∈ie (eJ++[(c,b)]):=fun x hx=>by rw[yY];simp[hx]
 refine⟨fun x hx=>?_,?_,fun x hx=>?_,fun x hx=>?_,fun x hx=>?_,J _ h.Iq⟩
 .rw[yY,List.mem_append,List.mem_singleton] at hx;rcases hx with hx|rfl
  .exact h.Cn x hx
  .exact C
 .rw[yY,List.nodup_append];refine⟨h.nd,oS,fun a ha b' U e=>?_⟩;simp at U;subst e U;exact X ha
 .rw[yY,List.mem_append,List.mem_singleton] at hx;rcases hx with hx|rfl
  .obtain⟨p,h1,h2,h3⟩:=h.ch x hx;exact⟨p,h1.app,by simp;omega,h3⟩
  .obtain⟨p,h1,h2,h3⟩:=h.ch b hb;refine⟨x::p,.cons oG (Rx hn) h1.app,by simp;omega,?_⟩;rw[List.reverse_cons];exact .snoc h3 yL hc he
 .rw[List.mem_append,List.mem_singleton] at hx;rcases hx with hx|rfl
  .exact J _ (h.qu x hx)
  .rw[yY];simp
 .rw[yY,List.mem_append,List.mem_singleton] at hx;rcases hx with hx|rfl
  .rcases h.done x hx with h1|⟨h1,h2⟩
   .exact .inl (by simp[h1])
   .exact .inr ⟨h1,fun h0 d hd=>⟨(h2 h0 d hd).1,fun he=>J _ ((h2 h0 d hd).2 he)⟩⟩
  .exact .inl oS
theorem BF.pop{f:aA}{r b0 b:Int}{eJ:List (Int×Int)}{op:List Int}(h:BF f r b0 eJ (b::op))(hb:cV f r b.toNat true≠1/\(cV f r b.toNat true=0->∀ d∈iN f b.toNat,eM f r b.toNat d.toNat≠1/\(eM f r b.toNat d.toNat=0->d∈ie eJ))):
 BF f r b0 eJ op:=by
 refine⟨h.Cn,h.nd,h.ch,fun c hc=>h.qu c (by simp[hc]),fun c hc=>?_,h.Iq⟩;rcases h.done c hc with h1|h1
 .rcases List.mem_cons.1 h1 with rfl|h1
  .exact .inr hb
  .exact .inl h1
 .exact .inr h1
theorem BF.none{f:aA}{r b0:Int}{eJ:List (Int×Int)}(h:BF f r b0 eJ []):¬ lB f r b0.toNat:=by
 refine Xy (V:=fun c=>(c:Int)∈ie eJ) (fun b hb=>?_) ?_
 .rcases h.done b hb with h1|⟨h1,h2⟩
  .simp at h1
  .simp only[bx] at h1 h2;refine⟨h1,fun h0 d hd=>⟨(h2 h0 d hd).1,fun he=>?_⟩⟩;have hm:=(h2 h0 d hd).2 he;have:=(h.Cn d hm).1
   rwa[Int.toNat_of_nonneg this]
 .have:=(h.Cn b0 h.Iq).1;rw[Int.toNat_of_nonneg this];exact h.Iq
def za(f:aA)(b r:Int)(way:List Int):Prop:=zA (iN f) (cV f r) (eM f r) way/\(∃ t,way=b::t)/\way.length<=f.blocks.length+1
theorem BF.found{f:aA}{r b0 b:Int}{eJ:List (Int×Int)}{op:List Int}(h:BF f r b0 eJ op){p:List Int}(hl:p.length<=eJ.length)(hg:GP (iN f) (cV f r) (eM f r) b0 p.reverse b)(C:cV f r b.toNat true=1):za f b0 r p.reverse:=by
 refine⟨?_,?_,?_⟩
 .have:=hg.V0 [] C
  rwa[List.append_nil] at this
 .exact hg.head
 .have:=h.len;simp;omega
theorem BF.acR{f:aA}{r b0 b c:Int}{eJ:List (Int×Int)}{op:List Int}(h:BF f r b0 eJ op){p:List Int}(hl:p.length<=eJ.length)(hg:GP (iN f) (cV f r) (eM f r) b0 p.reverse b)(C:cV f r b.toNat true=0)(hc:c∈iN f b.toNat)(he:eM f r b.toNat c.toNat=1):
 za f b0 r (p.reverse++[c]):=by
 refine⟨hg.V0 [c] ⟨C,hc,.inl ⟨he,rfl⟩⟩,?_,?_⟩
 .obtain⟨t,ht⟩:=hg.head;exact⟨t++[c],by rw[ht];rfl⟩
 .have:=h.len;simp;omega
end Go.Argus
section
open Go Go.Abs Go.Proofs Go.Argus
namespace Go.Abs
section
variable{P:Program}{m:Mem}{nx:Nat}
def Bd(P:Program)(f:FuncId)(args:List D)(de:D->Prop):Prop:=
 enterOk P f=true/\(∀ a∈args,Tr a)/\∀ F w vs,(∀ b,F b->b<w.heap.size)->Rs F noRows w args vs->
  Calls P f vs w fun e w'=>∃ v r,de r/\e=.returned v/\R F noRows w' r v/\Kept w w'
theorem Zo{fn:Func}(J:P.follows .mixedOrders=true){f:FuncId}{c:Code}(hf:mE P f fn c){args:List D}(hn:Nat.ble args.length fn.ntmps=true)(ht:∀ a∈args,Tr a){de:D->Prop}(hr:∀ r,de r->Tr r)
 (h:AW P noY true c (retQ P fn.results.toList fun d _=>de d) ⟨envOf args,fun _=>none,0⟩):Bd P f args de:=
 ⟨hf.he,ht,fun F w vs hF hR=>(AT J hf.hf hf.hb hf.ap hn h (fun _ _ _ _ _ h=>h.elim) (FL hF) (fun _ _=>rfl) hR).mono fun e w' hp=>by
  obtain⟨v,d,st',β',h1,hd,h3,h4,h5,C,U,X⟩:=hp
  exact⟨v,d,hd,h1,(hr d hd).Bk h3,FB C⟩⟩
theorem X6{f:FuncId}{args:List D}{de:D->Prop}(hc:Bd P f args de):ACalls P f args m nx (fun d m' nx'=>de d/\m'=m/\nx'=nx):=
 ⟨hc.1,fun F β w vs hm C hR=>(hc.2.2 (owned F β) w vs (fun b hb=>owned_lt hm hb) ⟨hR.1,fun k d v hd hv=>hc.2.1 d (cx hd) F β w v (hR.2 k d v hd hv)⟩).mono
  fun e w' ⟨v,r,hp,he,hr,hk⟩=>⟨v,r,m,nx,β,he,⟨hp,rfl,rfl⟩,hm.kept hk,C,hr.lift fun b hb=>owned_free hb,kept_step hk,bP _,fun i _ h=>h⟩⟩
end
theorem acQ{id i:Nat}{Q:Exit->St->Prop}{s:St}(C:i≠id)(h:Q (.exit i) s):blockQ id Q (.exit i) s:=by simp only[blockQ,if_neg C];exact h
end Go.Abs
namespace Go.Proofs.Tryz.K
theorem WK{f:FuncId}{fn:Func}{c:Code}(hf:mE Tryz.prog f fn c){args:List D}(ht:∀ a∈args,Tr a){de:D->Prop}(hr:∀ r,de r->Tr r)(h:AW Tryz.prog noY true c (retQ Tryz.prog fn.results.toList fun d _=>de d) ⟨envOf args,fun _=>none,0⟩)(hn:Nat.ble args.length fn.ntmps=true:=by kernel_rfl):Bd Tryz.prog f args de:=Zo mixed hf hn ht hr h
end Go.Proofs.Tryz.K
namespace Go.Argus
def pz(f:aA)(b r:Int)(d:D):Prop:=
 if dS f=0 then
  if(jf f.blocks.length b=true/\0<=r/\r<f.aj.length) then
   ((cS (bt (bg f)) f.blocks.length (-1)).getD b.toNat false=true/\lB f r b.toNat/\∃ way,d=.tup [aB way,B true,I 0]/\za f b r way)\/
   (¬ ((cS (bt (bg f)) f.blocks.length (-1)).getD b.toNat false=true/\lB f r b.toNat)/\d=.tup [.z,B false,I 0])
  else d=.tup [.z,B false,I 1]
 else d=.tup [.z,B false,I (dS f)]
theorem R8{f:aA}{b r:Int}(d:D)(h:pz f b r d):Tr d:=by
 unfold pz at h;split at h
 .split at h
  .rcases h with⟨_,_,way,rfl,_⟩|⟨_,rfl⟩
   .exact .tup (.cons (dg _) (.cons (.s _) (.cons (.s _) .nil)))
   .exact .tup (.cons .z (.cons (.s _) (.cons (.s _) .nil)))
  .subst h;exact .tup (.cons .z (.cons (.s _) (.cons (.s _) .nil)))
 .subst h;exact .tup (.cons .z (.cons (.s _) (.cons (.s _) .nil)))
end Go.Argus
namespace Go.Proofs.Tryz.K
set_option maxRecDepth 10000
set_option maxHeartbeats 1000000 in
theorem abF{f:aA}{b r:Int}(C:dS f≠0):Bd prog 28 [.agg (aD f),I b,I r] (pz f b r):=by
 have U:=QF C;refine WK LU (.cons (.agg (fu f)) (.cons (.s _) (.cons (.s _) .nil))) R8 ?_;have J:∀ d,d=.tup [.z,B false,I (dS f)]->pz f b r d:=fun d hd=>by unfold pz;rw[if_neg C];exact hd
 generalize dS f=e at U C J;have fQ:(e !=0)=true:=by simpa using C
 rw[Vs];refine aw ?_;refine aJ ?_;refine ab (aI (bw [(0,aD f,26)] eH (l:=[(1,I b),(2,I r),(3,.pt (aD f))]) eH) (ao ?_));refine SS ?_;refine cl U ?_;refine SS ?_;refine Vt ?_;refine au ?_;refine ab (aC (ao ?_));refine af ?_;refine ab (gU ?_);refine aC (ao ?_);refine aJ ?_;exact ab (cK (DG rfl rfl rfl (J _ rfl)))
set_option maxHeartbeats 2000000 in
theorem acG{f:aA}{b r:Int}(cW:dS f=0):Bd prog 28 [.agg (aD f),I b,I r] (pz f b r):=by
 have tE:=Km cW
 have hf:iV f=true:=by
  unfold dS at cW;split at cW
  .assumption
  .cases cW
 have aY:=vC hf;obtain⟨n,hn⟩:∃ n,f.blocks.length=n:=⟨_,rfl⟩
 have mO:n<=1200:=hn▸aY.lC;have hrg:=aY.aj;have ik:=aY.pos;refine WK LU (.cons (.agg (fu f)) (.cons (.s _) (.cons (.s _) .nil))) R8 ?_;have mW:=mW (f:=f) (beh:=bg f) (ahd:=bX f.blocks) (c:=b9 (cS (bt (bg f)) f.blocks.length (-1))) (.sl (.map fun _=>.s _)) rfl (b:=b)
 change PCall _ _ [.pt (vD f),_] _ at mW
 rw[Vs];refine aw ?_;refine aJ ?_;refine ab (aI (bw [(0,aD f,26)] eH (l:=[(1,I b),(2,I r),(3,.pt (aD f))]) eH) (ao ?_));refine SS ?_;refine cl tE ?_;refine SS ?_;refine Vu ?_;refine au ?_;refine ab (aC (ao ?_));refine af ?_;refine ab (hP (b7 (aC (ao ?_))));refine af ?_;refine cl mW ?_;refine aE ?_;refine au ?_;refine ab (cH rfl (fun hp=>?_) fun hp=>b7 (aC (ao ?_)))
 .refine aC (ao ?_);refine au ?_;refine ab (cK (DG rfl rfl rfl ?_));unfold pz;rw[if_pos cW,if_neg]
  .rfl
  .rintro⟨h1,h2,h3⟩;rw[h1] at hp;simp at hp;omega
 have bl:jf f.blocks.length b=true/\0<=r/\r<f.aj.length:=by
  revert hp;cases jf f.blocks.length b<;>simp<;>omega
 clear hp;have hb:=nV.1 bl.1;obtain⟨X,rfl⟩:=cN hb.1;obtain⟨U,rfl⟩:=cN bl.2.1;have u4:X<n:=by omega
 have Cl:=Cl (f:=f) (n:=n) aY hn (c:=b9 (cS (bt (bg f)) f.blocks.length (-1))) (.sl (.map fun _=>.s _)) rfl
 change PCall _ _ [.pt (vD f)] _ at Cl
 have mQ:=JS aY U X;have r9:=lg_ok aY;have lV:=ord_in aY;have oF:=vn (w:= -1) (beh_in aY) ik;rw[hn] at mQ r9 lV oF;have hI:=(IY r9 lV).1;have hA:=hI.ok.aX;have yD:=hI.ok.ln;clear hI
 have hW:∀ d,(((cS (bt (bg f)) f.blocks.length (-1)).getD X false=true/\lB f U X/\∃ way,d=.tup [aB way,B true,I 0]/\za f X U way)\/
  (¬ ((cS (bt (bg f)) f.blocks.length (-1)).getD X false=true/\lB f U X)/\d=.tup [.z,B false,I 0]))->pz f X U d:=fun d hd=>by
  unfold pz;rw[if_pos cW,if_pos bl];simpa only[bx] using hd
 have pM:vD f=cv f (bg f) (bX f.blocks) (b9 (cS (bt (bg f)) f.blocks.length (-1))):=rfl;rw[hn] at hW pM;generalize (lQ (cB f) n (gI f)).aX=A at*
 generalize (lQ (cB f) n (gI f)).out=C at*
 rw[pM] at Cl mW ⊢;generalize cS (bt (bg f)) n (-1)=cnt at*
 have H8:X<A.length:=by omega
 have Fl:A[X]? =some A[X]:=aG H8;have lY:A[X].length=19:=(hA _ (bO H8)).1;have WL:=(hA _ (bO H8)).2;have WM:True->A.getD X []=A[X]:=fun _=>getD_some Fl;have Vq:∀ w∈A,w.length=19:=fun w hw=>(hA w hw).1;have eQ:cnt[X]? =some cnt[X]:=aG oG;have zY:True->cnt.getD X false=cnt[X]:=fun _=>getD_some eQ;rw[WM trivial] at mQ;rw[zY trivial] at mQ hW;generalize cnt[X]=cb at*
 generalize A[X]=w at*
 have Fa:=Fa (w:=w) (m:=U) lY oG;have Vv:=F6 WL U;rw[<- Vv] at mQ;clear Vv;generalize ku w U=hw at Fa mQ;refine SS ?_;refine cl Cl ?_;refine aV ?_;refine ab (aC (ao ?_));refine aE ?_;refine af ?_;refine bE rfl rfl (R3 rfl rfl V.h V.h oN oN) (fun hc=>⟨ak,(R4 V.h oN oN oG)⟩) ?_;refine bE rfl rfl (ma rfl V.h V.h (PA oN)) (fun hc=>⟨ak,(me V.h V.h oP)⟩) ?_;refine SS ?_;refine gc Fa ?_;refine af ?_;refine ab (cH rfl (fun hp=>?_) fun hp=>b7 (aw ?_))
 .refine aC (ao ?_);refine au ?_;refine ab (cK (DG rfl rfl rfl (hW _ (.inr ⟨?_,rfl⟩))));rintro⟨h1,h2⟩;have:=(mQ.2 ⟨h1,h2⟩)
  rw[h1,this] at hp;simp at hp
 have ez:cb=true/\hw=true:=by
  revert hp;cases cb<;>cases hw<;>simp
 obtain⟨rfl,rfl⟩:=ez;have WN:lB f U X:=(mQ.1 rfl).2;have hW:∀ way,za f X U way->pz f X U (.tup [aB way,B true,I 0]):=fun way hg=>hW _ (.inl ⟨rfl,WN,way,rfl,hg⟩);clear mQ hp Fa Cl Fl lY WL WM zY eQ H8 hA yD Vq mW tE;refine aV ?_;refine cJ (iA (d:=.mp _) (cs':=[_]) rfl rfl rfl rfl rfl) ak (dQ V.h V.h (by first|(simp;done)|exact⟨rfl,bA rfl⟩|(simp;omega)) rfl) ?_;have xX:putD (.int .i64 (X:Int)) (I (-1)) (cm [])=cm [((X:Int), -1)]:=R7 rfl;refine ab (aI (aP (l:=[(1,I X),(2,I U),(9,.pt (cv f (bg f) (bX f.blocks) (b9 cnt))),(13,.rp 2 0)]) (ml:=[(1,.map (cm [((X:Int), -1)])),(2,.cells [.mp 1] 120)]) eH ⟨?_,rfl,trivial⟩) (ao ?_))
 .rw[<- xX];rfl
 refine af ?_;refine ab (aC (aw ?_));refine au ?_;have fJ:=beh_in aY;have aij:BF f U X [((X:Int), -1)] [(X:Int)]:=BF.init ⟨oG,by simp;omega⟩
 refine ab (bV (fun s=>False) (cI (α:=List (Int×Int)×List Int×Nat×Nat×Mem×Nat) (fun s=>⟨az [(2,I U),(9,.pt (cv f (bg f) (bX f.blocks) (b9 cnt))),(13,.rp 2 0),(14,.fn (.func 83) [] [.rp 2 0]),(15,.rs s.2.2.1 s.2.2.2.1 s.2.1.length)],s.2.2.2.2.1,s.2.2.2.2.2⟩)
  (fun s=>BF f U X s.1 s.2.1/\s.2.1.length<=s.1.length/\3<=s.2.2.1/\s.2.2.1<s.2.2.2.2.2/\s.2.2.2.2.1 1=some (.map (cm s.1))/\s.2.2.2.2.1 2=some (.cells [.mp 1] 120)/\∃ cs,s.2.2.2.2.1 s.2.2.1=some (.cells cs 3)/\cs.drop s.2.2.2.1=s.2.1.map I) (fun s=>2*(n - s.1.length)+s.2.1.length)
  ([((X:Int), -1)],[(X:Int)],3,0,bm [(1,.map (cm [((X:Int), -1)])),(2,.cells [.mp 1] 120),(3,.cells [I X] 3)],4)
  (aP eH eH) ⟨aij,bP _,bP _,Nat.lt_succ_self _,rfl,rfl,_,rfl,rfl⟩ ?_) ?_)
 .rintro⟨eJ,op,q,off,m,nx⟩ ⟨kM,jy,rU,nR,m1,m2,cs,mq,nI⟩;dsimp only at kM jy rU nR m1 m2 mq nI ⊢;have cy:=kM.len;have ay:=m2;have cQ:=mq;refine SS ?_;refine aF (Gx rfl cQ) ak V.h ?_;refine SS ?_;refine ab ⟨_,rfl,fun h=>?_,fun h=>?_⟩
  .cases op with
   |nil=>simp at h
   |cons b op=>
    have fT:=kM.qu b oS;have mV:=kM.Cn b fT;obtain⟨J,rfl⟩:=cN mV.1;have EG:J<n:=by rw[<- hn];exact mV.2
    have hx:f.blocks[J]? =some f.blocks[J]:=aG oG;have bM:f.blocks[J]∈f.blocks:=bO _;generalize f.blocks[J]=x at hx bM;have H9:cV f U J true=ld x U true:=by unfold cV;rw[iU hx]
    have kd:cs.drop off=I J::op.map I:=nI;have aik:((J:Int)::op).length=op.length+1:=rfl;have nQ:=aY.blk x bM;have yG:=yG (f:=f) (beh:=bg f) (ahd:=bX f.blocks) (c:=b9 cnt) (.sl (.map fun _=>.s _)) rfl (b:=(J:Int)) (r:=(U:Int)) (p:=true) (k:=J) rfl hx nQ.len (fun y hy=>(nQ.ins y hy).ar) nQ.fin.a1 nQ.fin.a2;rw[<- H9] at yG;obtain⟨p,nM,g9,H'⟩:=kM.ch _ fT;refine ws ?_;refine SS ?_;refine aF (Gw rfl rfl cQ V.h V.h) ak ⟨V.h,oG,oG⟩ ?_;refine af ?_;refine ab (aC (ao ?_));refine au ?_;refine cl yG ?_;refine ab (l8 (ao ?_));have f3:=J5 (bu f J) U true
    change cV f U J true=0\/cV f U J true=1\/cV f U J true=2 at f3
    obtain⟨fa,yL⟩:∃ fa,cV f U J true=fa:=⟨_,rfl⟩
    rw[yL] at f3;refine af ?_;refine ab (av rfl (fun hp=>aw ?_) fun hp=>ao ?_)
    .have hp:cV f U J true=1:=by simpa using hp
     have qO:=kM.found g9 H' (by rw[bx];exact hp);refine af ?_;refine kZ (WJ (r:=2) (mi:=1) (l:=eJ) (p:=p) oG oG m2 m1 nM oG) rfl dd fun d m' nx' hq=>?_;obtain⟨q',rfl,fp,Ap,ym,_⟩:=hq;refine au ?_;refine ab (aI (ni ym (l:=[(6,aB p.reverse),(7,B true),(8,I 0)]) ⟨?_,rfl,rfl,trivial⟩) (aT (bH (aL (bR (aL (DG rfl rfl rfl (hW _ qO))))))));exact(j0 (by rw[c3];simp)).trans oS
    .have fC:¬ cV f U J true=1:=by simpa using hp
     refine af ?_;refine ab (av rfl (fun hp=>acs (acQ oC (acu (xm ?_)))) fun hp=>lL (aw ?_))
     .have hp:cV f U J true=2:=by simpa using hp
      have LV:=kM.pop ⟨by rw[bx];omega,fun h=>by rw[bx] at h;omega⟩;refine SS ?_;refine aF (FZ rfl cQ V.h V.h rfl rfl) ak ⟨⟨V.h,rfl⟩,oG,oG,oG⟩ ?_;refine SS ?_;refine ab (aK (eJ,op,q,off+1,m,nx) (aq ⟨rfl,rfl,rfl,rfl,?_,trivial⟩) ⟨LV,oM,rU,nR,m1,m2,cs,mq,?_⟩ oM)
      .show D.rs q (off+1*1) _=D.rs q (off+1) op.length;congr 1;rw[aik];omega
      .rw[<- List.drop_drop,kd];rfl
     .have hp:¬ cV f U J true=2:=by simpa using hp
      have h0:cV f U J true=0:=by rw[<- yL] at f3;omega
      have H4:=qX hx;have Vw:=fJ J;have ail:=Gk aY J;have Fi:(bg f)[J]? =some (bt (bg f) J):=CM (by simp[bg];omega);have Hq:iN f J=bt (bg f) J:=rfl;generalize ly:bt (bg f) J=l at Fi ail Vw H4 Hq;refine aE ?_
      refine ab (dM (α:=Nat×List (Int×Int)×List Int×Nat×Nat×Mem×Nat)
       (fun s=>⟨az [(2,I U),(9,.pt (cv f (bg f) (bX f.blocks) (b9 cnt))),(13,.rp 2 0),(14,.fn (.func 83) [] [.rp 2 0]),(15,.rs s.2.2.2.1 s.2.2.2.2.1 (s.2.2.1.length+1)),(16,I J),(97,aB l),(98,I l.length),(99,I s.1)],s.2.2.2.2.2.1,s.2.2.2.2.2.2⟩)
       (fun s=>s.1<=l.length/\BF f U X s.2.1 ((J:Int)::s.2.2.1)/\s.2.2.1.length+1<=s.2.1.length/\3<=s.2.2.2.1/\s.2.2.2.1<s.2.2.2.2.2.2/\s.2.2.2.2.2.1 1=some (.map (cm s.2.1))/\s.2.2.2.2.2.1 2=some (.cells [.mp 1] 120)/\(∃ cs,s.2.2.2.2.2.1 s.2.2.2.1=some (.cells cs 3)/\cs.drop s.2.2.2.2.1=I J::s.2.2.1.map I)/\
        (∀ d∈l.take s.1,eM f U J d.toNat≠1/\(eM f U J d.toNat=0->d∈ie s.2.1))/\2*(n - s.2.1.length)+s.2.2.1.length<=2*(n - eJ.length)+op.length) (fun s=>l.length - s.1)
       (0,eJ,op,q,off,m,nx) (aq eH) ⟨Nat.zero_le _,kM,by simp only;omega,rU,nR,m1,m2,⟨cs,mq,kd⟩,fun d hd=>by simp at hd,bP _⟩ ?_)
      clear kM jy rU nR m1 m2 mq nI cy ay cQ kd fT nM H';rintro⟨j,xI,Ar,q,off,m,nx⟩ ⟨hj,kM,jy,rU,nR,m1,m2,⟨cs,mq,kd⟩,As,hM⟩;dsimp only at hj kM jy rU nR m1 m2 mq kd As hM ⊢;have cy:=kM.len;have fT:=kM.qu (J:Int) oS;obtain⟨p,nM,g9,H'⟩:=kM.ch _ fT;refine SS ?_;refine ab ⟨_,rfl,fun h=>?_,fun h=>?_⟩
      .have cF:j<l.length:=by simpa using h
       have yH:l[j]? =some l[j]:=aG cF;have sa:=bO cF
       have eY:∀ d,d∈l.take (j+1)->d∈l.take j\/d=l[j]:=fun d hd=>by
        rw[List.take_add_one,yH] at hd;rcases List.mem_append.1 hd with h|h
        .exact .inl h
        .exact .inr (by simpa using h)
       generalize l[j]=cc at yH sa eY;have ez:=Vw cc sa;obtain⟨cn,rfl⟩:=cN ez.1;have eK:cn<n:=by rw[<- hn];exact ez.2
       have wI:f.blocks[cn]? =some f.blocks[cn]:=aG oG;have iy:f.blocks[cn]∈f.blocks:=bO _;generalize f.blocks[cn]=y at wI iy;have Fj:(J:Int)∈eN f cn:=yU.2 ⟨J,rfl,oG,x,hx,(cn:Int),by rw[<- H4];exact sa,oS⟩
       have An:(bX f.blocks)[cn]? =some (eN f cn):=by
        unfold eN;exact AH rfl oG
       have H5:=aY.blk y iy;have wE:=wE (f:=f) (beh:=bg f) (ahd:=bX f.blocks) (c:=b9 cnt) (.sl (.map fun _=>.s _)) rfl (a:=(J:Int)) (b:=(cn:Int)) (r:=(U:Int)) (ka:=J) (kb:=cn) rfl rfl hx wI An H5.len (fun z hz=>(aY.xQ wI hz).1) Fj (by have:=(aY.ends x bM).wh;omega)
       have lz:np x y (eN f cn) (J:Int) (cn:Int) (U:Int)=eM f U J cn:=by
        unfold eM;rw[iU hx,iU wI]
       rw[lz] at wE;have e3:=K3 x y (eN f cn) (J:Int) (cn:Int) (U:Int);rw[lz] at e3;clear lz;refine ws ?_;refine au ?_;refine er ?_;refine aJ ?_;refine cl wE ?_;refine ab (show AW _ _ _ _ _ _ from nY (ao ?_));obtain⟨fe,hfe⟩:∃ fe,eM f U J cn=fe:=⟨_,rfl⟩
       rw[hfe] at e3;refine af ?_;refine ab (av rfl (fun hp=>aw ?_) fun hp=>ao ?_)
       .have hp:eM f U J cn=1:=by simpa using hp
        have qO:=kM.acR g9 H' (by rw[bx];exact h0) (by rw[bx,Hq];exact sa) (by rw[bx,bx];exact hp);refine af ?_;refine kZ (WJ (r:=2) (mi:=1) (l:=xI) (p:=p) oG oG m2 m1 nM oG) rfl dd fun d m' nx' hq=>?_;obtain⟨q',rfl,fp,Ap,ym,_⟩:=hq;have ay:=ym;show AOps _ _ _ _ _ _ _ ⟨up _ 112 _,m',nx'⟩ _;have oQ:(p.reverse.map I).length=p.length:=by simp
        refine bK ?_;refine ab (aI (ni (cs:=p.reverse.map I++[I cn]) (e:=3) (i:=nx'+1) (up_same _ _ _) (l:=[(6,aB (p.reverse++[(cn:Int)])),(7,B true),(8,I 0)]) ⟨?_,rfl,rfl,trivial⟩) (aT (bH (bR (bR (aL (DG rfl rfl rfl (hW _ qO))))))));exact(j0 (by rw[c3];simp)).trans oS
       .have fC:¬ eM f U J cn=1:=by simpa using hp
        refine af ?_;refine ab (av rfl (fun hp=>ao ?_) fun hp=>?_)
        .have M6:eM f U J cn=0:=by simpa using hp
         have ay:=m2;refine af ?_;refine aF (Jb rfl m1 rfl GY (abP TY _ _)) dd ⟨GZ,DL u9 _,J4 u9 _⟩ ?_;refine aV ?_;refine er ?_;refine af ?_;refine ab (av rfl (fun hs=>ao ?_) fun hs=>?_)
         .have gF:hC (cn:Int) xI=none:=by
           cases e:hC (cn:Int) xI with
           |none=>rfl
           |some v=>rw[e] at hs;simp at hs
          have T1:=kM.push aY fT (by rw[bx];exact h0) (by rw[bx,Hq];exact sa) (by rw[bx,bx];exact M6) gF;have xX:=R7 (v:=(J:Int)) gF;have aim:=T1.len;rw[List.length_append,List.length_singleton] at aim;refine au ?_;refine cJ (RK rfl m1 rfl rfl GY) dd ⟨GZ,DL u9 _,J4 u9 _⟩ ?_;refine ab (gv ?_);have ay:=mq;have alG:Ar.length<=1200:=by omega
          have oQ:cs.length=off+(Ar.length+1):=by have:=congrArg List.length kd;simp at this;omega
          refine au ?_;refine rH (rq rfl (ag oG (ag oG ay)) rfl V.h V.h (pP (up_same _ _ _) rfl) rfl) ak ⟨V.h,rfl,(by first|omega|exact bA rfl|(simp;done)|(simp;omega)),oC,(by first|rfl|(simp;done)|(simp;omega)),(by unfold maxLen;first|omega|(simp;omega)),(by rw[b3];first|omega|(simp;omega)),(by first|(simp;done)|(simp;omega))⟩ ?_;refine SS ?_;refine ab ?_;show AOps _ _ _ _ _ _ _ _ _;refine af ?_;refine ab (aK (j+1,xI++[((cn:Int),(J:Int))],Ar++[(cn:Int)],nx+1,0,_,nx+2) (aq ⟨rfl,rfl,rfl,rfl,?_,rfl,rfl,rfl,rfl,trivial⟩) ⟨oM,T1,by simp only[List.length_append,List.length_singleton];omega,oM,oM,?_,?_,⟨_,up_same _ _ _,?_⟩,fun d hd=>?_,by simp only[List.length_append,List.length_singleton];omega⟩ oM)
          .show D.rs _ 0 _=D.rs _ 0 _;simp
          .dsimp only;rw[<- xX];exact ag oG (ag oG (ag oG (up_same _ _ _)))
          .dsimp only;exact ag oG (ag oG (ag oG (ag oG m2)))
          .dsimp only;rw[List.drop_zero,kd,List.map_append];rfl
          .rw[yY];rcases eY d hd with h|h
           .exact⟨(As d h).1,fun he=>List.mem_append_left _ ((As d h).2 he)⟩
           .subst h;exact⟨by rw[bx];omega,fun _=>by simp⟩
         .have bl:(cn:Int)∈ie xI:=by
           apply Classical.byContradiction;intro hc;rw[Jv.2 hc] at hs;simp at hs
          refine ct ?_;show AOps _ _ _ _ _ _ _ _ _;refine af ?_;refine ab (aK (j+1,xI,Ar,q,off,m,nx) (aq eH) ⟨oM,kM,jy,rU,nR,m1,m2,⟨cs,mq,kd⟩,fun d hd=>?_,hM⟩ oM);rcases eY d hd with h|h
          .exact As d h
          .subst h;exact⟨by rw[bx];omega,fun _=>bl⟩
        .have M6:¬ eM f U J cn=0:=by simpa using hp
         refine ct ?_;show AOps _ _ _ _ _ _ _ _ _;refine af ?_;refine ab (aK (j+1,xI,Ar,q,off,m,nx) (aq eH) ⟨oM,kM,jy,rU,nR,m1,m2,⟨cs,mq,kd⟩,fun d hd=>?_,hM⟩ oM);rcases eY d hd with h|h
         .exact As d h
         .subst h;exact⟨by rw[bx];exact fC,fun he=>absurd (by rw[bx] at he;exact he) M6⟩
      .have bh:¬ j<l.length:=by simpa using h
       rw[dn oG] at As;have LV:=kM.pop ⟨by rw[bx,h0];omega,fun _=>by rw[bx,Hq];exact As⟩;have ay:=mq;show AOps _ _ _ _ _ _ _ _ _;refine SS ?_;refine aF (FZ rfl ay V.h V.h rfl rfl) ak ⟨⟨V.h,rfl⟩,oG,oG,oG⟩ ?_;refine SS ?_;refine ab (aK (xI,Ar,q,off+1,m,nx) (aq ⟨rfl,rfl,rfl,rfl,?_,trivial⟩) ⟨LV,oM,rU,nR,m1,m2,cs,mq,?_⟩ oM)
       .show D.rs q (off+1*1) _=D.rs q (off+1) Ar.length;congr 1;omega
       .rw[<- List.drop_drop,kd];rfl
  .have:op=[]:=by
    cases op with
    |nil=>rfl
    |cons b op=>simp at h
   subst this;have:=kM.none;rw[bx] at this;exact absurd WN this
 .intro s hs;exact hs.elim
end Go.Proofs.Tryz.K
namespace Go.Argus
def oc(f:aA)(way:List Int)(i:Nat):Bool:=
 jf f.blocks.length (way.getD i 0)&&((cS (bt (bg f)) f.blocks.length (-1)).getD (way.getD i 0).toNat false&&(i==0||dJ (iN f (way.getD (i - 1) 0).toNat) (way.getD i 0)))
def D8(f:aA)(way:List Int):Bool:=(List.range way.length).all (oc f way)
def gn(f:aA)(r:Int)(prev:Option Int)(way:List Int):Bool:=nD (cV f r) (eM f r) (fun b=>dW (bu f b) r) (fun b p=>(bu f b).ins.any (fc r p)) prev way
def n7(C:Int)(J:Bool)(t:List Int)(go:Bool):Bool:=if C=2 then false else if C=1 then(if t=[] then true else if J=true then false else go) else(if t=[] then false else go)
def iT(f:aA)(r:Int)(b:Nat)(p:Bool):Bool:=(bu f b).ins.any (fc r p)
theorem PG(f:aA)(r b:Int)(t:List Int):gn f r none (b::t)=n7 (cV f r b.toNat true) (iT f r b.toNat true) t (gn f r (some b) t):=by
 unfold gn;rw[nD];rfl
theorem PH(f:aA)(r a b:Int)(t:List Int):gn f r (some a) (b::t)=if eM f r a.toNat b.toNat=1/\t=[] then true else if eM f r a.toNat b.toNat=2\/(eM f r a.toNat b.toNat=1/\dW (bu f b.toNat) r=true) then false else n7 (cV f r b.toNat false) (iT f r b.toNat false) t (gn f r (some b) t):=by
 unfold gn;rw[nD];rfl
def D9(way:List Int):Nat->Option Int
 |0=>none
 |k+1=>some (way.getD k 0)
def pW(f:aA)(b r:Int):Prop:=jf f.blocks.length b=true/\0<=r/\r<f.aj.length
instance(f:aA)(b r:Int):Decidable (pW f b r):=by unfold pW;infer_instance
def oJ(f:aA)(b r:Int)(way:List Int):Bool:=if way.length=0\/1200<way.length\/way.getD 0 0≠b then false else D8 f way&&gn f r none way
def oI(f:aA)(b r:Int)(way:List Int):D:=if dS f=0 then(if pW f b r then .tup [B (oJ f b r way),I 0] else .tup [B false,I 1]) else .tup [B false,I (dS f)]
theorem KS(f:aA)(b r:Int)(way:List Int):Tr (oI f b r way):=by
 unfold oI;split
 .split<;>exact .tup (.cons (.s _) (.cons (.s _) .nil))
 .exact .tup (.cons (.s _) (.cons (.s _) .nil))
theorem hd9:∀ a b c d e f g h i:Bool,(if(if(if(if(if(if(if a=true then b else false)=true then true else c)=true then true else(if d=true then e else false))=true then true else f)=true then true else g)=true then true else h)=true then true else i)=((a&&b)||(c||((d&&e)||(f||(g||(h||i)))))):=by decide
theorem ain:∀ a b c d e:Bool,(if(if(if(if a=true then true else b)=true then true else c)=true then true else d)=true then true else e)=(a||(b||(c||(d||e)))):=by decide
def zF(l:List Int)(n:Int):Bool:=l.any fun y=>y==n
theorem Py{l:List Int}{x:Int}:zF l x=true↔x∈l:=by simp[zF]
def BK(f:aA):Bool:=(decide (24<(f.blocks.length:Int))&&decide ((f.blocks.length:Int)<=1200))||(decide (1210<(f.blocks.length:Int))||((decide (14<(f.aj.length:Int))&&decide ((f.aj.length:Int)<=1200))||(decide (1210<(f.aj.length:Int))||(decide (130<(f.name.size:Int))||(decide (70<(f.aW.length:Int))||decide (10<(f.signals.length:Int)))))))
def sK(b:bB):Bool:=decide (12<(b.ins.length:Int))||(decide (8<(b.fin.aH.length:Int))||(decide (10<(b.fin.args.length:Int))||(decide (130<(b.fin.name.size:Int))||decide (10<(b.fin.ins.args.length:Int)))))
def sL(y:a7):Bool:=decide (26<(y.args.length:Int))
def pA(f:aA):Bool:= !(BK f)&&(f.signals.all (fun s=> !(decide (20<(s.size:Int))))&&f.blocks.all (fun b=> !(sK b)&&b.ins.all fun y=> !(sL y)))
theorem abH{f:aA}(h:pA f=true):f.blocks.length<=24\/1200<f.blocks.length:=by
 unfold pA BK at h;simp only[aO,Bool.not_eq_true',Bool.or_eq_false_iff] at h;have h1:=h.1.1;by_cases h2:24<f.blocks.length
 .by_cases h3:f.blocks.length<=1200
  .simp at h1;omega
  .omega
 .omega
def allI(cnt:List Bool)(k:Nat):List Int:=((List.range k).filter fun i=>cnt.getD i false).map fun(i:Nat)=>(i:Int)
theorem IZ(cnt:List Bool)(k:Nat):allI cnt (k+1)=if cnt.getD k false=true then allI cnt k++[(k:Int)] else allI cnt k:=by
 unfold allI;rw[List.range_succ,List.filter_append,List.map_append];by_cases h:cnt.getD k false=true
 .rw[if_pos h,List.filter_cons_of_pos (by exact h)];rfl
 .rw[if_neg h,List.filter_cons_of_neg (by exact h),List.filter_nil,List.map_nil,List.append_nil]
theorem PJ(cnt:List Bool):∀ {k n:Nat},k<=n->∃ t,allI cnt n=allI cnt k++t
 |k,0,h=>by
  have:k=0:=by omega
  subst this;exact⟨[],oS⟩
 |k,n+1,h=>by
  rcases Nat.lt_or_ge k (n+1) with g|g
  .obtain⟨t,ht⟩:=PJ cnt (k:=k) (n:=n) oG;rw[IZ];split
   .exact⟨t++[(n:Int)],by rw[ht,List.append_assoc]⟩
   .exact⟨t,ht⟩
  .have:k=n+1:=by omega
   subst this;exact⟨[],oS⟩
theorem abQ{cnt:List Bool}{k n:Nat}(hk:k<n)(hc:cnt.getD k false=true):(allI cnt n)[(allI cnt k).length]? =some (k:Int):=by
 obtain⟨t,ht⟩:=PJ cnt (k:=k+1) (n:=n) oG;rw[ht,IZ,if_pos hc,List.append_assoc,List.getElem?_append_right (bP _),Nat.sub_self];rfl
def Ey(k a to fS:Int)(x:a7):End:=⟨k,a,0,to,fS,⟨#[]⟩,x,[],[], -1⟩
def qm:aA:=⟨⟨#[115,117,109]⟩,false,1,1,[1,1,1],[],[],[⟨[⟨1,1,0,0,0,[]⟩],Ey 1 0 1 0 dT⟩,⟨[],Ey 2 0 2 3 dT⟩,⟨[⟨1,2,0,0, -1,[]⟩],Ey 5 0 4 0 ⟨30,1,1,0,0,[]⟩⟩,⟨[],Ey 3 1 0 0 dT⟩,⟨[],Ey 5 0 1 0 ⟨30,0,0,2,0,[]⟩⟩]⟩
def wk:List D:=cv qm [[1],[2,3],[4],[],[1]] [[],[0,4],[1],[1],[2]] (b9 [true,true,true,true,true])
end Go.Argus
namespace Go.Proofs.Tryz.K
set_option maxRecDepth 10000
theorem abE{f:aA}{b r:Int}{way:List Int}(C:dS f≠0):PCall prog 26 [.agg (aD f),I b,I r,aB way] (oI f b r way):=by
 have J:=QF C;refine bc Hr (.cons (.agg (fu f)) (.cons (.s _) (.cons (.s _) (.cons (dg _) .nil)))) (KS f b r way) ?_;rw[oI,if_neg C];generalize dS f=e at J C;have fQ:(e !=0)=true:=by simpa using C
 rw[Vx];refine aw ?_;refine au ?_;refine ab (aI (bw [(0,aD f,26)] eH (l:=[(1,I b),(2,I r),(3,aB way),(4,.pt (aD f))]) eH) (ao ?_));refine SS ?_;refine cl J ?_;refine SS ?_;refine Vt ?_;refine au ?_;refine ab (aC (ao ?_));refine af ?_;refine ab (gU ?_);refine aC (ao ?_);refine au ?_;exact ab (cK (dN rfl rfl rfl))
set_option maxHeartbeats 2000000 in
theorem acF{f:aA}{b r:Int}{way:List Int}(cW:dS f=0):PCall prog 26 [.agg (aD f),I b,I r,aB way] (oI f b r way):=by
 have tE:=Km cW
 have hf:iV f=true:=by
  unfold dS at cW;split at cW
  .assumption
  .cases cW
 have aY:=vC hf;obtain⟨n,hn⟩:∃ n,f.blocks.length=n:=⟨_,rfl⟩
 have mO:n<=1200:=hn▸aY.lC;have hrg:=aY.aj;have ik:=aY.pos;have aZ:∀ a∈[D.agg (aD f),I b,I r,aB way],Tr a:=.cons (.agg (fu f)) (.cons (.s _) (.cons (.s _) (.cons (dg _) .nil)));refine m8 Hr.he aZ fun fF=>?_;have jA:=(fF (aB way) oS).sl.1;unfold maxLen at jA;refine bc Hr aZ (KS f b r way) ?_;rw[oI,if_pos cW];have LW:∀ b,PCall prog 69 [.pt (vD f),I b] (B (jf f.blocks.length b)):=fun b=>mW (f:=f) (beh:=bg f) (ahd:=bX f.blocks) (c:=b9 (cS (bt (bg f)) f.blocks.length (-1))) (.sl (.map fun _=>.s _)) rfl (b:=b);rw[Vx];refine aw ?_;refine au ?_;refine ab (aI (bw [(0,aD f,26)] eH (l:=[(1,I b),(2,I r),(3,aB way),(4,.pt (aD f))]) eH) (ao ?_));refine SS ?_;refine cl tE ?_;refine SS ?_;refine Vu ?_;refine au ?_;refine ab (aC (ao ?_));refine af ?_;refine ab (hP (b7 (aC (ao ?_))));have mW:=LW b;refine af ?_;refine cl mW ?_;refine aE ?_;refine au ?_;refine ab (cH rfl (fun hp=>?_) fun hp=>b7 (aC (aw ?_)))
 .refine aC (ao ?_);refine af ?_;refine ab (cK (dN rfl rfl ?_))
  have aM:¬ pW f b r:=by
   rintro⟨h1,h2,h3⟩;rw[h1] at hp;simp at hp;omega
  rw[if_neg aM];rfl
 have bl:pW f b r:=by
  unfold pW;revert hp;cases jf f.blocks.length b<;>simp<;>omega
 clear hp mW;rw[if_pos bl];by_cases hz:way.length=0
 .have rY:way=[]:=List.length_eq_zero_iff.1 hz;subst rY;refine aJ ?_;(iterate 3 refine z fun _ _=>?_);refine af ?_;(iterate 5 refine z fun _ _=>?_);refine SS ?_;refine ab ⟨_,.refl _,gU ?_⟩;refine aC (ao ?_);refine af ?_;refine ab (cK (dN rfl rfl ?_));rfl
 have cM:((way.length:Int)==0)=false:=by rw[ib];exact decide_eq_false oG
 by_cases hl:1200<way.length
 .have ja:decide ((1200:Int)<(way.length:Int))=true:=by simp;omega
  refine bI ?_;refine af ?_;(iterate 2 refine z fun _ _=>?_);refine SS ?_;refine z fun _ _=>?_;refine SS ?_;refine ab ⟨_,.refl _,gU ?_⟩;refine aC (ao ?_);refine af ?_;refine ab (cK (dN rfl rfl ?_));have e:oJ f b r way=false:=by rw[oJ,if_pos (.inr (.inl hl))]
  rw[e];rfl
 have ja:decide ((1200:Int)<(way.length:Int))=false:=by simp;omega
 have rZ:way[0]? =some (way.getD 0 0):=by rw[bF,aG oG];rfl
 by_cases kI:way.getD 0 0≠b
 .have e:oJ f b r way=false:=by rw[oJ,if_pos (.inr (.inr kI))]
  rw[e];clear e;generalize way.getD 0 0=b0 at rZ kI;refine aE ?_;refine bK ?_;refine ab ⟨_,.refl _,cH rfl (fun _=>?_) fun h=>absurd h (by simpa using kI)⟩;refine aC (ao ?_);refine af ?_;refine ab (cK (dN rfl rfl rfl))
 have kI:way.getD 0 0=b:=Classical.byContradiction kI
 have r5:oJ f b r way=(D8 f way&&gn f r none way):=by
  rw[oJ,if_neg];rintro(h|h|h)
  .exact hz h
  .exact hl h
  .exact h kI
 rw[kI] at rZ;have fQ:(b !=b)=false:=by simp
 refine aE ?_;refine bK ?_;refine ab ⟨_,.refl _,hP (b7 (aC (aw ?_)))⟩;clear fQ cM ja tE;refine au ?_;have alH:way.length<=1200:=by omega
 have oF:=vn (w:= -1) (beh_in aY) ik;have pM:vD f=cv f (bg f) (bX f.blocks) (b9 (cS (bt (bg f)) f.blocks.length (-1))):=rfl;have Hs:∀ i,oc f way i=(jf f.blocks.length (way.getD i 0)&&((cS (bt (bg f)) f.blocks.length (-1)).getD (way.getD i 0).toNat false&&(i==0||dJ (iN f (way.getD (i - 1) 0).toNat) (way.getD i 0)))):=fun i=>rfl
 have uJ:∀ (d:D),(List.range way.length).all (oc f way)=true->d=B (gn f r none way)->D.tup [d,I 0]=.tup [B (oJ f b r way),I 0]:=fun d h1 h2=>by
  rw[r5,D8,h1,h2];rfl
 have LX:(List.range way.length).all (oc f way)=false->D.tup [B false,I 0]=.tup [B (oJ f b r way),I 0]:=fun h1=>by
  rw[r5,D8,h1];rfl
 rw[pM] at LW ⊢;generalize cS (bt (bg f)) f.blocks.length (-1)=cnt at*
 refine ab (bV (fun s=>Ghost prog s ⟨az [(2,I r),(3,aB way),(10,.pt (cv f (bg f) (bX f.blocks) (b9 cnt)))],fun _=>none,1⟩/\(List.range way.length).all (oc f way)=true) (dM (α:=Nat)
  (fun k=>⟨az [(2,I r),(3,aB way),(10,.pt (cv f (bg f) (bX f.blocks) (b9 cnt))),(56,aB way),(57,I way.length),(58,I k)],fun _=>none,1⟩)
  (fun k=>k<=way.length/\(List.range k).all (oc f way)=true) (fun k=>way.length - k) 0 (aq eH) ⟨Nat.zero_le _,rfl⟩ ?_) ?_)
 .rintro k ⟨hk,bQ⟩;refine SS ?_;refine ab ⟨_,rfl,fun h=>?_,fun h=>?_⟩
  .have ap:k<way.length:=by simpa using h
   have hx:way[k]? =some (way.getD k 0):=by rw[bF,aG ap];rfl
   have U:=Hs k;generalize way.getD k 0=x at hx U;have mW:=LW x;refine ws ?_;refine aV ?_;refine ab (c8 Zp ?_);cases hw:jf f.blocks.length x with
   |false=>
    rw[hw] at mW;have U:oc f way k=false:=by rw[U,hw];rfl
    refine af ?_;refine cl mW ?_;refine dk ?_;(iterate 3 refine z fun _ _=>?_);refine aE ?_;refine au ?_;(iterate 4 refine z fun _ _=>?_);refine SS ?_;(iterate 3 refine z fun _ _=>?_);refine SS ?_;refine a8 bf (k8 (ao ?_));refine af ?_;exact ab (aT (bR (aL (dN rfl rfl (LX (kO ap U))))))
   |true=>
    rw[hw] at mW;have qz:=nV.1 hw;obtain⟨C,rfl⟩:=cN qz.1;have Wi:C<n:=by omega
    have yH:cnt[C]? =some cnt[C]:=aG oG;have zY:cnt.getD C false=cnt[C]:=getD_some yH;rw[hw,bx,zY] at U;clear zY;generalize cnt[C]=cb at yH U;cases cb with
    |false=>
     have U:oc f way k=false:=by rw[U];rfl
     refine af ?_;refine cl mW ?_;refine aE ?_;refine aE ?_;refine aJ ?_;(iterate 4 refine z fun _ _=>?_);refine SS ?_;(iterate 3 refine z fun _ _=>?_);refine SS ?_;refine a8 bf (k8 (ao ?_));refine af ?_;exact ab (aT (bR (aL (dN rfl rfl (LX (kO ap U))))))
    |true=>
     cases k with
     |zero=>
      have U:oc f way 0=true:=by rw[U];rfl
      have ja:decide ((0:Int)<((0:Nat):Int))=false:=rfl;refine af ?_;refine cl mW ?_;refine aE ?_;refine aE ?_;refine aJ ?_;(iterate 4 refine z fun _ _=>?_);refine SS ?_;(iterate 2 refine z fun _ _=>?_);refine af ?_;refine a8 bf (pf (ct ?_));refine af ?_;exact ab (aK (0+1) (aq eH) ⟨oG,jY bQ U⟩ oG)
     |succ j=>
      have ja:decide ((0:Int)<((j+1:Nat):Int))=true:=by simp
      have yM:=bJ.1 bQ j oS;rw[Hs j] at yM;have M7:way[j]? =some (way.getD j 0):=by rw[bF,aG oG];rfl
      rw[show j+1 - 1=j by omega] at U;generalize way.getD j 0=px at M7 yM U;rw[aO] at yM;have Ci:=nV.1 yM.1;obtain⟨J,rfl⟩:=cN Ci.1;have tx:J<n:=by omega
      have Fi:(bg f)[J]? =some (iN f J):=CM (by simp[bg];omega);rw[bx] at U;have Vy:=Gk aY J
      change (iN f J).length<=100000 at Vy
      generalize iN f J=l at Fi U Vy;have qM:=qM (l:=l) (v:=(C:Int));have pw:((j+1:Nat):Int) - 1=(j:Int)/\ -9223372036854775808<=(j:Int)/\(j:Int)<=9223372036854775807:=by omega
      have U:oc f way (j+1)=dJ l C:=by rw[U];simp
      generalize dJ l (C:Int)=hh at qM U;refine af ?_;refine cl mW ?_;refine aE ?_;refine aE ?_;refine aE ?_;refine gc qM ?_;refine au ?_;cases hh with
      |false=>
       refine a8 bf (k8 (ao ?_));refine af ?_;exact ab (aT (bR (aL (dN rfl rfl (LX (kO ap U))))))
      |true=>
       refine a8 bf (pf (ct ?_));refine af ?_;exact ab (aK (j+1+1) (aq eH) ⟨oG,jY bQ U⟩ oG)
  .have bh:¬ k<way.length:=by simpa using h
   have:k=way.length:=by omega
   subst this;exact⟨aq eH,bQ⟩
 .rintro s ⟨hg,bQ⟩;refine⟨_,hg,aC (aw ?_)⟩;refine au ?_;have T2:∀ k,k<way.length->oc f way k=true:=fun k hk=>bJ.1 bQ k (by simpa using hk);have uJ:∀ (d:Bool),gn f r none way=d->D.tup [B d,I 0]=.tup [B (oJ f b r way),I 0]:=fun d h=>uJ (B d) bQ (by rw[h])
  refine ab (bV (fun s=>(∃ nx,Ghost prog s ⟨az [],fun _=>none,nx⟩)/\gn f r none way=false) (dM (α:=Nat)
   (fun k=>⟨az [(2,I r),(3,aB way),(10,.pt (cv f (bg f) (bX f.blocks) (b9 cnt))),(98,aB way),(99,I way.length),(100,I k)],fun _=>none,1⟩)
   (fun k=>k<=way.length/\gn f r none way=gn f r (D9 way k) (way.drop k)) (fun k=>way.length - k) 0 (aq eH) ⟨Nat.zero_le _,rfl⟩ ?_) ?_)
  .rintro k ⟨hk,hinv⟩;refine SS ?_;refine ab ⟨_,rfl,fun h=>?_,fun h=>?_⟩
   .have ap:k<way.length:=by simpa using h
    have hx:way[k]? =some (way.getD k 0):=by rw[bF,aG ap];rfl
    have wj:=T2 k ap;rw[Hs k,aO] at wj;have qz:=nV.1 wj.1
    have rV:way.drop k=way.getD k 0::way.drop (k+1):=by
     rw[List.drop_eq_getElem_cons ap];congr 1;simp[bF,ap]
    have At:D9 way (k+1)=some (way.getD k 0):=rfl;rw[rV] at hinv;generalize way.getD k 0=x at hx hinv qz At rV wj;have wj:=wj.2;obtain⟨C,rfl⟩:=cN qz.1;have Wi:C<n:=by omega
    have vd:way.drop (k+1)=[]↔k+1=way.length:=by
     rw[List.drop_eq_nil_iff];omega
    generalize way.drop (k+1)=t at hinv rV vd;have X:f.blocks[C]? =some f.blocks[C]:=aG oG;have WO:f.blocks[C]∈f.blocks:=bO _;generalize f.blocks[C]=xb at X WO;have nQ:=aY.blk xb WO;refine ws ?_;refine aV ?_;refine ab (aw ?_);refine bK ?_;obtain⟨last,gd,mH⟩:∃ last:Bool,((k:Int)==(way.length:Int) - 1)=last/\(last=true↔t=[]):=⟨_,rfl,by rw[vd];simp;omega⟩
    have cM:=gd;refine ab ⟨_,aq (l:=[(2,I r),(3,aB way),(10,.pt (cv f (bg f) (bX f.blocks) (b9 cnt))),(14,I k),(15,I C),(16,B last),(98,aB way),(99,I way.length),(100,I k)]) ⟨rfl,rfl,rfl,rfl,rfl,?_,rfl,rfl,rfl,trivial⟩,?_⟩
    .show D.s (.bool ((k:Int)==(way.length:Int) - 1))=_;rw[gd]
    clear cM gd;refine ew (fun s=>Ghost prog s ⟨az [(2,I r),(3,aB way),(10,.pt (cv f (bg f) (bX f.blocks) (b9 cnt))),(14,I k),(15,I C),(16,B last),(98,aB way),(99,I way.length),(100,I k)],fun _=>none,1⟩/\gn f r none way=n7 (cV f r C (k==0)) (iT f r C (k==0)) t (gn f r (some (C:Int)) t)) (ao ?_) fun s hs=>?_
    .cases k with
     |zero=>
      have ja:decide ((0:Int)<((0:Nat):Int))=false:=rfl;refine af ?_;refine ab (pf (bj ⟨aq eH,?_⟩));rw[hinv,D9,PG];rfl
     |succ j=>
      have ja:decide ((0:Int)<((j+1:Nat):Int))=true:=by simp
      refine af ?_;have yM:=T2 j oG;rw[Hs j,aO] at yM;have M7:way[j]? =some (way.getD j 0):=by rw[bF,aG oG];rfl
      rw[show j+1 - 1=j by omega] at wj;have LY:D9 way (j+1)=some (way.getD j 0):=rfl;rw[LY] at hinv;generalize way.getD j 0=px at M7 yM wj hinv LY;have Ci:=nV.1 yM.1;obtain⟨J,rfl⟩:=cN Ci.1;have tx:J<n:=by omega
      have bM:(C:Int)∈iN f J:=by
       simp only[aO,Bool.or_eq_true,bx] at wj;rcases wj.2 with h|h
       .simp at h
       .exact jD.1 h
      have pG:f.blocks[J]? =some f.blocks[J]:=aG oG;have Vz:f.blocks[J]∈f.blocks:=bO _;generalize f.blocks[J]=yb at pG Vz;have Fj:(J:Int)∈eN f C:=yU.2 ⟨J,rfl,oG,yb,pG,(C:Int),by rw[<- qX pG];exact bM,oS⟩
      have An:(bX f.blocks)[C]? =some (eN f C):=by
       unfold eN;exact AH rfl oG
      have wE:=wE (f:=f) (beh:=bg f) (ahd:=bX f.blocks) (c:=b9 cnt) (.sl (.map fun _=>.s _)) rfl (a:=(J:Int)) (b:=(C:Int)) (r:=r) (ka:=J) (kb:=C) rfl rfl pG X An nQ.len (fun z hz=>(aY.xQ X hz).1) Fj (by have:=(aY.ends yb Vz).wh;omega)
      have lz:np yb xb (eN f C) (J:Int) (C:Int) r=eM f r J C:=by
       unfold eM;rw[iU pG,iU X]
      rw[lz] at wE;have e3:=K3 yb xb (eN f C) (J:Int) (C:Int) r;rw[lz] at e3;clear lz;have Ak:=Ak (f:=f) (beh:=bg f) (ahd:=bX f.blocks) (c:=b9 cnt) (.sl (.map fun _=>.s _)) rfl (b:=(C:Int)) (r:=r) (k:=C) rfl X nQ.len;have gm:dW (bu f C) r=dW xb r:=by rw[iU X]
      have kG:=PH f r (J:Int) (C:Int) t;rw[bx,bx,gm, <- hinv] at kG;clear gm hinv LY;generalize eM f r J C=e at wE e3 kG;generalize dW xb r=ph at Ak kG;have pw:((j+1:Nat):Int) - 1=(j:Int)/\ -9223372036854775808<=(j:Int)/\(j:Int)<=9223372036854775807:=by omega
      refine ab (k8 (ao ?_));refine bI ?_;refine cl wE ?_;refine SS ?_;refine ab (aC (ao ?_));have LZ:gn f r none way=n7 (cV f r C false) (iT f r C false) t (gn f r (some (C:Int)) t)->∀ env,jk [(2,I r),(3,aB way),(10,.pt (cv f (bg f) (bX f.blocks) (b9 cnt))),(14,I ((j+1:Nat):Int)),(15,I C),(16,B last),(98,aB way),(99,I way.length),(100,I ((j+1:Nat):Int))] env->Ghost prog ⟨env,fun _=>none,1⟩ ⟨az [(2,I r),(3,aB way),(10,.pt (cv f (bg f) (bX f.blocks) (b9 cnt))),(14,I ((j+1:Nat):Int)),(15,I C),(16,B last),(98,aB way),(99,I way.length),(100,I ((j+1:Nat):Int))],fun _=>none,1⟩/\gn f r none way=n7 (cV f r C (j+1==0)) (iT f r C (j+1==0)) t (gn f r (some (C:Int)) t):=fun h env he=>⟨aq he,h⟩
      rcases e3 with rfl|rfl|rfl
      .refine au ?_;refine z fun _ _=>?_;refine SS ?_;refine ab (hP (b7 (ao ?_)));refine aE ?_;refine gc Ak ?_;refine af ?_;refine ab (pf (bj (LZ ?_ _ ⟨rfl,rfl,rfl,rfl,rfl,rfl,rfl,rfl,rfl,trivial⟩)));rw[kG,if_neg oG,if_neg oG]
      .cases sb:last with
       |true=>
        rw[sb] at mH;refine aV ?_;refine ab (gU ?_);refine aC (ao ?_);refine af ?_;refine ab (cK (aL (bR (aL (dN rfl rfl (uJ true ?_))))));rw[kG,if_pos ⟨rfl,mH.1 rfl⟩]
       |false=>
        have aM:¬ t=[]:=fun h=>by have:=mH.2 h;rw[sb] at this;cases this
        rw[sb] at LZ;refine aV ?_;refine ab (hP (b7 (ao ?_)));cases ph with
        |true=>
         refine aE ?_;refine gc Ak ?_;refine af ?_;refine ab (k8 (ao ?_));refine af ?_;refine ab (aT (aL (bR (aL (dN rfl rfl (uJ false ?_))))));rw[kG,if_neg (fun h=>aM h.2),if_pos (.inr ⟨rfl,rfl⟩)]
        |false=>
         refine aE ?_;refine gc Ak ?_;refine af ?_;refine ab (pf (bj (LZ ?_ _ ⟨rfl,rfl,rfl,rfl,rfl,rfl,rfl,rfl,rfl,trivial⟩)));rw[kG,if_neg (fun h=>aM h.2),if_neg oS]
      .refine au ?_;refine z fun _ _=>?_;refine SS ?_;refine ab (hP (b7 (ao ?_)));refine aE ?_;refine gc Ak ?_;refine af ?_;refine ab (k8 (ao ?_));refine af ?_;refine ab (aT (aL (bR (aL (dN rfl rfl (uJ false ?_))))));rw[kG,if_neg oG,if_pos (.inl rfl)]
    .obtain⟨hg,aU⟩:=hs
     have hp0:((k:Int)==0)=(k==0):=by
      cases k with
      |zero=>rfl
      |succ j=>
       rw[ib];exact decide_eq_false oG
     have yG:=yG (f:=f) (beh:=bg f) (ahd:=bX f.blocks) (c:=b9 cnt) (.sl (.map fun _=>.s _)) rfl (b:=(C:Int)) (r:=r) (p:=(k==0)) (k:=C) rfl X nQ.len (fun y hy=>(nQ.ins y hy).ar) nQ.fin.a1 nQ.fin.a2;have Fb:=Fb (f:=f) (beh:=bg f) (ahd:=bX f.blocks) (c:=b9 cnt) (.sl (.map fun _=>.s _)) rfl (b:=(C:Int)) (r:=r) (p:=(k==0)) (k:=C) rfl X;have H9:cV f r C (k==0)=ld xb r (k==0):=by unfold cV;rw[iU X]
     have WQ:iT f r C (k==0)=xb.ins.any (fc r (k==0)):=by unfold iT;rw[iU X]
     have f3:=J5 xb r (k==0);rw[<- H9] at yG f3;rw[<- WQ] at Fb;clear H9 WQ
     have sQ:gn f r none way=gn f r (some (C:Int)) t->gn f r none way=gn f r (D9 way (k+1)) (way.drop (k+1)):=fun h=>by
      rw[h,At]
      have:way.drop (k+1)=t:=by
       have:=congrArg List.tail rV;simpa using this
      rw[this]
     generalize (k==0)=p0 at*
     have cM:=hp0;generalize cV f r C p0=fa at*
     generalize iT f r C p0=wi at*
     refine⟨_,hg,aw ?_⟩;refine aV ?_;refine cl yG ?_;refine ab (aI (aq (l:=[(2,I r),(3,aB way),(10,.pt (cv f (bg f) (bX f.blocks) (b9 cnt))),(15,I C),(14,I k),(16,B last),(143,U8 fa),(98,aB way),(99,I way.length),(100,I k)]) eH) (show AW _ _ _ _ _ _ from nY (ao ?_)));rcases f3 with rfl|rfl|rfl
     .refine af ?_;refine ab (pf (ao ?_));refine af ?_;refine ab (pf (ao ?_));refine af ?_;refine ab (k8 (ao ?_));cases sb:last with
      |true=>
       rw[sb] at mH;refine SS ?_;refine ab (k8 (ao ?_));refine af ?_;refine ab (aT (bH (bR (aL (dN rfl rfl (uJ false ?_))))));rw[aU,n7,if_neg oG,if_neg oG,if_pos (mH.1 rfl)]
      |false=>
       have aM:¬ t=[]:=fun h=>by have:=mH.2 h;rw[sb] at this;cases this
       refine SS ?_;refine ab (pf (ct ?_));show AOps _ _ _ _ _ _ _ _ _;refine af ?_;refine ab (aK (k+1) (aq eH) ⟨oG,sQ ?_⟩ oG);rw[aU,n7,if_neg oG,if_neg oG,if_neg aM]
     .refine af ?_;refine ab (pf (ao ?_));refine af ?_;refine ab (k8 (aC (ao ?_)));cases sb:last with
      |true=>
       rw[sb] at mH;refine SS ?_;refine ab (gU ?_);refine aC (ao ?_);refine af ?_;refine ab (cK (bH (bR (aL (dN rfl rfl (uJ true ?_))))));rw[aU,n7,if_neg oG,if_pos rfl,if_pos (mH.1 rfl)]
      |false=>
       have aM:¬ t=[]:=fun h=>by have:=mH.2 h;rw[sb] at this;cases this
       refine SS ?_;refine ab (hP (b7 (ao ?_)));cases wi with
       |true=>
        refine aV ?_;refine cl Fb ?_;refine ab (k8 (ao ?_));refine af ?_;refine ab (aT (bH (bR (aL (dN rfl rfl (uJ false ?_))))));rw[aU,n7,if_neg oG,if_pos rfl,if_neg aM,if_pos rfl]
       |false=>
        refine aV ?_;refine cl Fb ?_;refine ab (pf (ct ?_));show AOps _ _ _ _ _ _ _ _ _;refine af ?_;refine ab (aK (k+1) (aq eH) ⟨oG,sQ ?_⟩ oG);rw[aU,n7,if_neg oG,if_pos rfl,if_neg aM,if_neg oS]
     .refine af ?_;refine ab (k8 (ao ?_));refine af ?_;refine ab (aT (bH (bR (aL (dN rfl rfl (uJ false ?_))))));rw[aU,n7,if_pos rfl]
   .have bh:¬ k<way.length:=by simpa using h
    refine⟨⟨1,aq trivial⟩,?_⟩;rw[hinv,List.drop_eq_nil_of_le oG];unfold gn;rw[nD]
  .rintro s ⟨⟨nx,hg⟩,oh⟩;refine⟨_,hg,ao ?_⟩;refine af ?_;exact ab (dN rfl rfl (uJ false oh))
set_option maxHeartbeats 1000000 in
theorem E1{f:aA}:PCall prog 15 [.agg (aD f)] (B (pA f)):=by
 have aZ:∀ a∈[D.agg (aD f)],Tr a:=.cons (.agg (fu f)) .nil;refine bc aio aZ (Tr.s _) ?_;rw[aip];refine aw ?_;refine af ?_;refine ab (aI (bw [(0,aD f,26)] eH (l:=[(1,.pt (aD f))]) eH) (aC (aw ?_)));refine aE ?_;refine aE ?_;refine aE ?_;refine bI ?_;refine af ?_;refine bE rfl rfl (Kc rfl) (fun hc=>⟨ak,V.h⟩) ?_;refine aE ?_;refine aV ?_;have hd:BK f=_:=(hd9 (decide (24<(f.blocks.length:Int))) (decide ((f.blocks.length:Int)<=1200)) (decide (1210<(f.blocks.length:Int))) (decide (14<(f.aj.length:Int))) (decide ((f.aj.length:Int)<=1200)) (decide (1210<(f.aj.length:Int))) (decide (130<(f.name.size:Int))) (decide (70<(f.aW.length:Int))) (decide (10<(f.signals.length:Int)))).symm;refine ab ⟨_,.refl _,cH rfl (fun h=>?_) fun h=>b7 (aC (aw ?_))⟩
 .have h1:BK f=true:=hd.trans h;refine aC (ao ?_);refine SS ?_;refine ab (cK (ax (d:=B false) rfl ?_));rw[pA,h1];rfl
 have h1:BK f=false:=hd.trans h;clear hd h
 have als:f.blocks.length<=100000/\f.signals.length<=100000:=by
  unfold BK at h1;simp only[Bool.or_eq_false_iff,decide_eq_false_iff_not] at h1;omega
 refine SS ?_
 refine ab (bV (fun s=>Ghost prog s ⟨az [(1,.pt (aD f))],fun _=>none,1⟩/\f.signals.all (fun s=> !(decide (20<(s.size:Int))))=true) (cI (α:=Nat) (fun k=>⟨az [(1,.pt (aD f)),(3,I k)],fun _=>none,1⟩)
  (fun k=>k<=f.signals.length/\(f.signals.take k).all (fun s=> !(decide (20<(s.size:Int))))=true) (fun k=>f.signals.length - k) 0 (aq eH) ⟨oG,rfl⟩ ?_) ?_)
 .rintro k ⟨hk,hinv⟩;refine aV ?_;refine ab ⟨_,rfl,fun h=>?_,fun h=>?_⟩
  .have ap:k<f.signals.length:=by simpa using h
   have hx:f.signals[k]? =some f.signals[k]:=by simp[ap]
   have J:f.signals[k]∈f.signals:=bO _;generalize f.signals[k]=x at hx J;refine ws ?_;refine dk ?_;refine ab (av rfl (fun hp=>?_) fun hp=>?_)
   .refine ws ?_;refine SS ?_;refine ab (aT (bR (aL (ax (d:=B false) rfl ?_))))
    have:f.signals.all (fun s=> !(decide (20<(s.size:Int))))=false:=by
     refine Bool.eq_false_iff.2 fun ht=>?_;have:=bJ.1 ht x J;rw[hp] at this;cases this
    rw[pA,this];simp
   .refine ct ?_;refine au ?_;refine ab (aK (k+1) (aq eH) ⟨oG,?_⟩ oG);rw[List.take_add_one,hx,List.all_append,hinv];show(true&&(!(decide (20<(x.size:Int)))&&true))=true;rw[hp];rfl
  .have X:¬ k<f.signals.length:=by simpa using h
   rw[dn oG] at hinv;exact⟨aq eH,hinv⟩
 rintro s ⟨hg,VA⟩;refine⟨_,hg,aC (aw ?_)⟩;refine SS ?_
 refine ab (bV (fun s=>(∃ nx,Ghost prog s ⟨az [],fun _=>none,nx⟩)/\f.blocks.all (fun b=> !(sK b)&&b.ins.all fun y=> !(sL y))=true) (cI (α:=Nat×Nat) (fun k=>⟨az [(1,.pt (aD f)),(4,I k.1)],fun _=>none,k.2⟩)
  (fun k=>k.1<=f.blocks.length/\(f.blocks.take k.1).all (fun b=> !(sK b)&&b.ins.all fun y=> !(sL y))=true) (fun k=>f.blocks.length - k.1) (0,1) (aq eH) ⟨Nat.zero_le _,rfl⟩ ?_) ?_)
 .rintro⟨k,nx⟩ ⟨hk,hinv⟩;dsimp only at hk hinv ⊢;refine aV ?_;refine ab ⟨_,rfl,fun h=>?_,fun h=>?_⟩
  .have ap:k<f.blocks.length:=by simpa using h
   have hx:f.blocks[k]? =some f.blocks[k]:=by simp[ap]
   have J:f.blocks[k]∈f.blocks:=bO _;generalize f.blocks[k]=x at hx J
   have C:(!(sK x)&&x.ins.all fun y=> !(sL y))=false->pA f=false:=fun hb=>by
    have:f.blocks.all (fun b=> !(sK b)&&b.ins.all fun y=> !(sL y))=false:=by
     refine Bool.eq_false_iff.2 fun ht=>?_;have:=bJ.1 ht x J;rw[hb] at this;cases this
    rw[pA,this];simp
   refine aw ?_;refine dk ?_;refine ab (aI (ni (i:=nx) (l:=[(1,.pt (aD f)),(4,I k),(5,.pt (c9 x))]) (up_same _ _ _) ⟨rfl,rfl,lP,trivial⟩) (aC (ao ?_)));refine aE ?_;refine aE ?_;refine aJ ?_;refine bE rfl rfl (Kc rfl) (fun hc=>⟨ak,V.h⟩) ?_;refine bI ?_;refine af ?_;have hd:sK x=_:=(ain (decide (12<(x.ins.length:Int))) (decide (8<(x.fin.aH.length:Int))) (decide (10<(x.fin.args.length:Int))) (decide (130<(x.fin.name.size:Int))) (decide (10<(x.fin.ins.args.length:Int)))).symm;refine ab (cH rfl (fun h=>?_) fun h=>b7 (aw ?_))
   .have hb:sK x=true:=hd.trans h;refine aC (ao ?_);refine SS ?_;refine ab (cK (bR (aL (ax (d:=B false) rfl ?_))));rw[C (by rw[hb];rfl)]
   .have hb:sK x=false:=hd.trans h;clear hd h
    have fB:x.ins.length<=100000:=by
     unfold sK at hb;simp only[Bool.or_eq_false_iff,decide_eq_false_iff_not] at hb;omega
    refine SS ?_
    refine ab (cI (α:=Nat) (fun j=>⟨az [(1,.pt (aD f)),(4,I k),(5,.pt (c9 x)),(6,I j)],fun _=>none,nx+1⟩)
     (fun j=>j<=x.ins.length/\(x.ins.take j).all (fun y=> !(sL y))=true) (fun j=>x.ins.length - j) 0 (aq eH) ⟨Nat.zero_le _,rfl⟩ ?_)
    rintro j ⟨hj,U⟩;refine aV ?_;refine ab ⟨_,rfl,fun h=>?_,fun h=>?_⟩
    .have cF:j<x.ins.length:=by simpa using h
     have hy:x.ins[j]? =some x.ins[j]:=by simp[cF]
     have iy:x.ins[j]∈x.ins:=bO _;generalize x.ins[j]=y at hy iy;refine ws ?_;refine bI ?_;refine ab (av rfl (fun hp=>?_) fun hp=>?_)
     .have hp:sL y=true:=hp;refine ws ?_;refine SS ?_;refine ab (aT (bR (bR (aL (ax (d:=B false) rfl ?_)))));rw[C]
      have:x.ins.all (fun y=> !(sL y))=false:=by
       refine Bool.eq_false_iff.2 fun ht=>?_;have:=bJ.1 ht y iy;rw[hp] at this;cases this
      rw[this];simp
     .have hp:sL y=false:=hp;refine ct ?_;refine au ?_;refine ab (aK (j+1) (aq eH) ⟨oG,?_⟩ oG);rw[List.take_add_one,hy,List.all_append,U];show(true&&(!(sL y)&&true))=true;rw[hp];rfl
    .have X:¬ j<x.ins.length:=by simpa using h
     rw[dn oG] at U;show AOps _ _ _ _ _ _ _ _ _;refine au ?_;refine ab (aK (k+1,nx+1) (aq eH) ⟨oM,?_⟩ oM);dsimp only;rw[List.take_add_one,hx,List.all_append,hinv];show(true&&((!(sK x)&&x.ins.all fun y=> !(sL y))&&true))=true;rw[hb,U];rfl
  .have X:¬ k<f.blocks.length:=by simpa using h
   rw[dn oG] at hinv;exact⟨⟨nx,aq trivial⟩,hinv⟩
 rintro s ⟨⟨nx,hg⟩,bQ⟩;refine⟨_,hg,ao ?_⟩;refine SS ?_;refine ab (ax (d:=B true) rfl ?_);rw[pA,h1,VA,bQ];rfl
theorem s61{f:aA}{beh ahd:List (List Int)}{cnt:List Bool}(hlen:cnt.length<=100000):SeqA prog 61 [.pt (cv f beh ahd (b9 cnt))] [] ((allI cnt cnt.length).map fun n=>[I n]):=by
 refine Ke mixed VB kr fun L X Stop m nx hI GH h0=>?_;rw[aiq];refine aw ?_;refine bK ?_
 refine ab (dM (α:=Nat×Mem×Nat) (fun k=>⟨az [(1,.fn (.yield L) [] []),(9,b9 cnt),(10,I cnt.length),(11,I k.1)],k.2.1,k.2.2⟩)
  (fun k=>k.1<=cnt.length/\X (allI cnt k.1).length k.2.1 k.2.2) (fun k=>cnt.length - k.1) (0,m,nx) (aq eH) ⟨Nat.zero_le _,h0⟩ ?_)
 rintro⟨k,m,nx⟩ ⟨hk,J⟩;dsimp only at hk J ⊢;refine SS ?_;refine ab ⟨_,rfl,fun h=>?_,fun h=>?_⟩
 .have ap:k<cnt.length:=by simpa using h
  have hx:cnt[k]? =some cnt[k]:=aG ap;have hg:cnt.getD k false=cnt[k]:=getD_some hx;have C:=IZ cnt k
  have U:cnt.getD k false=true->((allI cnt cnt.length).map fun n=>[I n])[(allI cnt k).length]? =some [I k]:=fun h=>by
   rw[List.getElem?_map,abQ ap h];rfl
  rw[hg] at C U;generalize cnt[k]=c at hx C U;refine ws ?_;refine aV ?_;refine er ?_;cases c with
  |false=>
   refine af ?_;(iterate 4 refine z fun _ _=>?_);refine SS ?_;refine ab (pf (ct ?_));refine af ?_;refine ab (aK (k+1,m,nx) (aq eH) ⟨oM,?_⟩ oM);dsimp only;rw[C];exact J
  |true=>
   refine aJ ?_;refine GO rfl rfl rfl rfl dd ⟨rfl,_,U rfl,J,fun d m' nx' hp=>?_⟩;rcases hp with⟨rfl,hp⟩|⟨rfl,hp⟩
   .refine af ?_;refine ab (pf (ct ?_));refine af ?_;refine ab (aK (k+1,m',nx') (aq eH) ⟨oM,?_⟩ oM);dsimp only;rw[C,if_pos rfl,List.length_append];exact hp
   .refine af ?_;exact ab (k8 (aT (bR (vB (.inr hp)))))
 .have bh:¬ k<cnt.length:=by simpa using h
  have:k=cnt.length:=by omega
  subst this;exact ue (.inl (by rw[List.length_map];exact J))
end Go.Proofs.Tryz.K
end
namespace Go.Argus
open Go Go.Abs
open Go.Proofs.Tryz.K (nextR lg_ok beh_in ord_in)
def ky(f:aA)(b:Nat):Bool:=(cS (bt (bg f)) f.blocks.length (-1)).getD b false
theorem Qg{beh:Nat->List Int}:∀ {l:List Int},(∀ i,i+1<l.length->l.getD (i+1) 0∈beh (l.getD i 0).toNat)->wZ beh l
 |[],_=>trivial
 |[_],_=>trivial
 |a::b::t,h=>⟨h 0 oS,Qg fun i hi=>h (i+1) (by simpa using hi)⟩
theorem I8{beh:Nat->List Int}:∀ {l:List Int},wZ beh l->∀ i,i+1<l.length->l.getD (i+1) 0∈beh (l.getD i 0).toNat
 |[],_,i,h=>by simp at h
 |[_],_,i,h=>by simp at h
 |a::b::t,hs,0,_=>hs.1
 |a::b::t,hs,i+1,h=>I8 hs.2 i (by simpa using h)
theorem abI{f:aA}(J:jl f)(hn:f.blocks.length<=24){C X:Nat}(hb:C<f.blocks.length)(hc:ky f C=true){way:List Int}(h:za f C X way):oJ f C X way=true:=by
 obtain⟨hg,⟨t,rfl⟩,hl⟩:=h;have hs:=NQ hg
 have U:¬ (((C:Int)::t).length=0\/1200<((C:Int)::t).length\/((C:Int)::t).getD 0 0≠(C:Int)):=by
  rintro(h|h|h)
  .simp at h
  .omega
  .exact h rfl
 unfold oJ;rw[if_neg U,aO];refine⟨?_,YK (three J X) hg⟩
 have key:∀ i,i<((C:Int)::t).length->(0<=((C:Int)::t).getD i 0/\(((C:Int)::t).getD i 0).toNat<f.blocks.length)/\ky f (((C:Int)::t).getD i 0).toNat=true:=fun i=>by
  induction i with
  |zero=>exact fun _=>⟨⟨oS,by simpa using hb⟩,by simpa using hc⟩
  |succ i ih=>
   intro hi;obtain⟨h1,h2⟩:=ih oG;have hm:=I8 hs i hi;exact⟨beh_in J _ _ hm,Iu (beh_in J) J.pos h2 _ hm⟩
 refine bJ.2 fun i hi=>?_;have hi:i<((C:Int)::t).length:=by simpa using hi
 obtain⟨h1,h2⟩:=key i hi;unfold oc;rw[aO,aO,Bool.or_eq_true];refine⟨nV.2 ⟨h1.1,oG⟩,h2,?_⟩;cases i with
 |zero=>exact .inl rfl
 |succ i=>exact .inr (jD.2 (I8 hs i hi))
end Go.Argus
section
open Go Go.Abs Go.Proofs Go.Argus
namespace Go.Abs
def Ia:Value->Value->Bool
 | .int k n,.int k' n'=>decide (k=k')&&decide (n=n')
 | .bool a,.bool b=>a==b
 | .string a,.string b=>decide (a=b)
 |_,_=>false
theorem R9{a b:Value}(h:Ia a b=true):a=b:=by
 unfold Ia at h;split at h
 .rw[aO,decide_eq_true_eq,decide_eq_true_eq] at h;rw[h.1,h.2]
 .rw[show _=_ from eq_of_beq h]
 .rw[of_decide_eq_true h]
 .cases h
def lU(g:D->D->Bool):List D->List D->Bool
 |[],[]=>true
 |a::xs,b::bs=>g a b&&lU g xs bs
 |_,_=>false
def tF:Nat->D->D->Bool
 |0,_,_=>false
 |_+1,.s a,.s b=>Ia a b
 |_+1,.z,.z=>true
 |_+1,.sl [] 0,.z=>true
 |k+1,.agg a,.agg b=>lU (tF k) a b
 |k+1,.tup a,.tup b=>lU (tF k) a b
 |k+1,.sl a n,.sl b m=>Nat.beq n m&&lU (tF k) a b
 |k+1,.pt a,.pt b=>lU (tF k) a b
 |_+1,_,_=>false
theorem y5{g:D->D->Bool}:∀ {xs bs:List D},lU g xs bs=true->xs.length=bs.length/\∀ (k:Nat) a,xs[k]? =some a->∃ b,bs[k]? =some b/\g a b=true
 |[],[],_=>⟨rfl,fun k a h=>by simp at h⟩
 |a::xs,b::bs,h=>by
  simp only[lU,aO] at h;obtain⟨h1,h2⟩:=y5 h.2;refine⟨by simp[h1],fun k x hx=>?_⟩;cases k with
  |zero=>simp at hx;subst hx;exact⟨b,rfl,h.1⟩
  |succ k=>exact h2 k x (by simpa using hx)
 |[],_::_,h=>by simp[lU] at h
 |_::_,[],h=>by simp[lU] at h
theorem Bs{F:Nat->Prop}{β:Pla}{w:World}:∀ (k:Nat) {a b:D} {v:Value},tF k a b=true->R F β w b v->R F β w a v
 |0,a,b,v,h,_=>by simp[tF] at h
 |k+1,a,b,v,h,hv=>by
  unfold tF at h;split at h
  .cases h
  .rename_i e;rw[R9 h];exact hv
  .exact hv
  .obtain⟨x,rfl⟩:=hv.z_inv;exact .sln x 0
  .rename_i a b e;cases e;obtain⟨h1,h2⟩:=y5 h;cases hv with
   |agg _ vs hl hh=>
    refine .agg _ vs oG fun j d u hd hu=>?_;obtain⟨C,hb,hg⟩:=h2 j d hd;exact Bs k hg (hh j C u hb hu)
  .rename_i a b e;cases e;obtain⟨h1,h2⟩:=y5 h;cases hv with
   |tup _ vs hl hh=>
    refine .tup _ vs oG fun j d u hd hu=>?_;obtain⟨C,hb,hg⟩:=h2 j d hd;exact Bs k hg (hh j C u hb hu)
  .rename_i a n b m e;cases e;rw[aO] at h;have Ib:n=m:=Nat.eq_of_beq_eq_true h.1;obtain⟨h1,h2⟩:=y5 h.2;subst Ib;cases hv with
   |sln a' cap=>
    have:a=[]:=List.length_eq_zero_iff.1 (by simpa using h1);subst this;exact .sln _ _
   |sl _ _ C o cap us J U X g4 g5 g6 g7=>
    refine .sl _ _ C o cap us J U X g4 g5 (fun j hj=>g6 j oG) fun j d hd=>?_;obtain⟨d',hb,hg⟩:=h2 j d hd;exact Bs k hg (g7 j d' hb)
  .rename_i a b e;cases e;obtain⟨h1,h2⟩:=y5 h;cases hv with
   |pt _ C o us J U X g6 g7=>
    refine .pt _ C o us J U X (fun j hj=>g6 j oG) fun j d hd=>?_;obtain⟨d',hb,hg⟩:=h2 j d hd;exact Bs k hg (g7 j d' hb)
  .cases h
theorem Yi{P:Program}{f:FuncId}{args args':List D}{r:D}{k:Nat}(hc:PCall P f args' r)(h:lU (tF k) args' args=true)(ht:∀ a∈args,Tr a):PCall P f args r:=by
 obtain⟨h1,h2⟩:=y5 h;refine⟨hc.1,ht,fun F w vs hF hR=>hc.2.2 F w vs hF ⟨by rw[hR.1,h1],fun j d v hd hv=>?_⟩⟩;obtain⟨b,hb,hg⟩:=h2 j d hd;exact Bs k hg (hR.2 j b v hb hv)
theorem aaD{P:Program}{f:FuncId}{fs C:List D}{xs:List (List D)}{k:Nat}(hc:SeqA P f C [] xs)(h:lU (tF k) C fs=true):SeqA P f fs [] xs:=by
 obtain⟨h1,h2⟩:=y5 h;refine⟨hc.1,fun F l I Stop m nx β w vs J hS hm hn hR hy h0=>hc.2 F l I Stop m nx β w vs J hS hm hn ⟨?_,fun j d v hd hv=>?_⟩ hy h0⟩
 .have:=hR.1;simp only[List.length_append] at this ⊢;omega
 .rcases Nat.lt_or_ge j C.length with g|g
  .rw[List.append_nil,List.getElem?_append_left g] at hd;obtain⟨b,hb,hg⟩:=h2 j d hd;exact Bs k hg (hR.2 j b v (by rw[List.append_nil,List.getElem?_append_left oG];exact hb) hv)
  .rw[List.append_nil,List.getElem?_append_right g] at hd;exact hR.2 j d v (by rw[List.append_nil,List.getElem?_append_right oG, <- h1];exact hd) hv
def GA(t:List (FuncId×List D×D))(f:FuncId)(args:List D):Option D:=(t.find? fun x=>Nat.beq x.1 f&&(lU (tF 20) x.2.1 args&&args.all (qB depth))).map (·.2.2)
def G0(t:List (FuncId×List D×List (List D)))(f:FuncId)(fs cs:List D):Option (List (List D)):=match cs with
 |[]=>(t.find? fun x=>Nat.beq x.1 f&&lU (tF 20) x.2.1 fs).map (·.2.2)
 |_=>none
theorem ON{P:Program}{t:List (FuncId×List D×D)}(h:∀ x∈t,PCall P x.1 x.2.1 x.2.2){f:FuncId}{args:List D}{r:D}(hr:GA t f args=some r):PCall P f args r:=by
 unfold GA at hr;rw[dw] at hr;obtain⟨x,hx,rfl⟩:=hr;have h1:=List.find?_some hx;rw[aO,aO] at h1;have hf:x.1=f:=Nat.eq_of_beq_eq_true h1.1;have:=h x (List.mem_of_find?_eq_some hx);rw[hf] at this;exact Yi this h1.2.1 fun a ha=>pV (bJ.1 h1.2.2 a ha)
theorem PI{P:Program}{t:List (FuncId×List D×List (List D))}(h:∀ x∈t,SeqA P x.1 x.2.1 [] x.2.2/\∀ y∈x.2.2,∀ d∈y,Tr d){f:FuncId}{fs cs:List D}{xs:List (List D)}(hr:G0 t f fs cs=some xs):SeqA P f fs cs xs/\∀ y∈xs,∀ d∈y,Tr d:=by
 unfold G0 at hr;split at hr
 .rw[dw] at hr;obtain⟨x,hx,rfl⟩:=hr;have h1:=List.find?_some hx;rw[aO] at h1;have hf:x.1=f:=Nat.eq_of_beq_eq_true h1.1;have h2:=h x (List.mem_of_find?_eq_some hx);rw[hf] at h2;exact⟨aaD h2.1 h1.2,h2.2⟩
 .cases hr
def Co:Nat->D->D->Bool
 |0,_,_=>false
 |_+1,.s a,.s b=>Ia a b
 |_+1,.z,.z=>true
 |k+1,.sl a n,.sl b m=>Nat.beq n m&&lU (Co k) a b
 |_+1,_,_=>false
theorem QG{g:D->D->Bool}(hg:∀ a b,g a b=true->a=b):∀ {xs bs:List D},lU g xs bs=true->xs=bs
 |[],[],_=>rfl
 |a::xs,b::bs,h=>by
  simp only[lU,aO] at h;rw[hg a b h.1,QG hg h.2]
 |[],_::_,h=>by simp[lU] at h
 |_::_,[],h=>by simp[lU] at h
theorem acS:∀ (k:Nat) (a b:D),Co k a b=true->a=b:=fun k=>by
 induction k with
 |zero=>exact fun a b h=>by simp[Co] at h
 |succ k ih=>
  intro a b h;cases a<;>cases b<;>simp only[Co,aO,reduceCtorEq,Bool.false_eq_true] at h ⊢
  .rw[R9 h]
  .rw[Nat.eq_of_beq_eq_true h.1,QG ih h.2]
def DN:Nat->Code->List Code
 |k+1,.seq a b=>a::DN k b
 |_,_=>[]
def G3:Nat->Code->Code
 |k+1,.seq a b=>G3 k b
 |_,c=>c
theorem parts_eq:∀ (k:Nat) (c:Code),c=(DN k c).foldr .seq (G3 k c)
 |0,c=>by cases c<;>rfl
 |k+1,c=>by
  cases c with
  |seq a b=>
   show Code.seq a b=.seq a ((DN k b).foldr .seq (G3 k b));rw[<- parts_eq k b]
  |_=>rfl
def DO(C:Bool->Code->cw->Option (Exit×cw)):List Code->cw->Option cw
 |[],s=>some s
 |c::cs,s=>match C true c s with
  |some (.normal,s')=>DO C cs s'
  |_=>none
theorem OO{P:Program}{U:Bool->Code->cw->Option (Exit×cw)}(C:Bz P U){B:Code}{Q:Exit->St->Prop}:∀ {cs:List Code} {c:Code} {s s':cw},DO U (c::cs) s=some s'->(∃ st',Ghost P s'.st st'/\AW P noY true B Q st')->AW P noY true ((c::cs).foldr .seq B) Q s.st
 |[],c,s,s',h,k=>by
  simp only[DO] at h;split at h
  .rename_i J he;cases h;exact ew (fun st=>st=s'.st) (C _ _ _ _ _ he _ rfl) fun st e=>e▸k
  .cases h
 |d::cs,c,s,s',h,k=>by
  rw[DO] at h;split at h
  .rename_i J he;exact ew (fun st=>st=J.st) (C _ _ _ _ _ he _ rfl) fun st e=>⟨J.st,e▸ .refl _,OO C h k⟩
  .cases h
section
variable{P:Program}{env:Env}{m:Mem}{nx:Nat}{x y:Operand}{t p:TypeId}{n n':Int}
variable{Y:YSpec}{rf:Bool}{Q:Exit->St->Prop}{st:St}{id iF i1:Nat}{rc:Array Oper}{body:Code}{α:Type}{cf:List (Nat×Nat)}{u:Nat}
end
theorem Kn{P:Program}{Y:YSpec}{rf:Bool}{b:Code}{Q:Exit->St->Prop}{env:Env}{m:Mem}{nx:Nat}{l:List (Nat×D)}(he:jk l env)(K:∀ M,M=m->AW P Y rf b Q ⟨az l,M,nx⟩):
 ∃ st',Ghost P ⟨env,m,nx⟩ st'/\AW P Y rf b Q st':=⟨_,aq he,K m rfl⟩
end Go.Abs
namespace Go.Proofs.Tryz.K
set_option maxRecDepth 100000
theorem Zq:dS qm=0:=kr
theorem Zr:vD qm=wk:=kr
end Go.Proofs.Tryz.K
namespace Go.Argus
def T3(n:Int):List Int:=n::List.replicate 18 0
def T4:D:=.sl (bD ([1,3,3,2,7].map T3)) 5
def R':D:=.sl (bD ([3,3,7,2,7].map T3)) 5
def DM:List (List D):=[[I 0],[I 1],[I 2],[I 3],[I 4]]
def VC:List (List a7):=[[],[⟨1,1,0,0,0,[]⟩],[⟨1,2,0,0, -1,[]⟩]]
def L1(f:FuncId)(fs cs:List D):Option (List (List D)):=match G0 [(61,[.pt wk],DM)] f fs cs with
 |some x=>some x
 |none=>match fs,cs with
  |[],[.pt [e]]=>if Nat.beq f 176 then(VC.find? fun l=>Co 10 (dG l) e).map vN else none
  |_,_=>none
def DP:D:=.sl [.z,.sl [I 1] 1,.sl [I 1] 1,.z,.sl [I 1] 1] 5
end Go.Argus
namespace Go.Proofs.Tryz.K
set_option maxRecDepth 100000
theorem T5:PCall prog 51 [.agg (aD qm)] (.tup [.pt wk,I 0]):=by
 have h:=Km Zq;rw[Zr] at h;exact h
theorem T6:SeqA prog 61 [.pt wk] [] DM:=s61 (f:=qm) (cnt:=[true,true,true,true,true]) oC
theorem aaE{l:List a7}{y:List D}{d:D}(hy:y∈vN l)(hd:d∈y):Tr d:=by
 unfold vN at hy;rw[List.mem_map] at hy;obtain⟨i,_,rfl⟩:=hy;simp only[List.mem_cons,List.not_mem_nil,or_false] at hd;rcases hd with rfl|rfl
 .exact .s _
 .exact .agg (mg _)
theorem abR{f:FuncId}{fs cs:List D}{xs:List (List D)}(h:L1 f fs cs=some xs):SeqA prog f fs cs xs/\∀ y∈xs,∀ d∈y,Tr d:=by
 unfold L1 at h;split at h
 .rename_i x hx;cases h
  exact PI (fun x hx=>by
   simp only[List.mem_singleton] at hx;subst hx;refine⟨T6,fun y hy d hd=>?_⟩;simp only[DM,List.mem_cons,List.not_mem_nil,or_false] at hy
   rcases hy with rfl|rfl|rfl|rfl|rfl<;>(simp only[List.mem_singleton] at hd;subst hd;exact .s _)) hx
 .rename_i hn;clear hn;split at h
  .rename_i e;split at h
   .rename_i hf;rw[dw] at h;obtain⟨l,hl,rfl⟩:=h;have hm:=List.mem_of_find?_eq_some hl;have he:=acS 10 _ _ (List.find?_some (p:=fun l=>Co 10 (dG l) e) hl);subst he;have hf:f=176:=Nat.eq_of_beq_eq_true hf;subst hf
    have hlen:l.length<=100000:=by
     simp only[VC,List.mem_cons,List.not_mem_nil,or_false] at hm;rcases hm with rfl|rfl|rfl<;>decide
    refine⟨Vh hlen,fun y hy d hd=>?_⟩;exact aaE hy hd
   .cases h
  .cases h
noncomputable def WR:Ctx:=⟨fun f=>Em.get f,L1,GA [(51,[.agg (aD qm)],.tup [.pt wk,I 0])]⟩
theorem Sa:WR.Ok prog:=⟨mixed,Kj,fun _ _ _ _ h=>abR h,
 fun _ _ _ h=>ON (fun x hx=>by
  simp only[List.mem_singleton] at hx;subst hx
  exact T5) h⟩
theorem aeH:PCall prog 65 [.pt wk] (.tup [T4,R']):=lF Sa 1000 rfl kr
end Go.Proofs.Tryz.K
namespace Go.Proofs.Tryz.K
set_option maxRecDepth 100000
open Go.Abs
theorem acT:G3 6 dC=.seq (.seq (.region 16 (Z dC 16) false) (.block 6 (.loop (.seq (.region 17 (Z dC 17) false) (.seq (.cond (.tmp 83) .skip (.exit 6)) (.seq (.block 7 (.seq (.region 18 (Z dC 18) false) (.seq (.region 19 (Z dC 19) false) (.region 20 (Z dC 20) true)))) (.region 21 (Z dC 21) false))))))) (.seq (.region 22 (Z dC 22) false) .ret):=by rw[VD];rfl
def nS:List (Nat×Row):=[(4,.cells [.z,.rs 11 0 1,.rs 9 0 1,.z,.rs 7 0 1] 27),(5,.cells [.rs 4 0 5] 28),(7,.cells [I 1] 3),(9,.cells [I 1] 3),(11,.cells [I 1] 3)]
noncomputable def WS:Option cw:=match xj 0 [.agg (aD qm)] .leaf with
 |some t=>DO (zZ prog WR 1000) (DN 6 dC) ⟨t,.leaf,0⟩
 |none=>none
theorem f39:(WS.map fun s=>(dA s.env 7,eW s.mem 4,eW s.mem 5,eW s.mem 7,eW s.mem 9,eW s.mem 11,s.nx))=some (.rp 5 0,some (.cells [.z,.rs 11 0 1,.rs 9 0 1,.z,.rs 7 0 1] 27),some (.cells [.rs 4 0 5] 28),some (.cells [I 1] 3),some (.cells [I 1] 3),some (.cells [I 1] 3),12):=kr
end Go.Proofs.Tryz.K
namespace Go.Proofs.Tryz.K
set_option maxRecDepth 10000
theorem VE:PCall prog 89 [.z] (.tup []):=lF nq 100 rfl kr
theorem VF:PCall prog 90 [.z] .z:=lF nq 100 rfl kr
theorem w39:AW prog noY true (.seq (.seq (.region 16 (Z dC 16) false) (.block 6 (.loop (.seq (.region 17 (Z dC 17) false) (.seq (.cond (.tmp 83) .skip (.exit 6)) (.seq (.block 7 (.seq (.region 18 (Z dC 18) false) (.seq (.region 19 (Z dC 19) false) (.region 20 (Z dC 20) true)))) (.region 21 (Z dC 21) false))))))) (.seq (.region 22 (Z dC 22) false) .ret)) (retQ prog [.tmp 2,.tmp 3] fun d _=>d=.tup [DP,I 0]) ⟨az [(7,.rp 5 0)],bm nS,12⟩:=by
 refine aC (aw ?_);refine au ?_;refine ab (bV (fun s=>Ghost prog s ⟨az [(7,.rp 5 0)],bm nS,12⟩) (dM (α:=Nat) (fun k=>⟨az [(7,.rp 5 0),(81,I 5),(82,I k)],bm nS,12⟩) (fun k=>k<=5) (fun k=>5 - k) 0 (aP eH eH) (Nat.zero_le _) ?_) ?_)
 .intro k hk;refine SS ?_;refine ab ⟨_,rfl,fun h=>?_,fun h=>?_⟩
  .have ap:k<5:=by have h:(k:Int)<5:=by simpa using h
                   omega
   have hc:k=0\/k=3\/k=1\/k=2\/k=4:=by omega
   rcases hc with rfl|rfl|rfl|rfl|rfl
   .have wC:=VE;have E3:=VF;refine ws ?_;refine af ?_;refine er ?_;refine aJ ?_;refine cl wC ?_;refine ab (kU CD ?_);refine bK ?_;refine cl E3 ?_;refine af ?_;refine a8 bf ?_;refine af ?_;exact ab (aK (0+1) (aP eH eH) oG oG)
   .have wC:=VE;have E3:=VF;refine ws ?_;refine af ?_;refine er ?_;refine aJ ?_;refine cl wC ?_;refine ab (kU CD ?_);refine bK ?_;refine cl E3 ?_;refine af ?_;refine a8 bf ?_;refine af ?_;exact ab (aK (3+1) (aP eH eH) oG oG)
   .refine ws ?_;refine af ?_;refine ab (aw ?_);refine aJ ?_;refine kZ (wC (i:=11) (l:=[1]) oG rfl rfl oC) rfl dd fun d m' nx' hp=>?_;obtain⟨rfl,rfl,rfl⟩:=hp;refine ab (aI (aP (l:=[(7,.rp 5 0),(12,I 1),(81,I 5),(82,I 1)]) (ml:=nS) eH eH) (kU CD ?_));refine bK ?_;refine GW (r:=.rs 11 0 1) (ups:=[(11,some (.cells [I 1] 3))]) (rds:=[11]) (fun C X U=>?_) (fun i hi=>?_) rfl dd ?_
    .have e:=U 11 oS (by simp[nS,bm]);have e:C 11=some (.cells ([1].map I) 3):=e;refine F4 e BE.he fun J=>(Eo (d:=[1]) J e rfl oC).mono ?_;rintro r m' nx' ⟨h1,h2,h3⟩;exact⟨h2,h3,h1⟩
    .simp at hi;subst hi;exact⟨oS,by simp[nS,bm]⟩
    show AOps _ _ _ _ _ _ _ ⟨up _ 96 _,up (bm nS) 11 (some (.cells [I 1] 3)),_⟩ _;refine af ?_;refine a8 bf ?_;refine af ?_;exact ab (aK (1+1) (aP eH eH) oG oG)
   .refine ws ?_;refine af ?_;refine ab (aw ?_);refine aJ ?_;refine kZ (wC (i:=9) (l:=[1]) oG rfl rfl oC) rfl dd fun d m' nx' hp=>?_;obtain⟨rfl,rfl,rfl⟩:=hp;refine ab (aI (aP (l:=[(7,.rp 5 0),(12,I 2),(81,I 5),(82,I 2)]) (ml:=nS) eH eH) (kU CD ?_));refine bK ?_;refine GW (r:=.rs 9 0 1) (ups:=[(9,some (.cells [I 1] 3))]) (rds:=[9]) (fun C X U=>?_) (fun i hi=>?_) rfl dd ?_
    .have e:=U 9 oS (by simp[nS,bm]);have e:C 9=some (.cells ([1].map I) 3):=e;refine F4 e BE.he fun J=>(Eo (d:=[1]) J e rfl oC).mono ?_;rintro r m' nx' ⟨h1,h2,h3⟩;exact⟨h2,h3,h1⟩
    .simp at hi;subst hi;exact⟨oS,by simp[nS,bm]⟩
    show AOps _ _ _ _ _ _ _ ⟨up _ 96 _,up (bm nS) 9 (some (.cells [I 1] 3)),_⟩ _;refine af ?_;refine a8 bf ?_;refine af ?_;exact ab (aK (2+1) (aP eH eH) oG oG)
   .refine ws ?_;refine af ?_;refine ab (aw ?_);refine aJ ?_;refine kZ (wC (i:=7) (l:=[1]) oG rfl rfl oC) rfl dd fun d m' nx' hp=>?_;obtain⟨rfl,rfl,rfl⟩:=hp;refine ab (aI (aP (l:=[(7,.rp 5 0),(12,I 4),(81,I 5),(82,I 4)]) (ml:=nS) eH eH) (kU CD ?_));refine bK ?_;refine GW (r:=.rs 7 0 1) (ups:=[(7,some (.cells [I 1] 3))]) (rds:=[7]) (fun C X U=>?_) (fun i hi=>?_) rfl dd ?_
    .have e:=U 7 oS (by simp[nS,bm]);have e:C 7=some (.cells ([1].map I) 3):=e;refine F4 e BE.he fun J=>(Eo (d:=[1]) J e rfl oC).mono ?_;rintro r m' nx' ⟨h1,h2,h3⟩;exact⟨h2,h3,h1⟩
    .simp at hi;subst hi;exact⟨oS,by simp[nS,bm]⟩
    show AOps _ _ _ _ _ _ _ ⟨up _ 96 _,up (bm nS) 7 (some (.cells [I 1] 3)),_⟩ _;refine af ?_;refine a8 bf ?_;refine af ?_;exact ab (aK (4+1) (aP eH eH) oG oG)
  .have bh:¬ k<5:=by intro hh;simp at h;omega
   exact aP eH eH
 .intro s hg;refine⟨_,hg,aw ?_⟩;refine au ?_;refine ab (aI (bw [(7,[I 1],3),(9,[I 1],3),(11,[I 1],3),(4,[.z,.sl [I 1] 1,.sl [I 1] 1,.z,.sl [I 1] 1],27)] eH (l:=[(2,DP),(3,I 0)]) ⟨?_,rfl,trivial⟩) (dN rfl rfl rfl));show sub (fz0 4 _ (prog.cellsOf 27)) (.rs 4 0 5)=_;exact j0 (by rw[Ch];rfl)
theorem aeI:PCall prog 39 [.agg (aD qm)] (.tup [DP,I 0]):=by
 have wD:∀ n,Tr (I n):=fun n=>.s _;have aZ:Tr (.tup [DP,I 0]):=pV (n:=5) rfl;refine bc VG (.cons (.agg (fu qm)) .nil) aZ ?_;rw[air];have h:=f39;unfold WS at h;cases U:xj 0 [.agg (aD qm)] .leaf with
 |none=>rw[U] at h;cases h
 |some t=>
  rw[U] at h;simp only[dw] at h;obtain⟨s,X,he⟩:=h;have vU:=N5 U
  have aU:(⟨t,.leaf,0⟩:cw).st=⟨envOf [.agg (aD qm)],fun _=>none,0⟩:=by
   unfold cw.st;rw[vU,YQ]
  rw[<- aU,parts_eq 6 dC]
  have hp:∃ c cs,DN 6 dC=c::cs:=by
   rw[VD];exact⟨_,_,rfl⟩
  obtain⟨c,cs,nI⟩:=hp;rw[nI] at X ⊢;refine OO (RO Sa 1000) X ?_;rw[acT];simp only[b8] at he;obtain⟨e7,e4,e5,C,e9,wK,J⟩:=he;refine⟨⟨az [(7,.rp 5 0)],bm nS,12⟩,?_,w39⟩;have:s.st=⟨dA s.env,eW s.mem,12⟩:=by unfold cw.st;rw[J]
  rw[this];exact aP ⟨e7,trivial⟩ ⟨e4,e5,C,e9,wK,trivial⟩
end Go.Proofs.Tryz.K
namespace Go.Proofs.Tryz.K
set_option maxRecDepth 100000
noncomputable def cx2:Ctx:=⟨fun f=>Em.get f,G0 [(61,[.pt wk],DM)],GA [(51,[.agg (aD qm)],.tup [.pt wk,I 0]),(65,[.pt wk],.tup [T4,R']),(39,[.agg (aD qm)],.tup [DP,I 0])]⟩
theorem acU:cx2.Ok prog:=⟨mixed,Kj,fun _ _ _ _ h=>PI (fun x hx=>by
 simp only[List.mem_singleton] at hx;subst hx;refine⟨T6,fun y hy d hd=>?_⟩;simp only[DM,List.mem_cons,List.not_mem_nil,or_false] at hy
 rcases hy with rfl|rfl|rfl|rfl|rfl<;>(simp only[List.mem_singleton] at hd;subst hd;exact .s _)) h,
 fun _ _ _ h=>ON (fun x hx=>by
  simp only[List.mem_cons,List.not_mem_nil,or_false] at hx;rcases hx with rfl|rfl|rfl
  .exact T5
  .exact aeH
  .exact aeI) h⟩
theorem E0:PCall prog 17 [] (B true):=lF acU 1000 rfl kr
end Go.Proofs.Tryz.K
end
namespace Go.Argus
section
variable{V:Nat->Prop}{pl N O:Nat->Nat}
end
section
variable{E:Nat->Nat->Prop}{R:Nat->Prop}{pl:Nat->Nat}
end
section
variable{beh:Nat->List Int}{n:Nat}(hb:∀ b,∀ c∈beh b,0<=c/\c.toNat<n)(hn:0<n)
include hb hn
end
section
variable{V:Nat->Prop}{plL out:List Int}{pl:Nat->Nat}{n:Nat}
end
structure zL(beh ahd:Nat->List Int)(n:Nat):Prop where
 pos:0<n
 to:∀ b,∀ c∈beh b,0<=c/\c.toNat<n
 fro:∀ (c:Nat) (a:Int),a∈ahd c↔0<=a/\a.toNat<n/\(c:Int)∈beh a.toNat
section
variable{beh ahd:Nat->List Int}{n:Nat}(h:zL beh ahd n)
include h
end
section
variable{beh ahd:Nat->List Int}{n:Nat}(h:zL beh ahd n)
include h
end
section
variable{beh ahd:Nat->List Int}{n:Nat}(h:zL beh ahd n)
include h
end
section
variable{cnt:List Bool}{ahd:Nat->List Int}{n:Nat}(z9:∀ b,∀ a∈ahd b,0<=a/\a.toNat<n)
include z9
end
section
variable{beh ahd:Nat->List Int}{n:Nat}(h:zL beh ahd n)
include h
end
end Go.Argus
section
open Go Go.Abs Go.Proofs Go.Argus
namespace Go.Argus
def fG(f:aA):Nat->List Int:=bt (bg f)
def jP(f:aA):Nat->List Int:=bt (bX f.blocks)
theorem w7{f:aA}{c:Nat}(h:c<f.blocks.length):jP f c=bN f.blocks f.blocks.length c:=by
 unfold jP bt;rw[bF,AH rfl h];rfl
theorem PK{f:aA}{c:Nat}(h:f.blocks.length<=c):jP f c=[]:=by
 unfold jP bt;rw[bF,List.getElem?_eq_none (by simp[bX];omega)];rfl
theorem Lw{f:aA}(h:jl f):zL (fG f) (jP f) f.blocks.length:=by
 refine⟨h.pos,Go.Proofs.Tryz.K.beh_in h,fun c a=>?_⟩;rcases Nat.lt_or_ge c f.blocks.length with g|g
 .rw[w7 g,yU];constructor
  .rintro⟨b,rfl,hb,x,hx,t,ht,e⟩;refine⟨oG,hb,?_⟩;show(c:Int)∈bt (bg f) _;rw[bx,qX hx];have:=Go.Proofs.Tryz.K.beh_in h b t (by rw[qX hx];exact ht);have e2:(c:Int)=t:=by omega
   rw[e2];exact ht
  .rintro⟨h0,hl,hm⟩;obtain⟨b,rfl⟩:=cN h0;rw[bx] at hl hm;have hx:=aG hl;have hm:(c:Int)∈bt (bg f) b:=hm;rw[qX hx] at hm;exact⟨b,rfl,hl,_,hx,c,hm,oG⟩
 .rw[PK g];refine⟨fun x=>by simp at x,fun⟨_,_,hm⟩=>?_⟩;have:=(Go.Proofs.Tryz.K.beh_in h _ _ hm).2;omega
theorem Jk{f:aA}(h:jl f)(b:Nat):(jP f b).length<=100000:=by
 rcases Nat.lt_or_ge b f.blocks.length with g|g
 .rw[w7 g];have:=FH (bs:=f.blocks) (fun b hb=>by have:=(h.ends b hb).wh;omega) f.blocks.length b;have:=h.lC;omega
 .rw[PK g];simp
def J6(l:List Int):Prop:=∀ (i j:Nat) x y,i<=j->l[i]? =some x->l[j]? =some y->x<=y
end Go.Argus
end
namespace Go.Argus
open Go Go.Abs
def aji(l:List Int)(j k:Nat):Prop:=(∀ p q,p<q->q<=k->p≠j->q≠j->l.getD p 0<=l.getD q 0)/\∀ q,j<q->q<=k->l.getD j 0<=l.getD q 0
def VX(l:List Int)(k:Nat):Prop:=∀ p q,p<=q->q<=k->l.getD p 0<=l.getD q 0
theorem OZ{l:List Int}{j:Nat}(h:j+1<l.length)(i:Nat):(swapAt l j).getD i 0=if i=j then l.getD (j+1) 0 else if i=j+1 then l.getD j 0 else l.getD i 0:=by
 unfold swapAt;simp only[bF,List.getElem?_set,List.length_set];by_cases e:j=i
 .subst e;rw[if_pos rfl,if_pos rfl,if_pos oG];rfl
 .rw[if_neg e,if_neg (show ¬ i=j from fun h=>e h.symm)];by_cases e2:j+1=i
  .subst e2;rw[if_pos rfl,if_pos rfl,if_pos h];rfl
  .rw[if_neg e2,if_neg (show ¬ i=j+1 from fun h=>e2 h.symm)]
theorem Rf{k:Nat}:∀ {j:Nat} {l:List Int},j<=k->k<l.length->aji l j k->VX (pB l j) k
 |0,l,_,_,h=>fun p q J hq=>by
  rw[pB];rcases Nat.lt_or_ge p q with g|g
  .by_cases hp:p=0
   .subst hp;exact h.2 q g hq
   .exact h.1 p q g hq hp oG
  .have:p=q:=by omega
   subst this;exact Int.le_refl _
 |j+1,l,hj,hk,h=>by
  rw[pB];split
  .rename_i ap;have C:=OZ (l:=l) (j:=j) oG;refine Rf oG (by simpa using hk) ⟨fun p q J hq hp U=>?_,fun q hq X=>?_⟩
   .rw[C,C,if_neg hp,if_neg U];by_cases e1:p=j+1
    .rw[if_pos e1,if_neg oG];exact h.1 j q oG hq oG oG
    .rw[if_neg e1];by_cases e2:q=j+1
     .rw[if_pos e2];exact h.1 p j oG oG e1 oG
     .rw[if_neg e2];exact h.1 p q J hq e1 e2
   .rw[C,C,if_pos rfl,if_neg oG];by_cases e2:q=j+1
    .rw[if_pos e2];omega
    .rw[if_neg e2];exact h.2 q oG X
  .rename_i bh;intro p q J hq;rcases Nat.lt_or_ge p q with g|g
   .by_cases e1:p=j+1
    .subst e1;exact h.2 q g hq
    .by_cases e2:q=j+1
     .subst e2;by_cases e3:p=j
      .subst e3;omega
      .have:=h.1 p j oG oG oG oG;omega
     .exact h.1 p q g hq e1 e2
   .have:p=q:=by omega
    subst this;exact Int.le_refl _
theorem PS{i:Nat}:∀ {j:Nat} {l:List Int},j<i->j<l.length->(pB l j).getD i 0=l.getD i 0
 |0,l,_,_=>rfl
 |j+1,l,h,hl=>by
  rw[pB];split
  .rw[PS oG oP,OZ oG,if_neg oG,if_neg oG]
  .rfl
theorem PT{l:List Int}:∀ k,k<l.length->VX (nv l k) k/\∀ i,k<i->(nv l k).getD i 0=l.getD i 0
 |0,_=>⟨fun p q C hq=>by
  have:p=q:=by omega
  subst this;exact Int.le_refl _,fun _ _=>rfl⟩
 |k+1,hk=>by
  obtain⟨h1,h2⟩:=PT (l:=l) k oG;rw[nv];refine⟨Rf (bP _) (by simpa using hk) ⟨fun p q C hq hp J=>h1 p q oG oG,fun q hq J=>by omega⟩,fun i hi=>?_⟩;rw[PS hi oP];exact h2 i oG
theorem XF(l:List Int):J6 (fN l):=fun i j x y C hx hy=>by
 obtain⟨hj,J⟩:=bL.1 hy;have hl:(fN l).length=l.length:=IN l;have h:=(PT (l:=l) (l.length - 1) oG).1 i j C oG;have e:nv l (l.length - 1)=fN l:=rfl;rw[e,bF,bF,hx,hy] at h;exact h
theorem Sz{d:List Int}(J:J6 d):∀ t,t<=d.length->(fD d t).Pairwise (·<·)/\(0<t->∀ x∈fD d t,x<=d.getD (t - 1) 0)
 |0,_=>⟨by simp[fD],fun h=>absurd h (Nat.lt_irrefl 0)⟩
 |t+1,ht=>by
  obtain⟨h1,h2⟩:=Sz J t oG
  have hg:∀ i,i<d.length->d[i]? =some (d.getD i 0):=fun i hi=>by
   have:=aG hi;rw[bF,this];rfl
  have C:∀ x∈fD d t,x<=d.getD t 0:=fun x hx=>by
   have h0:0<t:=by
    cases t with
    |zero=>simp[fD] at hx
    |succ t=>omega
   have a:=h2 h0 x hx;have b:=J (t - 1) t _ _ oG (hg _ oG) (hg _ oG);omega
  rw[fD];split
  .rw[List.append_nil];exact⟨h1,fun _ x hx=>by rw[Nat.add_sub_cancel];exact C x hx⟩
  .rename_i U;refine⟨?_,fun _ x hx=>?_⟩
   .rw[List.pairwise_append];refine⟨h1,oS,fun x hx y hy=>?_⟩;rw[List.mem_singleton] at hy;subst hy
    have h0:0<t:=by
     cases t with
     |zero=>simp[fD] at hx
     |succ t=>omega
    have a:=h2 h0 x hx;have b:=J (t - 1) t _ _ oG (hg _ oG) (hg _ oG);have c:d.getD t 0≠d.getD (t - 1) 0:=fun e=>U ⟨oG,e⟩;omega
   .rw[Nat.add_sub_cancel];rw[List.mem_append,List.mem_singleton] at hx;rcases hx with hx|hx
    .exact C x hx
    .rw[hx];exact Int.le_refl _
theorem XS{d:List Int}(C:J6 d):(kS d).Pairwise (·<·):=(Sz C _ (bP _)).1
theorem O1(x:End):(Go.Proofs.Tryz.K.nextR x).Pairwise (·<·):=XS (XF _)
theorem YG{b:Nat}:∀ (l:List Int) (L:Nat->List Int),l.Pairwise (·<·)->(∀ t∈l,0<=t)->(∀ i,(L i).Pairwise (·<·)/\∀ x∈L i,x<(b:Int))->
 ∀ i,(l.foldl (dz b) L i).Pairwise (·<·)/\(∀ x∈l.foldl (dz b) L i,x<(b:Int)+1):=fun l=>by
 have key:∀ (l:List Int) (L:Nat->List Int),l.Pairwise (·<·)->(∀ t∈l,0<=t)->∀ i,l.foldl (dz b) L i=L i++(if(i:Int)∈l then [(b:Int)] else []):=fun l=>by
  induction l with
  |nil=>intro L _ _ i;simp
  |cons t l ih=>
   intro L hp h0 i;rw[List.pairwise_cons] at hp;have ht:=h0 t oS;obtain⟨C,rfl⟩:=cN ht;rw[List.foldl_cons,ih _ hp.2 (fun t h=>h0 t (by simp[h]))];unfold dz;simp only[bx,up];by_cases e:i=C
   .subst e;rw[if_pos rfl,if_neg (fun h=>by have:=hp.1 _ h;omega),if_pos oS,List.append_nil]
   .rw[if_neg e];congr 1;have:¬ (i:Int)=C:=by omega
    simp[this]
 intro L hp h0 J i;rw[key l L hp h0 i];obtain⟨h1,h2⟩:=J i;split
 .refine⟨?_,fun x hx=>?_⟩
  .rw[List.pairwise_append];exact⟨h1,oS,fun x hx y hy=>by rw[List.mem_singleton] at hy;rw[hy];exact h2 x hx⟩
  .rw[List.mem_append,List.mem_singleton] at hx;rcases hx with hx|hx
   .have:=h2 x hx;omega
   .omega
 .rw[List.append_nil];exact⟨h1,fun x hx=>by have:=h2 x hx;omega⟩
theorem FJ{bs:List bB}(h0:∀ b∈bs,∀ t∈Go.Proofs.Tryz.K.nextR b.fin,0<=t):∀ k i,(bN bs k i).Pairwise (·<·)/\∀ x∈bN bs k i,x<(k:Int)
 |0,i=>by simp[bN]
 |k+1,i=>by
  have ih:=FJ h0 k;have e:bN bs (k+1)=pX bs (bN bs k) k:=by rw[bN,List.range_succ,List.foldl_append];rfl
  rw[e];unfold pX;cases hx:bs[k]? with
  |none=>exact⟨(ih i).1,fun x hx=>by have:=(ih i).2 x hx;omega⟩
  |some b=>
   obtain⟨h1,h2⟩:=YG (b:=k) (Go.Proofs.Tryz.K.nextR b.fin) (bN bs k) (O1 _) (h0 b (cx hx)) ih i;exact⟨h1,fun x hx=>by have:=h2 x hx;omega⟩
end Go.Argus
section
open Go Go.Abs Go.Proofs Go.Argus
namespace Go.Argus
def abS(p:Int×List Int):List D:=[I p.1,aB p.2]
@[simp] theorem ak7 (p : Int × List Int) : (abS p).length = 2 := rfl
end Go.Argus
end
namespace Go.Argus
open Go Go.Abs
open Go.Proofs.Tryz.K (nextR)
def yc(w v:List Int):Prop:=∀ r,bk w r=true->bk v r=true
theorem yc.refl(w:List Int):yc w w:=fun _ h=>h
theorem yc.trans{u w v:List Int}(h:yc u w)(k:yc w v):yc u v:=fun r x=>k r (h r x)
structure eF(w:List Int):Prop where
 len:w.length=20
 all:dY w
theorem eF.hU{w:List Int}(h:eF w)(n:Int):eF (hU w n):=⟨by simp[h.len],Od h.all⟩
theorem ajo{w v:List Int}(C:eF w)(hv:eF v)(h:yc w v)(n:Int):yc (hU w n) (hU v n):=by
 unfold Argus.hU;split
 .by_cases hn:n.toNat / 64<20
  .intro r;rw[PY C.all (by rw[C.len];exact hn),PY hv.all (by rw[hv.len];exact hn),Bool.or_eq_true,Bool.or_eq_true];exact Or.imp (h r) id
  .unfold iX;rw[List.set_eq_of_length_le (by rw[C.len];omega),List.set_eq_of_length_le (by rw[hv.len];omega)];exact h
 .exact h
theorem dY.fk{w v:List Int}(h:dY w)(hv:dY v):∀ k,dY (fk w v k)
 |0=>h
 |k+1=>(dY.fk h hv k).set (OC ((dY.fk h hv k).get _)).1
theorem O2{w v:List Int}(h:dY w)(hv:dY v):∀ k,k<=w.length->∀ r,bk (fk w v k) r=(bk w r&&(bk v r|| !decide (r / 64<k)))
 |0,_,r=>by simp[Argus.fk]
 |k+1,hk,r=>by
  have ih:=O2 h hv k oG;rw[Argus.fk,Gs oP];split
  .rename_i e;have h1:=ih r;have h2:¬ r / 64<k:=by omega
   simp only[h2,decide_false,Bool.not_false,Bool.or_true,Bool.and_true] at h1;unfold bk at h1;rw[e] at h1;rw[SA ((dY.fk h hv k).get _) (hv.get _),h1];unfold bk;rw[e];simp
  .rename_i e;rw[ih r];have:decide (r / 64<k)=decide (r / 64<k+1):=decide_eq_decide.2 oG;rw[this]
theorem JB{w v:List Int}(C:eF w)(hv:eF v)(r:Nat):bk (hZ w v) r=(bk w r&&bk v r):=by
 unfold hZ;rw[O2 C.all hv.all 20 (by rw[C.len];exact bP _)];by_cases hr:r / 64<20
 .simp[hr]
 .have:bk w r=false:=by
   unfold bk;rw[bF,List.getElem?_eq_none (by rw[C.len];omega)];simp
  simp[this]
theorem eF.Ma{w v:List Int}(C:eF w)(hv:eF v):eF (hZ w v):=⟨by simp[C.len],C.all.fk hv.all 20⟩
structure Mc(s t:List Int×Bool):Prop where
 l:eF s.1
 r:eF t.1
 sub:yc s.1 t.1
 ok:s.2=true->t.2=true
theorem ajn{w v:List Int}(J:eF w)(hv:eF v)(h:yc w v):∀ (rs:List Int) {a b:Bool},(a=true->b=true)->jg w a rs=true->jg v b rs=true
 |[],_,_,r8,hx=>r8 hx
 |r::rs,a,b,r8,hx=>by
  have hx:jg w (a&&ku w r.toNat) rs=true:=hx;refine ajn J hv h rs (a:=a&&ku w r.toNat) (b:=b&&ku v r.toNat) ?_ hx;rw[aO,aO,F6 J.all,F6 hv.all];exact fun C=>⟨r8 C.1,h _ C.2⟩
theorem FX{s t:List Int×Bool}(h:Mc s t)(x:a7):Mc (mw s x) (mw t x):=by
 refine⟨h.l.hU _,h.r.hU _,ajo h.l h.r h.sub _,?_⟩;unfold mw;simp only[aO,Bool.or_eq_true];rintro⟨a,b⟩;refine⟨ajn h.l h.r h.sub _ h.ok a,b.imp id ?_⟩;rw[F6 h.l.all,F6 h.r.all];exact h.sub _
theorem Rg:∀ (l:List a7) {s t:List Int×Bool},Mc s t->Mc (l.foldl mw s) (l.foldl mw t)
 |[],_,_,h=>h
 |x::l,_,_,h=>Rg l (FX h x)
theorem aaW{w v:List Int}(C:eF w)(hv:eF v)(h:yc w v)(l:List a7):Mc (jw l w) (jw l v):=Rg l ⟨C,hv,h,fun x=>x⟩
theorem eF.ins{w:List Int}(C:eF w)(l:List a7):eF (jw l w).1:=(aaW C C (.refl w) l).l
theorem FV{α:Type}{f:CS->α->CS}(hk:∀ s a,s.ch=true->(f s a).ch=true)(hn:∀ s a,(f s a).ch=false->f s a=s):∀ (l:List α) (s:CS),(l.foldl f s).ch=false->l.foldl f s=s/\∀ a∈l,f s a=s
 |[],s,_=>⟨rfl,fun a ha=>by simp at ha⟩
 |a::l,s,h=>by
  obtain⟨h1,h2⟩:=FV hk hn l (f s a) h;have h3:f s a=s:=hn s a (by rw[<- h1];exact h);rw[h3] at h1 h2;refine⟨by rw[List.foldl_cons,h3];exact h1,fun b hb=>?_⟩;rcases List.mem_cons.1 hb with rfl|hb
  .exact h3
  .exact h2 b hb
theorem PU{α:Type}{f:CS->α->CS}(hk:∀ s a,s.ch=true->(f s a).ch=true):∀ (l:List α) (s:CS),s.ch=true->(l.foldl f s).ch=true
 |[],_,h=>h
 |a::l,s,h=>PU hk l (f s a) (hk s a h)
theorem Kq{x:End}{w:List Int}(s:CS)(t:Int)(h:s.ch=true):(cO x w s t).ch=true:=by
 unfold cO;split
 .rfl
 .exact h
theorem SB{x:End}{w:List Int}(s:CS)(t:Int)(h:(cO x w s t).ch=false):cO x w s t=s:=by
 unfold cO at h ⊢;split
 .rename_i hc;rw[if_pos hc] at h;cases h
 .rfl
theorem aaX{bs:List bB}(s:CS)(k:Nat)(h:s.ch=true):(dH bs s k).ch=true:=by
 unfold dH;split
 .exact h
 .split
  .exact PU Kq _ s h
  .exact h
theorem aaY{bs:List bB}(s:CS)(k:Nat)(h:(dH bs s k).ch=false):dH bs s k=s:=by
 unfold dH at h ⊢;split
 .rfl
 .rename_i x hx;rw[hx] at h;simp only at h;split
  .rename_i hr;rw[if_pos hr] at h;exact(FV Kq SB _ s h).1
  .rfl
structure VY(bs:List bB)(s:CS):Prop where
 fix:∀ b x,bs[b]? =some x->s.re.getD b false=true->∀ t∈nextR x.fin,s.re.getD t.toNat false=true/\hZ (s.ws.getD t.toNat []) (gG x.fin t (je x (s.ws.getD b [])).1)=s.ws.getD t.toNat []
theorem aaZ{bs:List bB}{s:CS}(h:(j4 bs s).ch=false):j4 bs s=⟨s.ws,s.re,false⟩/\VY bs (j4 bs s):=by
 obtain⟨h1,h2⟩:=FV (aaX (bs:=bs)) (aaY (bs:=bs)) (List.range bs.length) ⟨s.ws,s.re,false⟩ h;have e:j4 bs s=⟨s.ws,s.re,false⟩:=h1;refine⟨e,⟨fun b x hx hr t ht=>?_⟩⟩;rw[e] at hr ⊢;have h3:=h2 b (List.mem_range.2 (bL.1 hx).1);have h4:(dH bs ⟨s.ws,s.re,false⟩ b).ch=false:=by rw[h3]
 unfold dH at h3 h4;rw[hx] at h3 h4;simp only at h3 h4 hr;rw[if_pos hr] at h3 h4;have h5:=(FV Kq SB _ _ h4).2 t ht;have C:(cO x.fin (je x (s.ws.getD b [])).1 ⟨s.ws,s.re,false⟩ t).ch=false:=by rw[h5]
 unfold cO at C;split at C
 .cases C
 .rename_i hc;have hc:=not_or.1 hc;refine⟨by simpa using hc.1,Classical.byContradiction fun J=>hc.2 J⟩
theorem PV{bs:List bB}{n:Nat}{J:CS->Prop}(hb:∀ b∈bs,sP n b)(C:∀ s,fR n s->J s->J (j4 bs s)):∀ (k:Nat) (s:CS),fR n s->J s->qJ s<k->fR n (ng bs k s)/\VY bs (ng bs k s)/\J (ng bs k s)
 |0,s,_,_,h=>absurd h (Nat.not_lt_zero _)
 |k+1,s,hs,hj,h=>by
  obtain⟨U,X⟩:=Cw hb hs;unfold ng;split
  .rename_i hc;refine PV hb C k _ U (C s hs hj) ?_;unfold oR at X;rw[if_pos hc] at X;omega
  .rename_i hc;exact⟨U,(aaZ (by simpa using hc)).2,C s hs hj⟩
theorem aa0{bs:List bB}{n:Nat}{J:CS->Prop}(hb:∀ b∈bs,sP n b)(h0:∀ s,J s->J ⟨s.ws,s.re,false⟩)(U:∀ s k,fR n s->J s->J (dH bs s k)){s:CS}(C:fR n s)(h:J s):J (j4 bs s):=by
 unfold j4
 have:∀ (l:List Nat) (s:CS),fR n s->J s->J (l.foldl (dH bs) s):=fun l=>by
  induction l with
  |nil=>exact fun s _ h=>h
  |cons a l ih=>exact fun s C h=>ih _ (Jp hb C).1 (U s a C h)
 exact this _ _ ⟨C.lw,C.lr,C.jX,C.rg⟩ (h0 s h)
theorem ab4{bs:List bB}{n:Nat}{J:CS->Prop}(hb:∀ b∈bs,sP n b){s:CS}{k:Nat}(hs:fR n s)(h:J s)
 (C:∀ x,bs[k]? =some x->s.re.getD k false=true->∀ u,fR n u->J u->∀ t∈nextR x.fin,J (cO x.fin (je x (s.ws.getD k [])).1 u t)):J (dH bs s k):=by
 unfold dH;split
 .exact h
 .rename_i x hx;split
  .rename_i hr;have C:=C x hx hr;have X:=(hb x (cx hx)).to;generalize (je x (s.ws.getD k [])).1=w at C
   have:∀ (l:List Int),(∀ t∈l,t∈nextR x.fin)->∀ u,fR n u->J u->J (l.foldl (cO x.fin w) u):=fun l=>by
    induction l with
    |nil=>exact fun _ u _ h=>h
    |cons a l ih=>exact fun hl u U h=>ih (fun t ht=>hl t (by simp[ht])) _ (FF U (X a (hl a oS))).1 (C u U h a (hl a oS))
   exact this _ (fun _ h=>h) s hs h
  .exact h
theorem fR.mS{n:Nat}{s:CS}(h:fR n s){b:Nat}(hb:b<n):eF (s.ws.getD b []):=by
 have hl:b<s.ws.length:=by rw[h.lw];exact hb
 have hx:s.ws[b]? =some s.ws[b]:=aG hl;rw[getD_some hx];have hm:s.ws[b]∈s.ws:=bO _;exact⟨h.jX _ hm,h.rg _ hm⟩
section
variable{bs:List bB}{args:Nat}(hb:∀ b∈bs,sP bs.length b)
include hb
end
end Go.Argus
namespace Go.Proofs.Tryz.K
open Go.Abs
theorem ZG:drawInfo (Z eC 16)=some [(17,19)]:=kr
theorem ZH:drawInfo (Z eC 18)=some [(0,2)]:=kr
theorem ZI:drawInfo (Z eC 26)=some [(0,9)]:=kr
theorem ZJ:drawInfo (Z eC 27)=some []:=kr
theorem ZK:drawInfo (Z eC 29)=some [(0,7)]:=kr
theorem aiF:eC=(S1 (G1 eC 0) (S1 (G1 eC 1) (S1 (S1 (G1 eC 2) (C1 17 (S1 (G1 eC 3) .ret) K1)) (S1 (G1 eC 4) (S1 (G1 eC 5) (S1 (S1 (G1 eC 6) (B1 0 (.loop (S1 (S1 (G1 eC 7) (C1 26 K1 (X1 0))) (S1 (B1 1 (S1 (S1 (G1 eC 9) (C1 33 (X1 1) K1)) (S1 (G1 eC 10) (S1 (G1 eC 11) (S1 (S1 (G1 eC 12) (B1 2 (.loop (S1 (S1 (G1 eC 13) (C1 47 K1 (X1 2))) (S1 (B1 3 (S1 (G1 eC 15) (S1 (S1 (G2 eC 16) (C1 76 (S1 (G1 eC 17) .ret) K1)) (S1 (G2 eC 18) (S1 (S1 (G1 eC 19) (C1 83 (G1 eC 20) K1)) (S1 (G1 eC 21) (B1 4 (.loop (S1 (S1 (G1 eC 22) (C1 101 K1 (X1 4))) (S1 (B1 5 (S1 (G1 eC 24) (S1 (S1 (G1 eC 25) (C1 115 (X1 5) K1)) (S1 (G2 eC 26) (S1 (G2 eC 27) (C1 136 (S1 (G1 eC 28) .ret) K1)))))) (G1 eC 23))))))))))) (G1 eC 14)))))) (S1 (G2 eC 29) (C1 146 (S1 (G1 eC 30) .ret) K1))))))) (G1 eC 8)))))) (S1 (G1 eC 31) .ret))))))):=kr
theorem aaJ:drawInfo (Z o9 9)=some [(3,14),(4,14)]:=kr
theorem aiA:o9=(S1 (G1 o9 0) (S1 (G1 o9 1) (S1 (S1 (G1 o9 2) (B1 0 (.loop (S1 (S1 (G1 o9 3) (C1 15 K1 (X1 0))) (S1 (B1 1 (S1 (G1 o9 5) (S1 (G1 o9 6) (B1 2 (.loop (S1 (S1 (G1 o9 7) (C1 24 K1 (X1 2))) (S1 (B1 3 (G2 o9 9)) (G1 o9 8)))))))) (G1 o9 4)))))) (S1 (G1 o9 10) .ret)))):=kr
theorem aiy:uj=(S1 (G1 uj 0) (S1 (G1 uj 1) (S1 (G1 uj 2) (S1 (S1 (G1 uj 3) (B1 0 (.loop (S1 (S1 (G1 uj 4) (C1 18 K1 (X1 0))) (S1 (B1 1 (G1 uj 6)) (G1 uj 5)))))) (S1 (G1 uj 7) .ret))))):=kr
theorem aiw:um=(S1 (G1 um 0) (S1 (G1 um 1) (S1 (B1 0 (.loop (S1 (S1 (G1 um 2) (C1 18 K1 (X1 0))) (B1 1 (G1 um 3))))) (S1 (S1 (G1 um 4) (C1 32 (S1 (G1 um 5) .ret) K1)) (S1 (G1 um 6) (S1 (G1 um 7) .ret)))))):=kr
theorem Yq:drawInfo (Z eh 12)=some []:=kr
theorem Yr:drawInfo (Z eh 26)=some []:=kr
theorem afA:eh=(S1 (G1 eh 0) (S1 (G1 eh 1) (S1 (S1 (G1 eh 2) (C1 18 (S1 (G1 eh 3) .ret) K1)) (S1 (G1 eh 4) (S1 (S1 (G1 eh 5) (B1 0 (.loop (S1 (S1 (G1 eh 6) (C1 25 K1 (X1 0))) (S1 (B1 1 (S1 (G1 eh 8) (S1 (G1 eh 9) (B1 2 (.loop (S1 (S1 (G1 eh 10) (C1 38 K1 (X1 2))) (S1 (B1 3 (S1 (G2 eh 12) (S1 (G1 eh 13) (C1 48 (S1 (G1 eh 14) .ret) K1)))) (G1 eh 11)))))))) (G1 eh 7)))))) (S1 (G1 eh 15) (S1 (G1 eh 16) (S1 (S1 (G1 eh 17) (B1 4 (.loop (S1 (S1 (G1 eh 18) (C1 60 K1 (X1 4))) (S1 (B1 5 (S1 (G1 eh 20) (S1 (S1 (G1 eh 21) (C1 71 (S1 (G1 eh 22) .ret) K1)) (S1 (S1 (G1 eh 23) (B1 6 (.loop (S1 (S1 (G1 eh 24) (C1 75 K1 (X1 6))) (S1 (B1 7 (S1 (G2 eh 26) (C1 106 (S1 (G1 eh 27) .ret) K1))) (G1 eh 25)))))) (S1 (G1 eh 28) (S1 (G1 eh 29) (S1 (S1 (G1 eh 30) (C1 117 (S1 (G1 eh 31) .ret) K1)) (S1 (G1 eh 32) (C1 120 (S1 (S1 (G1 eh 33) (C1 125 (S1 (G1 eh 34) .ret) K1)) (G1 eh 35)) K1))))))))) (G1 eh 19)))))) (S1 (G1 eh 36) .ret))))))))):=kr
theorem Yx:drawInfo (Z ei 19)=some []:=kr
theorem Yy:drawInfo (Z ei 25)=some [(0,8)]:=kr
theorem Yz:drawInfo (Z ei 30)=some []:=kr
theorem YA:drawInfo (Z ei 32)=some []:=kr
theorem afL:ei=(S1 (G1 ei 0) (S1 (G1 ei 1) (S1 (G1 ei 2) (S1 (S1 (G1 ei 3) (B1 0 (.loop (S1 (S1 (G1 ei 4) (C1 30 K1 (X1 0))) (S1 (B1 1 (G1 ei 6)) (G1 ei 5)))))) (S1 (G1 ei 7) (S1 (S1 (G1 ei 8) (B1 2 (.loop (S1 (S1 (G1 ei 9) (C1 45 K1 (X1 2))) (S1 (B1 3 (G1 ei 11)) (G1 ei 10)))))) (S1 (S1 (G1 ei 12) (B1 4 (.loop (S1 (S1 (G1 ei 13) (C1 54 K1 (X1 4))) (B1 5 (S1 (G1 ei 14) (S1 (G1 ei 15) (B1 6 (.loop (S1 (S1 (G1 ei 16) (C1 58 K1 (X1 6))) (S1 (B1 7 (S1 (S1 (G1 ei 18) (C1 65 (X1 7) K1)) (S1 (G2 ei 19) (S1 (G1 ei 20) (S1 (G1 ei 21) (B1 8 (.loop (S1 (S1 (G1 ei 22) (C1 79 K1 (X1 8))) (S1 (B1 9 (S1 (G1 ei 24) (S1 (G2 ei 25) (S1 (G1 ei 26) (S1 (S1 (G1 ei 27) (B1 10 (.loop (S1 (S1 (G1 ei 28) (C1 106 K1 (X1 10))) (S1 (B1 11 (G2 ei 30)) (G1 ei 29)))))) (S1 (G1 ei 31) (C1 124 (S1 (G2 ei 32) (G1 ei 33)) K1))))))) (G1 ei 23)))))))))) (G1 ei 17)))))))))))) (S1 (G1 ei 34) .ret)))))))):=kr
theorem Zw:drawInfo (Z tX 4)=some []:=kr
theorem afb:tX=(S1 (G1 tX 0) (S1 (S1 (G1 tX 1) (B1 0 (.loop (S1 (S1 (G1 tX 2) (C1 9 K1 (X1 0))) (S1 (B1 1 (S1 (G2 tX 4) (C1 20 (S1 (G1 tX 5) .ret) K1))) (G1 tX 3)))))) (S1 (G1 tX 6) .ret))):=kr
theorem afj:fw=(S1 (G1 fw 0) (S1 (S1 (G1 fw 1) (B1 0 (S1 (S1 (G1 fw 2) (C1 5 K1 (S1 (G1 fw 3) (C1 5 K1 (S1 (G1 fw 4) (C1 5 K1 (S1 (G1 fw 5) (C1 5 K1 (S1 (G1 fw 6) (C1 5 K1 (S1 (G1 fw 7) (C1 5 K1 (S1 (G1 fw 8) (C1 5 K1 (S1 (G1 fw 9) (C1 5 K1 (G1 fw 10))))))))))))))))) (C1 5 (S1 (G1 fw 11) .ret) (S1 (S1 (G1 fw 12) (C1 18 K1 (S1 (G1 fw 13) (C1 18 K1 (S1 (G1 fw 14) (C1 18 K1 (S1 (G1 fw 15) (C1 18 K1 (S1 (G1 fw 16) (C1 18 K1 (S1 (G1 fw 17) (C1 18 K1 (S1 (G1 fw 18) (C1 18 K1 (S1 (G1 fw 19) (C1 18 K1 (S1 (G1 fw 20) (C1 18 K1 (S1 (G1 fw 21) (C1 18 K1 (S1 (G1 fw 22) (C1 18 K1 (S1 (G1 fw 23) (C1 18 K1 (G1 fw 24))))))))))))))))))))))))) (C1 18 (S1 (G1 fw 25) .ret) (S1 (G1 fw 26) (C1 37 (S1 (G1 fw 27) .ret) (S1 (G1 fw 28) (C1 43 (S1 (G1 fw 29) .ret) K1)))))))))) (S1 (G1 fw 30) .ret))):=kr
theorem Zx:drawInfo (Z vw 3)=some [(2,3),(2,4),(0,5),(1,5)]:=kr
theorem afd:vw=(S1 (G1 vw 0) (S1 (S1 (G1 vw 1) (C1 7 (S1 (G1 vw 2) .ret) K1)) (S1 (G2 vw 3) (S1 (G1 vw 4) (S1 (G1 vw 5) .ret))))):=kr
theorem aff:gD=(S1 (G1 gD 0) (S1 (S1 (G1 gD 1) (B1 0 (S1 (S1 (G1 gD 2) (C1 5 K1 (S1 (G1 gD 3) (C1 5 K1 (S1 (G1 gD 4) (C1 5 K1 (S1 (G1 gD 5) (C1 5 K1 (S1 (G1 gD 6) (C1 5 K1 (S1 (G1 gD 7) (C1 5 K1 (S1 (G1 gD 8) (C1 5 K1 (S1 (G1 gD 9) (C1 5 K1 (S1 (G1 gD 10) (C1 5 K1 (S1 (G1 gD 11) (C1 5 K1 (S1 (G1 gD 12) (C1 5 K1 (S1 (G1 gD 13) (C1 5 K1 (S1 (G1 gD 14) (C1 5 K1 (S1 (G1 gD 15) (C1 5 K1 (S1 (G1 gD 16) (C1 5 K1 (S1 (G1 gD 17) (C1 5 K1 (S1 (G1 gD 18) (C1 5 K1 (S1 (G1 gD 19) (C1 5 K1 (S1 (G1 gD 20) (C1 5 K1 (S1 (G1 gD 21) (C1 5 K1 (S1 (G1 gD 22) (C1 5 K1 (G1 gD 23))))))))))))))))))))))))))))))))))))))))))) (C1 5 (S1 (G1 gD 24) .ret) K1)))) (S1 (G1 gD 25) .ret))):=kr
theorem Yu:drawInfo (Z o4 10)=some [(0,2)]:=kr
theorem afJ:o4=(S1 (G1 o4 0) (S1 (G1 o4 1) (S1 (G1 o4 2) (S1 (G1 o4 3) (S1 (S1 (G1 o4 4) (B1 0 (.loop (S1 (S1 (G1 o4 5) (C1 24 K1 (X1 0))) (S1 (B1 1 (G1 o4 7)) (G1 o4 6)))))) (S1 (S1 (G1 o4 8) (C1 52 (S1 (G1 o4 9) .ret) K1)) (S1 (G2 o4 10) .ret))))))):=kr
theorem ZC:drawInfo (Z pT 5)=some [(0,5)]:=kr
theorem ZD:drawInfo (Z pT 7)=some []:=kr
theorem afH:pT=(S1 (G1 pT 0) (S1 (G1 pT 1) (S1 (S1 (G1 pT 2) (B1 0 (.loop (S1 (S1 (G1 pT 3) (C1 18 K1 (X1 0))) (S1 (B1 1 (S1 (G2 pT 5) (S1 (G1 pT 6) (C1 33 (G2 pT 7) K1)))) (G1 pT 4)))))) (S1 (G1 pT 8) .ret)))):=kr
theorem afl:lH=(S1 (G1 lH 0) (S1 (S1 (G1 lH 1) (B1 0 (S1 (S1 (G1 lH 2) (C1 5 K1 (S1 (G1 lH 3) (C1 5 K1 (G1 lH 4))))) (C1 5 (S1 (G1 lH 5) .ret) (S1 (G1 lH 6) (C1 12 (S1 (S1 (G1 lH 7) (C1 16 (S1 (G1 lH 8) .ret) K1)) (S1 (G1 lH 9) .ret)) (S1 (G1 lH 10) (C1 20 (S1 (G1 lH 11) .ret) (S1 (S1 (G1 lH 12) (C1 25 K1 (G1 lH 13))) (C1 25 (S1 (G1 lH 14) .ret) K1)))))))))) (S1 (G1 lH 15) .ret))):=kr
theorem afa:n5=(S1 (G1 n5 0) (S1 (G1 n5 1) (S1 (S1 (G1 n5 2) (C1 12 (G1 n5 3) K1)) (S1 (S1 (G1 n5 4) (C1 25 (G1 n5 5) K1)) (S1 (S1 (G1 n5 6) (B1 0 (.loop (S1 (S1 (G1 n5 7) (C1 35 K1 (X1 0))) (S1 (B1 1 (G1 n5 9)) (G1 n5 8)))))) (S1 (S1 (G1 n5 10) (C1 49 (G1 n5 11) K1)) (S1 (G1 n5 12) .ret))))))):=kr
theorem afh:rh=(S1 (G1 rh 0) (S1 (S1 (G1 rh 1) (B1 0 (S1 (G1 rh 2) (C1 5 (S1 (G1 rh 3) .ret) (S1 (S1 (G1 rh 4) (C1 10 K1 (G1 rh 5))) (C1 10 (S1 (G1 rh 6) .ret) (S1 (G1 rh 7) (C1 15 (S1 (G1 rh 8) .ret) K1)))))))) (S1 (G1 rh 9) .ret))):=kr
theorem Yk:drawInfo (Z jh 16)=some []:=kr
theorem afn:jh=(S1 (G1 jh 0) (S1 (S1 (G1 jh 1) (C1 58 (S1 (G1 jh 2) .ret) K1)) (S1 (S1 (G1 jh 3) (B1 0 (.loop (S1 (S1 (G1 jh 4) (C1 63 K1 (X1 0))) (S1 (B1 1 (S1 (G1 jh 6) (C1 93 (S1 (G1 jh 7) .ret) K1))) (G1 jh 5)))))) (S1 (S1 (G1 jh 8) (B1 2 (.loop (S1 (S1 (G1 jh 9) (C1 98 K1 (X1 2))) (S1 (B1 3 (S1 (G1 jh 11) (C1 114 (S1 (G1 jh 12) .ret) K1))) (G1 jh 10)))))) (S1 (S1 (G1 jh 13) (B1 4 (.loop (S1 (S1 (G1 jh 14) (C1 119 K1 (X1 4))) (S1 (B1 5 (S1 (G2 jh 16) (C1 146 (S1 (G1 jh 17) .ret) K1))) (G1 jh 15)))))) (S1 (G1 jh 18) .ret)))))):=kr
theorem aeW:Gq=(S1 (G1 Gq 0) (S1 (G1 Gq 1) .ret)):=kr
theorem Yl:drawInfo (Z dq 35)=some []:=kr
theorem Ym:drawInfo (Z dq 40)=some []:=kr
theorem afs:dq=(S1 (G1 dq 0) (S1 (S1 (G1 dq 1) (B1 0 (S1 (G1 dq 2) (C1 10 (S1 (G1 dq 3) .ret) (S1 (G1 dq 4) (C1 25 (S1 (G1 dq 5) .ret) (S1 (S1 (G1 dq 6) (C1 37 K1 (S1 (G1 dq 7) (C1 37 K1 (S1 (G1 dq 8) (C1 37 K1 (G1 dq 9))))))) (C1 37 (S1 (G1 dq 10) .ret) (S1 (G1 dq 11) (C1 62 (S1 (G1 dq 12) .ret) (S1 (G1 dq 13) (C1 80 (S1 (G1 dq 14) .ret) (S1 (G1 dq 15) (C1 96 (S1 (G1 dq 16) .ret) (S1 (G1 dq 17) (C1 111 (S1 (G1 dq 18) .ret) (S1 (G1 dq 19) (C1 138 (S1 (G1 dq 20) .ret) (S1 (G1 dq 21) (C1 159 (S1 (G1 dq 22) .ret) (S1 (S1 (G1 dq 23) (C1 180 K1 (G1 dq 24))) (C1 180 (S1 (G1 dq 25) .ret) (S1 (G1 dq 26) (C1 197 (S1 (G1 dq 27) .ret) (S1 (G1 dq 28) (C1 207 (S1 (G1 dq 29) .ret) (S1 (G1 dq 30) (C1 217 (S1 (G1 dq 31) .ret) (S1 (G1 dq 32) (C1 229 (S1 (G1 dq 33) .ret) (S1 (G1 dq 34) (C1 241 (S1 (S1 (G2 dq 35) (C1 268 (S1 (G1 dq 36) .ret) K1)) (S1 (S1 (G1 dq 37) (B1 1 (.loop (S1 (S1 (G1 dq 38) (C1 273 K1 (X1 1))) (S1 (B1 2 (S1 (G2 dq 40) (C1 285 (S1 (G1 dq 41) .ret) K1))) (G1 dq 39)))))) (S1 (G1 dq 42) .ret))) K1)))))))))))))))))))))))))))))))) (S1 (G1 dq 43) .ret))):=kr
theorem Yo:drawInfo (Z gE 10)=some []:=kr
theorem Yp:drawInfo (Z gE 22)=some []:=kr
theorem afy:gE=(S1 (G1 gE 0) (S1 (G1 gE 1) (S1 (S1 (G1 gE 2) (B1 0 (S1 (G1 gE 3) (C1 10 (S1 (G1 gE 4) .ret) (S1 (G1 gE 5) (C1 20 (S1 (G1 gE 6) .ret) (S1 (G1 gE 7) (C1 42 (S1 (S1 (G1 gE 8) (C1 50 (S1 (G1 gE 9) .ret) K1)) (S1 (G2 gE 10) .ret)) (S1 (G1 gE 11) (C1 77 (S1 (G1 gE 12) .ret) (S1 (G1 gE 13) (C1 86 (S1 (G1 gE 14) .ret) (S1 (G1 gE 15) (C1 107 (S1 (G1 gE 16) .ret) (S1 (G1 gE 17) (C1 150 (S1 (G1 gE 18) .ret) (S1 (G1 gE 19) (C1 183 (S1 (G1 gE 20) .ret) (S1 (G1 gE 21) (C1 216 (S1 (G2 gE 22) .ret) K1)))))))))))))))))))) (S1 (G1 gE 23) .ret)))):=kr
theorem ZB:drawInfo (Z o5 9)=some []:=kr
theorem afF:o5=(S1 (G1 o5 0) (S1 (S1 (G1 o5 1) (C1 8 (S1 (G1 o5 2) .ret) K1)) (S1 (S1 (G1 o5 3) (C1 11 (S1 (G1 o5 4) .ret) K1)) (S1 (G1 o5 5) (S1 (S1 (G1 o5 6) (B1 0 (.loop (S1 (S1 (G1 o5 7) (C1 22 K1 (X1 0))) (S1 (B1 1 (G2 o5 9)) (G1 o5 8)))))) (S1 (G1 o5 10) .ret)))))):=kr
theorem aeS:vy=(S1 (G1 vy 0) (S1 (S1 (G1 vy 1) (B1 0 (.loop (S1 (S1 (G1 vy 2) (C1 7 K1 (X1 0))) (S1 (B1 1 (S1 (G1 vy 4) (C1 19 (S1 (G1 vy 5) .ret) K1))) (G1 vy 3)))))) (S1 (G1 vy 6) .ret))):=kr
theorem aeQ:Gr=(S1 (G1 Gr 0) (S1 (G1 Gr 1) .ret)):=kr
theorem aeU:vz=(S1 (G1 vz 0) (S1 (S1 (G1 vz 1) (B1 0 (.loop (S1 (S1 (G1 vz 2) (C1 7 K1 (X1 0))) (S1 (B1 1 (S1 (G1 vz 4) (C1 31 (S1 (G1 vz 5) .ret) K1))) (G1 vz 3)))))) (S1 (G1 vz 6) .ret))):=kr
theorem ae7:lJ=(S1 (G1 lJ 0) (S1 (S1 (G1 lJ 1) (B1 0 (.loop (S1 (S1 (G1 lJ 2) (C1 9 K1 (X1 0))) (S1 (B1 1 (S1 (G1 lJ 4) (B1 2 (S1 (G1 lJ 5) (C1 15 (G1 lJ 6) (S1 (G1 lJ 7) (C1 18 (G1 lJ 8) (S1 (G1 lJ 9) (C1 21 (G1 lJ 10) (S1 (G1 lJ 11) (C1 24 (G1 lJ 12) (S1 (G1 lJ 13) (C1 27 (G1 lJ 14) K1))))))))))))) (G1 lJ 3)))))) (S1 (G1 lJ 15) .ret))):=kr
theorem aeY:o6=(S1 (G1 o6 0) (S1 (S1 (G1 o6 1) (C1 17 (S1 (G1 o6 2) .ret) K1)) (S1 (G1 o6 3) (S1 (S1 (G1 o6 4) (B1 0 (S1 (G1 o6 5) (C1 25 (S1 (G1 o6 6) .ret) (S1 (G1 o6 7) (C1 29 (S1 (G1 o6 8) .ret) (S1 (G1 o6 9) (C1 33 (S1 (G1 o6 10) .ret) K1)))))))) (S1 (G1 o6 11) .ret))))):=kr
theorem Zs:drawInfo (Z Dp 1)=some []:=kr
theorem ae0:Dp=(S1 (G1 Dp 0) (S1 (G2 Dp 1) .ret)):=kr
theorem Zt:drawInfo (Z sD 4)=some []:=kr
theorem ae1:sD=(S1 (G1 sD 0) (S1 (S1 (G1 sD 1) (B1 0 (.loop (S1 (S1 (G1 sD 2) (C1 10 K1 (X1 0))) (S1 (B1 1 (S1 (G2 sD 4) (S1 (G1 sD 5) (C1 20 (S1 (G1 sD 6) .ret) K1)))) (G1 sD 3)))))) (S1 (G1 sD 7) .ret))):=kr
theorem Zu:drawInfo (Z Dq 1)=some []:=kr
theorem ae3:Dq=(S1 (G1 Dq 0) (S1 (G2 Dq 1) .ret)):=kr
theorem ae9:gT=(S1 (G1 gT 0) (S1 (G1 gT 1) (S1 (S1 (G1 gT 2) (B1 0 (.loop (S1 (S1 (G1 gT 3) (C1 10 K1 (X1 0))) (S1 (B1 1 (S1 (G1 gT 5) (B1 2 (S1 (G1 gT 6) (C1 16 (G1 gT 7) (S1 (G1 gT 8) (C1 19 (G1 gT 9) (S1 (G1 gT 10) (C1 22 (G1 gT 11) (S1 (G1 gT 12) (C1 25 (G1 gT 13) (S1 (G1 gT 14) (C1 28 (G1 gT 15) (S1 (G1 gT 16) (C1 31 (G1 gT 17) (S1 (G1 gT 18) (C1 35 (G1 gT 19) (S1 (G1 gT 20) (C1 38 (G1 gT 21) K1))))))))))))))))))) (G1 gT 4)))))) (S1 (S1 (G1 gT 22) (C1 52 (S1 (G1 gT 23) .ret) K1)) (S1 (G1 gT 24) .ret))))):=kr
theorem afr:kX=(S1 (G1 kX 0) (S1 (S1 (G1 kX 1) (B1 0 (S1 (S1 (G1 kX 2) (C1 7 K1 (S1 (G1 kX 3) (C1 7 K1 (S1 (G1 kX 4) (C1 7 K1 (S1 (G1 kX 5) (C1 7 K1 (G1 kX 6))))))))) (C1 7 (S1 (G1 kX 7) .ret) (S1 (G1 kX 8) (C1 33 (S1 (G1 kX 9) .ret) (S1 (G1 kX 10) (C1 49 (S1 (G1 kX 11) .ret) (S1 (G1 kX 12) (C1 65 (S1 (G1 kX 13) .ret) (S1 (G1 kX 14) (C1 87 (S1 (G1 kX 15) .ret) K1)))))))))))) (S1 (G1 kX 16) .ret))):=kr
theorem Zy:drawInfo (Z lK 6)=some []:=kr
theorem Yn:drawInfo (Z lK 11)=some []:=kr
theorem afv:lK=(S1 (G1 lK 0) (S1 (S1 (G1 lK 1) (C1 22 (S1 (G1 lK 2) .ret) K1)) (S1 (S1 (G1 lK 3) (B1 0 (.loop (S1 (S1 (G1 lK 4) (C1 27 K1 (X1 0))) (S1 (B1 1 (S1 (S1 (G2 lK 6) (C1 48 (S1 (G1 lK 7) .ret) K1)) (S1 (G1 lK 8) (B1 2 (.loop (S1 (S1 (G1 lK 9) (C1 51 K1 (X1 2))) (S1 (B1 3 (S1 (G2 lK 11) (C1 66 (S1 (G1 lK 12) .ret) K1))) (G1 lK 10)))))))) (G1 lK 5)))))) (S1 (G1 lK 13) .ret)))):=kr
theorem aiL:jr=(S1 (G1 jr 0) (S1 (G1 jr 1) (S1 (S1 (G1 jr 2) (C1 15 (S1 (G1 jr 3) .ret) K1)) (S1 (G1 jr 4) (S1 (G1 jr 5) (S1 (B1 0 (.loop (S1 (S1 (G1 jr 6) (C1 19 K1 (X1 0))) (B1 1 (S1 (G1 jr 7) (S1 (G1 jr 8) (B1 2 (.loop (S1 (S1 (G1 jr 9) (C1 24 K1 (X1 2))) (S1 (B1 3 (S1 (S1 (G1 jr 11) (C1 31 (X1 3) K1)) (S1 (G1 jr 12) (S1 (G1 jr 13) (B1 4 (.loop (S1 (S1 (G1 jr 14) (C1 38 K1 (X1 4))) (S1 (B1 5 (S1 (G1 jr 16) (C1 56 (S1 (G1 jr 17) (G1 jr 18)) K1))) (G1 jr 15))))))))) (G1 jr 10))))))))))) (S1 (G1 jr 19) .ret))))))):=kr
theorem aaO:drawInfo (Z pZ 7)=some []:=kr
theorem aiO:pZ=(S1 (G1 pZ 0) (S1 (G1 pZ 1) (S1 (S1 (G1 pZ 2) (C1 10 (S1 (G1 pZ 3) .ret) K1)) (S1 (S1 (G1 pZ 4) (B1 0 (.loop (S1 (S1 (G1 pZ 5) (C1 15 K1 (X1 0))) (S1 (B1 1 (S1 (G2 pZ 7) (C1 32 (S1 (G1 pZ 8) .ret) K1))) (G1 pZ 6)))))) (S1 (G1 pZ 9) .ret))))):=kr
end Go.Proofs.Tryz.K
section
open Go Go.Abs Go.Proofs Go.Argus
namespace Go.Argus
def bZ(f:aA)(h:D):List D:=[S f.name,B f.iter,I f.args,U8 f.result,kQ f.aj,kQ f.aW,q0 f.signals,fL f.blocks,h]
@[simp] theorem alk (f : aA) (h : D) : (bZ f h).length = 9 := rfl
theorem vO{h:D}(ht:Tr h)(f:aA):∀ d∈bZ f h,Tr d:=.cons (.s _) (.cons (.s _) (.cons (.s _) (.cons (.s _) (.cons (qV _) (.cons (qV _) (.cons (y8 _) (.cons (FR _) (.cons ht .nil))))))))
def bq(f:aA)(r k:Int):Bool:=if k=119 then cD f.aj r==1 else if k=114 then cD f.aj r==2 else if k=105 then cD f.aj r==3 else eI f.aj r
theorem Gm{s:ByteArray}{k:Nat}(h:k<s.size):((s.data.toList.getD (k:Int).toNat 0).toNat:Int)∈cR s/\(cR s)[k]? =some ((s.data.toList.getD (k:Int).toNat 0).toNat:Int):=by
 have h1:k<s.data.toList.length:=by simpa using h
 have h2:(cR s)[k]? =some ((s.data.toList.getD (k:Int).toNat 0).toNat:Int):=by
  simp[cR,aG h1,bF]
 exact⟨cx h2,h2⟩
def j9(f:aA)(a b:Int):Bool:=eI f.aj a&&(eI f.aj b&&cD f.aj a==cD f.aj b)
def zx(y:a7)(d:D):List D:=[U8 y.op,I y.to,I y.a,I y.b,I y.n,d]
theorem Ue:Tr .z:=fun F β w v h=>by
 obtain⟨x,rfl⟩:=h.z_inv;exact .z x
def uM(d:D)(l:List Int):Prop:=d=aB l\/d=.z/\l=[]
theorem abT{d:D}{l:List Int}(h:uM d l):Tr d:=by
 rcases h with rfl|⟨rfl,_⟩
 .exact dg _
 .exact Ue
theorem aaG{y:a7}{d:D}(h:uM d y.args):∀ a∈zx y d,Tr a:=.cons (.s _) (.cons (.s _) (.cons (.s _) (.cons (.s _) (.cons (.s _) (.cons (abT h) .nil)))))
theorem aaH{y:a7}{d:D}(h:uM d y.args):(zx y d).all D.one=true:=by
 rcases h with rfl|⟨rfl,_⟩<;>rfl
def Ug(y:End)(C J:D):List D:=[U8 y.kind,I y.a,I y.b,I y.to,I y.fS,S y.name,U8 y.ins.op,I y.ins.to,I y.ins.a,I y.ins.b,I y.ins.n,C,J,pQ y.aH,I y.cP]
end Go.Argus
namespace Go.Proofs.Tryz.K
set_option maxRecDepth 10000
theorem gJ{n a b:Int}:PCall prog 212 [I n,I a,I b] (B (cY n a b)):=by
 refine bc aeP (.cons (.s _) (.cons (.s _) (.cons (.s _) .nil))) (Tr.s _) ?_;rw[aeQ];refine ws ?_;refine SS ?_;refine er ?_;refine aE ?_;refine ab (ax (d:=.s (.bool _)) rfl ?_);unfold cY;by_cases h:a<=n<;>simp[h]
theorem zM{s:ByteArray}(U:s.size<=maxLen):PCall prog 211 [S s] (B (lN s)):=by
 unfold maxLen at U;refine bc aeR (.cons (.s _) .nil) (Tr.s _) ?_;rw[aeS];refine ws ?_;refine SS ?_;refine ab (aC (aw ?_));refine SS ?_
 refine ab (bV (fun st=>Ghost prog st ⟨az [(0,S s)],fun _=>none,0⟩/\∀ (j:Nat) y,(cR s)[j]? =some y->tO y=false) (cI (α:=Nat) (fun k=>⟨az [(0,S s),(3,I k)],fun _=>none,0⟩)
  (fun k=>k<=s.size/\∀ j y,j<k->(cR s)[j]? =some y->tO y=false) (fun k=>s.size - k) 0 (aq eH) ⟨oG,fun j y hj=>by omega⟩ ?_) ?_)
 .rintro k ⟨hk,hinv⟩;refine aJ ?_;refine ab ⟨_,rfl,fun h=>?_,fun h=>?_⟩
  .have ap:k<s.size:=by simpa using h
   obtain⟨hm,hx⟩:=Gm ap;generalize C:s.data.toList.getD (k:Int).toNat 0=z at hm hx;refine ws ?_;refine bI ?_;refine af ?_;refine ab (av rfl (fun hp=>?_) fun hp=>?_)
   .refine ws ?_;refine SS ?_;refine ab (aT (bR (aL (ax (d:=B false) rfl ?_))));have h1:(cR s).any tO=true:=List.any_eq_true.2 ⟨_,hm,by rw[C] at hp;revert hp;simp[tO]⟩;unfold lN;rw[h1];simp
   .refine ct ?_;refine au ?_;refine ab (aK (k+1) (aq eH) ⟨oG,fun j y hj hy=>?_⟩ oG);by_cases e:j=k
    .subst e;rw[hx] at hy;cases hy;rw[C] at hp;revert hp;simp[tO]
    .exact hinv j y oG hy
  .have X:¬ k<s.size:=by simpa using h
   exact⟨aq eH,fun j y hy=>hinv j y (by have:=(bL.1 hy).1;simp[cR] at this;omega) hy⟩
 .rintro st ⟨hg,J⟩;refine⟨_,hg,ao ?_⟩;have gJ:=gJ (n:=s.size) (a:=1) (b:=120);refine af ?_;refine cl gJ ?_;refine SS ?_;refine ab (ax (d:=.s (.bool _)) rfl ?_)
  have h1:(cR s).any tO=false:=List.any_eq_false.2 fun x hx=>by
   obtain⟨j,hj⟩:=dt hx;rw[J j x hj];simp
  unfold lN;rw[h1];simp
theorem oq{s:ByteArray}(U:s.size<=maxLen):PCall prog 213 [S s] (B (isName s)):=by
 unfold maxLen at U;refine bc aeT (.cons (.s _) .nil) (Tr.s _) ?_;rw[aeU];refine ws ?_;refine SS ?_;refine ab (aC (aw ?_));refine SS ?_
 refine ab (bV (fun st=>Ghost prog st ⟨az [(0,S s)],fun _=>none,0⟩/\∀ (j:Nat) y,(cR s)[j]? =some y->tP y=false) (cI (α:=Nat) (fun k=>⟨az [(0,S s),(3,I k)],fun _=>none,0⟩)
  (fun k=>k<=s.size/\∀ j y,j<k->(cR s)[j]? =some y->tP y=false) (fun k=>s.size - k) 0 (aq eH) ⟨oG,fun j y hj=>by omega⟩ ?_) ?_)
 .rintro k ⟨hk,hinv⟩;refine aJ ?_;refine ab ⟨_,rfl,fun h=>?_,fun h=>?_⟩
  .have ap:k<s.size:=by simpa using h
   obtain⟨hm,hx⟩:=Gm ap;generalize C:s.data.toList.getD (k:Int).toNat 0=z at hm hx;refine ws ?_;refine aE ?_;refine aE ?_;refine aJ ?_;refine ab (av rfl (fun hp=>?_) fun hp=>?_)
   .refine ws ?_;refine SS ?_;refine ab (aT (bR (aL (ax (d:=B false) rfl ?_))));have h1:(cR s).any tP=true:=List.any_eq_true.2 ⟨_,hm,by rw[C] at hp;revert hp;simp[tP]⟩;unfold isName;rw[h1];simp
   .refine ct ?_;refine au ?_;refine ab (aK (k+1) (aq eH) ⟨oG,fun j y hj hy=>?_⟩ oG);by_cases e:j=k
    .subst e;rw[hx] at hy;cases hy;rw[C] at hp;revert hp;simp[tP]
    .exact hinv j y oG hy
  .have X:¬ k<s.size:=by simpa using h
   exact⟨aq eH,fun j y hy=>hinv j y (by have:=(bL.1 hy).1;simp[cR] at this;omega) hy⟩
 .rintro st ⟨hg,J⟩;refine⟨_,hg,ao ?_⟩;have gJ:=gJ (n:=s.size) (a:=1) (b:=12);refine af ?_;refine cl gJ ?_;refine SS ?_;refine ab (ax (d:=.s (.bool _)) rfl ?_)
  have h1:(cR s).any tP=false:=List.any_eq_false.2 fun x hx=>by
   obtain⟨j,hj⟩:=dt hx;rw[J j x hj];simp
  unfold isName;rw[h1];simp
theorem vK{f:aA}{hd:D}(h:hd.one=true):(bZ f hd).all D.one=true:=by
 simp only[bZ,List.all_cons,List.all_nil,h,Bool.and_true];rfl
section
variable{f:aA}{hd:D}(ht:Tr hd)(dB:hd.one=true)
include ht dB
theorem gW{b:Int}(hn:f.blocks.length<=1200):PCall prog 170 [.agg (bZ f hd),I b] (B (cr f b)):=by
 refine bc aeV (.cons (.agg (vO ht f)) (.cons (.s _) .nil)) (Tr.s _) ?_;rw[aeW];refine aw ?_;refine af ?_;refine ab (aI (bw [(0,bZ f hd,208)] eH (l:=[(1,I b),(2,.pt (bZ f hd))]) eH) (ao ?_));have gJ:=gJ (n:=b) (a:=0) (b:=(f.blocks.length:Int) - 1);refine bK ?_;refine cl gJ ?_;refine SS ?_;exact ab (ax rfl rfl)
theorem bW{r k:Int}:PCall prog 215 [.agg (bZ f hd),I r,U8 k] (B (bq f r k)):=by
 refine bc aeX (.cons (.agg (vO ht f)) (.cons (.s _) (.cons (.s _) .nil))) (Tr.s _) ?_;rw[aeY];refine aw ?_;refine af ?_;refine ab (aI (bw [(0,bZ f hd,208)] eH (l:=[(1,I r),(2,U8 k),(3,.pt (bZ f hd))]) eH) (aC (ao ?_)));refine bI ?_;refine af ?_;refine ab (cH rfl (fun h=>?_) fun h=>b7 (ao ?_))
 .refine aC (ao ?_);refine SS ?_;refine ab (cK (ax (d:=.s (.bool _)) rfl ?_))
  have h0:cD f.aj r=0:=IS fun C=>by
   by_cases h1:r<0<;>simp[h1] at h<;>omega
  simp[bq,eI,h0]
 .have hr:0<=r/\r<f.aj.length:=by
   by_cases h1:r<0<;>simp[h1] at h;omega
  obtain⟨n,rfl⟩:=cN hr.1;have hx:f.aj[n]? =some f.aj[n]:=aG oG;have hk:=tQ hx;have hi:bq f n k=if k=119 then f.aj[n]==1 else if k=114 then f.aj[n]==2 else if k=105 then f.aj[n]==3 else f.aj[n]==1||f.aj[n]==2:=by simp only[bq,eI,hk]
  rw[hi];generalize f.aj[n]=v at hx;clear h hi hk;refine dk ?_;refine ab (aC (ao ?_));refine SS ?_;refine ab (l8 (ao ?_));refine af ?_;refine ab (av rfl (fun h0=>?_) fun h0=>?_)
  .have h0:k=119:=by simpa using h0
   refine ws ?_;refine au ?_;refine ab (aT (bH (aL (ax (d:=.s (.bool _)) rfl ?_))));simp[h0]
  have h0:¬ k=119:=by simpa using h0
  refine ws ?_;refine af ?_;refine ab (av rfl (fun h1=>?_) fun h1=>?_)
  .have h1:k=114:=by simpa using h1
   refine ws ?_;refine au ?_;refine ab (aT (bH (aL (ax (d:=.s (.bool _)) rfl ?_))));simp[h1]
  have h1:¬ k=114:=by simpa using h1
  refine ws ?_;refine af ?_;refine ab (av rfl (fun h2=>?_) fun h2=>?_)
  .have h2:k=105:=by simpa using h2
   refine ws ?_;refine au ?_;refine ab (aT (bH (aL (ax (d:=.s (.bool _)) rfl ?_))));simp[h2]
  have h2:¬ k=105:=by simpa using h2
  refine lL (ao ?_);refine dk ?_;refine ab (ax (d:=.s (.bool _)) rfl ?_);rw[if_neg h0,if_neg h1,if_neg h2];by_cases h3:v=1<;>simp[h3]
end
section
variable{f:aA}{hd:D}(ht:Tr hd)(dB:hd.one=true)
include ht dB
theorem zN{a b:Int}:PCall prog 216 [.agg (bZ f hd),I a,I b] (B (j9 f a b)):=by
 have hi:∀ r,bq f r 118=eI f.aj r:=fun r=>rfl;have ka:=bW (f:=f) ht dB (r:=a) (k:=118);have kb:=bW (f:=f) ht dB (r:=b) (k:=118);rw[hi] at ka kb;refine bc aeZ (.cons (.agg (vO ht f)) (.cons (.s _) (.cons (.s _) .nil))) (Tr.s _) ?_;rw[ae0];refine aw ?_;refine af ?_;refine ab (aI (bw [(0,bZ f hd,208)] eH (l:=[(1,I a),(2,I b),(3,.pt (bZ f hd))]) eH) (c8 Zs ?_))
 have U:∀ r,eI f.aj r=true->∃ (n:Nat) (x:Int),r=n/\f.aj[n]? =some x/\cD f.aj r=x:=fun r h=>by
  obtain⟨h1,h2⟩:=oX h;obtain⟨n,rfl⟩:=cN h1;have hx:f.aj[n]? =some f.aj[n]:=aG oG;exact⟨n,_,rfl,hx,tQ hx⟩
 unfold j9;cases C:eI f.aj a with
 |false=>
  rw[C] at ka;have bW:=ka;refine af ?_;refine cl bW ?_;refine SS ?_;refine z fun _ _=>?_;have bW:=kb
  (iterate 2 refine z fun _ _=>?_);refine af ?_;(iterate 13 refine z fun _ _=>?_);refine af ?_
  exact a8 bf (ax rfl rfl)
 |true=>
  rw[C] at ka;cases J:eI f.aj b with
  |false=>
   rw[J] at kb;have bW:=ka;refine af ?_;refine cl bW ?_;refine af ?_;have bW:=kb;refine SS ?_;refine gc bW ?_;refine af ?_;(iterate 13 refine z fun _ _=>?_);refine af ?_;exact a8 bf (ax rfl rfl)
  |true=>
   rw[J] at kb;obtain⟨n,x,rfl,hx,e1⟩:=U a C;obtain⟨m,y,rfl,hy,e2⟩:=U b J;rw[e1,e2];have bW:=ka;refine af ?_;refine cl bW ?_;refine af ?_;have bW:=kb;refine SS ?_;refine gc bW ?_;refine aE ?_;refine bI ?_;exact a8 bf (ax rfl rfl)
theorem uL{l:List Int}:PCall prog 217 [.agg (bZ f hd),aB l] (B (gC f.aj l)):=by
 have C:∀ a∈[D.agg (bZ f hd),aB l],Tr a:=.cons (.agg (vO ht f)) (.cons (dg _) .nil);refine m8 Ub.he C fun U=>?_;have hlen:=(U (aB l) oS).sl.1;unfold maxLen at hlen;refine bc Ub C (Tr.s _) ?_;rw[ae1];refine aw ?_;refine af ?_;refine ab (aI (bw [(0,bZ f hd,208)] eH (l:=[(1,aB l),(2,.pt (bZ f hd))]) eH) (aC (aw ?_)));refine SS ?_
 refine ab (bV (fun s=>Ghost prog s ⟨az [],fun _=>none,1⟩/\∀ (j:Nat) y,l[j]? =some y->eI f.aj y=true) (cI (α:=Nat) (fun k=>⟨az [(1,aB l),(2,.pt (bZ f hd)),(5,I k)],fun _=>none,1⟩)
  (fun k=>k<=l.length/\∀ j y,j<k->l[j]? =some y->eI f.aj y=true) (fun k=>l.length - k) 0 (aq eH) ⟨oG,fun j y hj=>by omega⟩ ?_) ?_)
 .rintro k ⟨hk,hinv⟩;refine aJ ?_;refine ab ⟨_,rfl,fun h=>?_,fun h=>?_⟩
  .have ap:k<l.length:=by simpa using h
   have hx:l[k]? =some l[k]:=by simp[ap]
   generalize l[k]=x at hx;have bW:PCall prog 215 [.agg (bZ f hd),I x,U8 118] (B (eI f.aj x)):=bW (f:=f) ht dB (r:=x) (k:=118);refine c8 Zt ?_;refine aV ?_;refine cl bW ?_;refine SS ?_;refine a8 bf (ao ?_);refine af ?_;refine ab (av rfl (fun hp=>?_) fun hp=>?_)
   .refine ws ?_;refine SS ?_;refine ab (aT (bR (aL (ax (d:=B false) rfl ?_))));have:gC f.aj l=false:=List.all_eq_false.2 ⟨x,cx hx,by simpa using hp⟩;rw[this]
   .refine ct ?_;refine au ?_;refine ab (aK (k+1) (aq eH) ⟨oG,fun j y hj hy=>?_⟩ oG);by_cases e:j=k
    .subst e;rw[hx] at hy;cases hy;simpa using hp
    .exact hinv j y oG hy
  .have X:¬ k<l.length:=by simpa using h
   exact⟨.forget _ _ _ _ fun _=>.inr rfl,fun j y hy=>hinv j y (by have:=(bL.1 hy).1;omega) hy⟩
 .rintro s ⟨hg,J⟩;refine⟨_,hg,ao ?_⟩;refine SS ?_;refine ab (ax (d:=B true) rfl ?_)
  have:gC f.aj l=true:=bJ.2 fun x hx=>by
   obtain⟨j,hj⟩:=dt hx;exact J j x hj
  rw[this]
theorem Ht{n r:Int}(hl:f.aW.length<=60)(hs:∀ k∈f.aW,k=1\/k=2):PCall prog 218 [.agg (bZ f hd),I n,I r] (B (my f.aj f.aW r n)):=by
 have gJ:=gJ (n:=n) (a:=0) (b:=(f.aW.length:Int) - 1);have kv:PCall prog 215 [.agg (bZ f hd),I r,U8 118] (B (eI f.aj r)):=bW (f:=f) ht dB (r:=r) (k:=118);refine bc ae2 (.cons (.agg (vO ht f)) (.cons (.s _) (.cons (.s _) .nil))) (Tr.s _) ?_;rw[ae3];refine aw ?_;refine af ?_;refine ab (aI (bw [(0,bZ f hd,208)] eH (l:=[(1,I n),(2,I r),(3,.pt (bZ f hd))]) eH) (c8 Zu ?_));unfold my;have bW:=kv;cases C:cY n 0 (f.aW.length - 1) with
 |false=>
  rw[C] at gJ;refine bK ?_;refine cl gJ ?_;refine SS ?_;(iterate 3 refine z fun _ _=>?_);refine af ?_;(iterate 13 refine z fun _ _=>?_);refine af ?_;exact a8 bf (ax rfl rfl)
 |true=>
  rw[C] at gJ;have h0:=kT.1 C;obtain⟨m,rfl⟩:=cN h0.1;have hx:f.aW[m]? =some f.aW[m]:=aG oG;have X:=tQ hx;have U:=hs _ (cx hx);rw[X];generalize f.aW[m]=x at hx U;cases hv:eI f.aj r with
  |false=>
   rw[hv] at bW;refine bK ?_;refine cl gJ ?_;refine au ?_;refine gc bW ?_;refine af ?_;(iterate 13 refine z fun _ _=>?_);refine af ?_;refine a8 bf (ax (d:=.s (.bool _)) rfl ?_)
   have:(cD f.aj r==x)=false:=by
    unfold eI at hv;rcases U with rfl|rfl<;>simp at hv ⊢<;>simp[hv]
   rw[this];rfl
  |true=>
   rw[hv] at bW;obtain⟨h1,h2⟩:=oX hv;obtain⟨i,rfl⟩:=cN h1;have hy:f.aj[i]? =some f.aj[i]:=aG oG;have J:=tQ hy;rw[J];generalize f.aj[i]=y at hy;refine bK ?_;refine cl gJ ?_;refine au ?_;refine gc bW ?_;refine aE ?_;refine bI ?_;refine a8 bf (ax (d:=.s (.bool _)) rfl ?_);show B (x==y)=B (y==x);rw[Bool.beq_comm]
end
end Go.Proofs.Tryz.K
namespace Go.Argus
open Go.Proofs.Tryz.K (nextR)
def jT:List Int->Int->List Int
 |[],n=>[n]
 |x::l,n=>if x<n then x::jT l n else if x=n then x::l else n::x::l
theorem Sc{n:Int}:∀ {l:List Int} {k:Nat},k<=l.length->(∀ j y,j<k->l[j]? =some y->y<n)->(∀ y,l[k]? =some y->¬ y<n)->
 jT l n=if l[k]? =some n then l else l.take k++n::l.drop k
 |[],k,hk,_,_=>by
  have:k=0:=by simpa using hk
  subst this;simp[jT]
 |x::l,0,_,_,h=>by
  have h0:¬ x<n:=h x rfl;by_cases e:x=n
  .subst e;simp[jT]
  .simp[jT,h0,e]
 |x::l,k+1,hk,h1,h2=>by
  have h0:x<n:=h1 0 x oG rfl;have ih:=Sc (n:=n) (l:=l) (k:=k) (by simpa using hk) (fun j y hj hy=>h1 (j+1) y oG (by simpa using hy)) (fun y hy=>h2 y (by simpa using hy));simp only[jT,if_pos h0,ih,List.getElem?_cons_succ];split<;>simp
theorem JC{n x:Int}:∀ {l:List Int},x∈jT l n↔x∈l\/x=n
 |[]=>by simp[jT]
 |y::l=>by
  unfold jT;split
  .rw[List.mem_cons,JC (l:=l),List.mem_cons];exact or_assoc.symm
  .split
   .rename_i e;subst e;simp only[List.mem_cons];constructor
    .exact .inl
    .rintro(h|h)
     .exact h
     .exact .inl h
   .simp only[List.mem_cons];constructor
    .rintro(h|h)
     .exact .inr h
     .exact .inl h
    .rintro(h|h)
     .exact .inr h
     .exact .inl h
theorem PW{n:Int}:∀ {l:List Int},l.Pairwise (·<·)->(jT l n).Pairwise (·<·)
 |[],_=>by simp[jT]
 |y::l,h=>by
  rw[List.pairwise_cons] at h;unfold jT;split
  .rename_i hy;refine List.pairwise_cons.2 ⟨fun z C=>?_,PW h.2⟩;rcases JC.1 C with C|rfl
   .exact h.1 z C
   .exact hy
  .split
   .exact List.pairwise_cons.2 h
   .refine List.pairwise_cons.2 ⟨fun z C=>?_,List.pairwise_cons.2 h⟩;rcases List.mem_cons.1 C with rfl|C
    .omega
    .have:=h.1 z C;omega
theorem PX{n:Int}:∀ {l:List Int},(jT l n).length<=l.length+1
 |[]=>by simp[jT]
 |y::l=>by
  have:=PX (n:=n) (l:=l);unfold jT;split
  .simp;omega
  .split<;>simp
def sS(l:List Int):List Int:=l.foldl jT []
theorem CF:∀ {l z:List Int},z.Pairwise (·<·)->(l.foldl jT z).Pairwise (·<·)/\(∀ x,x∈l.foldl jT z↔x∈z\/x∈l)/\(l.foldl jT z).length<=z.length+l.length
 |[],z,h=>⟨h,fun x=>by simp,oS⟩
 |y::l,z,h=>by
  obtain⟨h1,h2,h3⟩:=CF (l:=l) (PW (n:=y) h);have:=PX (n:=y) (l:=z);refine⟨h1,fun x=>?_,by simp only[List.length_cons,List.foldl_cons];omega⟩;rw[List.foldl_cons,h2,JC,List.mem_cons,or_assoc]
theorem Rh:∀ {l z:List Int},l.Pairwise (·<·)->z.Pairwise (·<·)->(∀ x,x∈l↔x∈z)->l=z
 |[],[],_,_,_=>rfl
 |[],y::z,_,_,h=>by have:=(h y).2 oS;simp at this
 |y::l,[],_,_,h=>by have:=(h y).1 oS;simp at this
 |x::l,y::z,hl,hz,h=>by
  rw[List.pairwise_cons] at hl hz
  have e:x=y:=by
   have h1:=(h x).1 oS;have h2:=(h y).2 oS;rcases List.mem_cons.1 h1 with h1|h1
   .exact h1
   .rcases List.mem_cons.1 h2 with h2|h2
    .exact h2.symm
    .have:=hl.1 y h2;have:=hz.1 x h1;omega
  subst e;rw[Rh hl.2 hz.2 fun w=>⟨fun C=>?_,fun C=>?_⟩]
  .rcases List.mem_cons.1 ((h w).1 (by simp[C])) with e|e
   .have:=hl.1 w C;omega
   .exact e
  .rcases List.mem_cons.1 ((h w).2 (by simp[C])) with e|e
   .have:=hz.1 w C;omega
   .exact e
def p9(x:End):List Int:=sS (dc x)
theorem OQ{x:End}{t:Int}:t∈p9 x↔t∈dc x:=by
 unfold p9 sS;rw[(CF (l:=dc x) (z:=[]) .nil).2.1];simp
theorem Zz(x:End):(p9 x).length<=x.aH.length+3:=by
 have:=(CF (l:=dc x) (z:=[]) .nil).2.2;have:=yW x;unfold p9 sS;simp at*;omega
def C0(bs:List bB)(L:Nat->List Int)(b:Nat):Nat->List Int:=match bs[b]? with
 |none=>L
 |some x=>(p9 x.fin).foldl (dz b) L
def lO(bs:List bB)(k:Nat):Nat->List Int:=(List.range k).foldl (C0 bs) fun _=>[]
def jS(x:a7)(c:Int):a7:=if c=116 then { x with to:=0 } else if c=97 then { x with a:=0 } else if c=98 then { x with b:=0 } else if c=110 then { x with n:=0 } else if c=108 then { x with args:=[] } else x
def lf(x:a7):Bool:=aR x.to 0&&(aR x.a 0&&(aR x.b 0&&(aR x.n 0&&jK x)))
def bY(x:a7)(fs:List Int):Bool:=lf (fs.foldl jS x)
def lm(f:aA)(x:a7):Bool:=
 if aN [30,31,32,33,34] x.op then bY x [116,97,98]&&(bq f x.to 119&&(bq f x.a 119&&bq f x.b 119))
 else if x.op=35 then bY x [97,98]&&(bq f x.a 114&&bq f x.b 118)
 else if x.op=36 then bY x [116,97]&&(bq f x.to 118&&bq f x.a 114)
 else if x.op=37 then bY x [116,97,98]&&(bq f x.to 118&&(bq f x.a 114&&bq f x.b 119))
 else if x.op=38 then bY x [97,98,108]&&(bq f x.a 114&&(bq f x.b 119&&(aR x.args.length 1&&gC f.aj x.args)))
 else false
def dX(f:aA)(b C:Int)(x:a7):Bool:=
 if x.op=1 then bY x [116,110]&&(bq f x.to 119&&cY x.n (-1000000000) 1000000000)
 else if x.op=2 then bY x [116,97]&&j9 f x.to x.a
 else if aN [3,4,6,7] x.op then bY x [116,97,98]&&(bq f x.to 119&&(bq f x.a 119&&bq f x.b 119))
 else if x.op=5 then bY x [116,97,98]&&(bq f x.to 119&&j9 f x.a x.b)
 else if x.op=8 then bY x [116,97]&&(bq f x.to 119&&bq f x.a 119)
 else if x.op=9 then bY x [116,110]&&(bq f x.to 114&&cY x.n 0 1)
 else if x.op=10 then bY x [116,110,108]&&(bq f x.to 114&&(cY x.n 0 5&&(cY x.args.length 1 6&&gC f.aj x.args)))
 else if x.op=11 then bY x [116,97,110]&&(bq f x.to 118&&(bq f x.a 114&&cY x.n 0 5))
 else if x.op=12 then bY x [97,98,110]&&(bq f x.a 114&&(bq f x.b 118&&cY x.n 0 5))
 else if aN [13,14] x.op then bY x [116,97]&&(bq f x.to 119&&bq f x.a 114)
 else if x.op=15 then bY x [97]&&bq f x.a 119
 else if x.op=16 then bY x [97]&&bq f x.a 105
 else if x.op=17 then bY x [116,110]&&my f.aj f.aW x.to x.n
 else if x.op=18 then bY x [97,110]&&my f.aj f.aW x.a x.n
 else if x.op=19 then !aR b 0&&(bY x [116,108]&&(bq f x.to 118&&(aR x.args.length C&&x.args.all (j9 f x.to))))
 else false
def gK(x:End)(c:Int):End:=
 if c=97 then { x with a:=0 } else if c=98 then { x with b:=0 } else if c=116 then { x with to:=0 } else if c=101 then { x with fS:=0 }
 else if c=110 then { x with name:=.empty } else if c=105 then { x with ins:=dT } else if c=108 then { x with args:=[] } else x
def p8(x:End):Bool:=aR x.a 0&&(aR x.b 0&&(aR x.to 0&&(aR x.fS 0&&(x.name.toList==[]&&(aR x.args.length 0&&(aR x.ins.op 0&&lf x.ins))))))
def dO(x:End)(fs:List Int):Bool:=(fs.any (·==104)||(aR x.aH.length 0&&aR x.cP (-1)))&&p8 (fs.foldl gK x)
def gL(f:aA)(x:End):Bool:=
 if x.kind=1 then dO x [116]&&cr f x.to
 else if x.kind=2 then dO x [97,116,101]&&(bq f x.a 119&&(cr f x.to&&cr f x.fS))
 else if x.kind=3 then(if f.iter=true\/f.result=0 then dO x [97]&&aR x.a (-1) else dO x [97]&&(bq f x.a 118&&aR (cD f.aj x.a) f.result))
 else if x.kind=4 then dO x [110]&&isName x.name
 else if x.kind=5 then dO x [116,105,104]&&(lm f x.ins&&(cr f x.to&&nj f x))
 else if x.kind=6 then dO x [97,116,110,108,104]&&(lN x.name&&(decide ((x.args.length:Int)<=6)&&(gC f.aj x.args&&((aR x.a (-1)||bq f x.a 118)&&(cr f x.to&&nj f x)))))
 else if x.kind=7 then dO x [97,116,110,108]&&(lN x.name&&(decide ((x.args.length:Int)<=6)&&(gC f.aj x.args&&(bq f x.a 105&&cr f x.to))))
 else if x.kind=8 then dO x [97,98,116,101,104]&&(bq f x.a 105&&(bq f x.b 118&&(cr f x.to&&(cr f x.fS&&nj f x))))
 else if x.kind=9 then dO x [97,116]&&(f.iter&&(bq f x.a 118&&(aR (cD f.aj x.a) f.result&&cr f x.to)))
 else false
theorem uy(f:aA)(r:Int):bq f r 119=aR (cD f.aj r) 1:=rfl
theorem zz(f:aA)(r:Int):bq f r 114=aR (cD f.aj r) 2:=rfl
theorem Eb(f:aA)(r:Int):bq f r 105=aR (cD f.aj r) 3:=rfl
theorem sU(f:aA)(r:Int):bq f r 118=eI f.aj r:=rfl
theorem YH{f:aA}{r n:Int}(C:∀ k∈f.aW,k=1\/k=2)(h:my f.aj f.aW r n=true):eI f.aj r=true:=by
 unfold my at h;rw[aO,kT] at h;obtain⟨⟨h1,h2⟩,h3⟩:=h;obtain⟨k,rfl⟩:=cN h1;have hk:k<f.aW.length:=by omega
 rw[tQ (aG hk)] at h3;have h3:cD f.aj r=f.aW[k]:=by simpa using h3
 have:=C _ (bO hk);unfold eI;rw[h3];rcases this with e|e<;>simp[e]
theorem ab5(f:aA)(x:a7):lm f x=((fM jJ x.op).isSome&&pS f.aj x ((fM jJ x.op).getD zb)):=by
 obtain⟨op,to,a,b,n,args⟩:=x;unfold lm;dsimp only;by_cases h0:op=30\/op=31\/op=32\/op=33\/op=34
 .rcases h0 with rfl|rfl|rfl|rfl|rfl<;>
   (simp[aN,fM,jJ,List.find?,pS,mn,qZ,qS,bY,jS,lf,uy,aR,jK,cY];grind)
 by_cases h5:op=35
 .subst h5;simp[aN,fM,jJ,List.find?,pS,mn,qZ,qS,bY,jS,lf,uy,zz,sU,aR,jK,cY];grind
 by_cases C:op=36
 .subst C;simp[aN,fM,jJ,List.find?,pS,mn,qZ,qS,bY,jS,lf,uy,zz,sU,aR,jK,cY];grind
 by_cases J:op=37
 .subst J;simp[aN,fM,jJ,List.find?,pS,mn,qZ,qS,bY,jS,lf,uy,zz,sU,aR,jK,cY];grind
 by_cases U:op=38
 .subst U;simp[aN,fM,jJ,List.find?,pS,mn,qZ,qS,bY,jS,lf,uy,zz,sU,aR,jK,cY];grind
 have hn:fM jJ op=none:=by
  simp only[fM,jJ,Option.map_eq_none_iff,List.find?_eq_none];simp;omega
 rw[hn,if_neg (by simp[aN];omega),if_neg h5,if_neg C,if_neg J,if_neg U];rfl
theorem ab6(f:aA)(to:Int)(l:List Int)(h:eI f.aj to=true):l.all (j9 f to)= !l.any fun r=> !aR (cD f.aj r) (cD f.aj to):=by
 have hk:cD f.aj to=1\/cD f.aj to=2:=by simpa[eI] using h
 rw[List.not_any_eq_all_not];congr 1;funext r;simp only[j9,h,Bool.true_and,aR,Bool.not_not,eI];grind
theorem Ri{f:aA}{b ah:Nat}{x:a7}(hs:∀ k∈f.aW,k=1\/k=2):dX f b ah x=jm f b x true ah:=by
 have hsv:= @YH f;obtain⟨op,to,a,b',n,args⟩:=x;unfold dX jm;dsimp only;by_cases X:op=16
 .subst X;simp[aN,bY,jS,lf,Eb,aR,jK];grind
 by_cases U:op=17
 .subst U;simp[aN,bY,jS,lf,aR,jK];grind
 by_cases J:op=18
 .subst J;simp[aN,bY,jS,lf,aR,jK];grind
 by_cases C:op=19
 .subst C;cases hv:eI f.aj to with
  |false=>simp[aN,sU,hv]
  |true=>
   rw[ab6 f to args hv]
   have hb:decide (0<(b:Int))= !decide ((b:Int)=0):=by
    by_cases h:b=0<;>simp[h];omega
   simp[aN,sU,hv,hb,bY,jS,lf,aR,jK];grind
 rw[if_neg X,if_neg U,if_neg J,if_neg C,if_neg X,if_neg U,if_neg J,if_neg C];by_cases hm:op∈[1,2,3,4,5,6,7,8,9,10,11,12,13,14,15]
 .simp only[List.mem_cons,List.not_mem_nil,or_false] at hm
  rcases hm with rfl|rfl|rfl|rfl|rfl|rfl|rfl|rfl|rfl|rfl|rfl|rfl|rfl|rfl|rfl<;>
   (simp[aN,fM,o8,List.find?,pS,mn,qZ,qS,bY,jS,lf,uy,zz,sU,aR,jK,cY,j9,eI];grind)
 .have hn:fM o8 op=none:=by
   simp only[fM,o8,Option.map_eq_none_iff,List.find?_eq_none];simp at hm ⊢;omega
  simp only[List.mem_cons,List.not_mem_nil,or_false,not_or] at hm;rw[hn];simp[aN];grind
theorem J8{f:aA}{x:End}(hr:qW f=true):gL f x=jI f x:=by
 have ht:=ab5 f x.ins
 have ow:(f.result=1\/f.result=2)\/f.result=0/\f.iter=false:=by
  simp[qW] at hr;grind
 obtain⟨kind,a,b,to,fS,name,ins,args,aH,cP⟩:=x;dsimp only at ht;have hz:∀ y:a7,DQ y=(aR y.op 0&&lf y):=fun y=>by simp[DQ,lf,aR,jK]
 have h0:lf dT=true:=rfl;have he:ByteArray.toList .empty=[]:=by simp
 unfold gL jI gf zv;simp only[hz];by_cases h1:kind=1
 .subst h1;simp[dO,gK,p8,aR];grind
 by_cases h2:kind=2
 .subst h2;simp[dO,gK,p8,aR,uy];grind
 by_cases h3:kind=3
 .subst h3;simp[dO,gK,p8,aR,sU,eI];grind
 by_cases h4:kind=4
 .subst h4;simp[dO,gK,p8,aR];grind
 by_cases h5:kind=5
 .subst h5;simp[dO,gK,p8,aR,ht,h0,dT];grind
 by_cases C:kind=6
 .subst C;simp[dO,gK,p8,aR,sU,he];grind
 by_cases J:kind=7
 .subst J;simp[dO,gK,p8,aR,Eb,he];grind
 by_cases U:kind=8
 .subst U;simp[dO,gK,p8,aR,Eb,sU];grind
 by_cases X:kind=9
 .subst X;simp[dO,gK,p8,aR,sU,eI];grind
 simp[h1,h2,h3,h4,h5,C,J,U,X]
end Go.Argus
namespace Go.Proofs.Tryz.K
set_option maxRecDepth 10000
theorem Uf{x:a7}{d0:D}{s:ByteArray}(U:uM d0 x.args)(hs:s.size<=8):PCall prog 214 [.agg (zx x d0),S s] (B (bY x (cR s))):=by
 refine bc ae6 (.cons (.agg (aaG U)) (.cons (.s _) .nil)) (Tr.s _) ?_;rw[ae7];refine aw ?_;refine fP (ud (cs:=zx x d0) rfl) dd (aaH U) ?_;refine SS ?_;refine ab (aI (aP (l:=[(1,S s),(2,.rp 0 0)]) (ml:=[(0,.cells (zx x d0) 66)]) eH eH) (aC (aw ?_)));refine SS ?_
 refine ab (bV (fun st=>∃ y d,Ghost prog st ⟨az [(2,.rp 0 0)],bm [(0,.cells (zx y d) 66)],1⟩/\(cR s).foldl jS x=y/\uM d y.args) (cI (α:=Nat×a7×D) (fun q=>⟨az [(1,S s),(2,.rp 0 0),(5,I q.1)],bm [(0,.cells (zx q.2.1 q.2.2) 66)],1⟩)
  (fun q=>q.1<=s.size/\((cR s).take q.1).foldl jS x=q.2.1/\uM q.2.2 q.2.1.args) (fun q=>s.size - q.1) (0,x,d0) (aP eH eH) ⟨Nat.zero_le _,rfl,U⟩ ?_) ?_)
 .rintro⟨k,y,d⟩ ⟨hk,hy,hd⟩;dsimp only at hk hy hd ⊢;refine aJ ?_;refine ab ⟨_,rfl,fun h=>?_,fun h=>?_⟩
  .have ap:k<s.size:=by simpa using h
   obtain⟨hm,hx⟩:=Gm ap;generalize C:s.data.toList.getD (k:Int).toNat 0=z at hm hx;have J:((cR s).take (k+1)).foldl jS x=jS y z.toNat:=by rw[l7 hx,hy]
   refine ws ?_;refine au ?_;refine ab (nY (ao ?_));refine af ?_;refine ab (av rfl (fun h1=>gv ?_) fun h1=>ao ?_)
   .refine af ?_;refine ab ?_;show AOps _ _ _ _ _ _ _ _ _;refine au ?_;refine ab (aK (k+1,{ y with to:=0 },d) (aP eH eH) ⟨oM,?_,hd⟩ oM);rw[C] at h1;rw[J,jS,if_pos (by simpa using h1)]
   rw[C] at h1;have h1:¬ (z.toNat:Int)=116:=by simpa using h1
   refine af ?_;refine ab (av rfl (fun h2=>gv ?_) fun h2=>ao ?_)
   .refine af ?_;refine ab ?_;show AOps _ _ _ _ _ _ _ _ _;refine au ?_;refine ab (aK (k+1,{ y with a:=0 },d) (aP eH eH) ⟨oM,?_,hd⟩ oM);rw[C] at h2;rw[J,jS,if_neg h1,if_pos (by simpa using h2)]
   rw[C] at h2;have h2:¬ (z.toNat:Int)=97:=by simpa using h2
   refine af ?_;refine ab (av rfl (fun h3=>gv ?_) fun h3=>ao ?_)
   .refine af ?_;refine ab ?_;show AOps _ _ _ _ _ _ _ _ _;refine au ?_;refine ab (aK (k+1,{ y with b:=0 },d) (aP eH eH) ⟨oM,?_,hd⟩ oM);rw[C] at h3;rw[J,jS,if_neg h1,if_neg h2,if_pos (by simpa using h3)]
   rw[C] at h3;have h3:¬ (z.toNat:Int)=98:=by simpa using h3
   refine af ?_;refine ab (av rfl (fun h4=>gv ?_) fun h4=>ao ?_)
   .refine af ?_;refine ab ?_;show AOps _ _ _ _ _ _ _ _ _;refine au ?_;refine ab (aK (k+1,{ y with n:=0 },d) (aP eH eH) ⟨oM,?_,hd⟩ oM);rw[C] at h4;rw[J,jS,if_neg h1,if_neg h2,if_neg h3,if_pos (by simpa using h4)]
   rw[C] at h4;have h4:¬ (z.toNat:Int)=110:=by simpa using h4
   refine af ?_;refine ab (av rfl (fun h5=>gv ?_) fun h5=>?_)
   .refine af ?_;refine ab ?_;show AOps _ _ _ _ _ _ _ _ _;refine au ?_;refine ab (aK (k+1,{ y with args:=[] },.z) (aP eH eH) ⟨oM,?_,.inr ⟨rfl,rfl⟩⟩ oM);rw[C] at h5;rw[J,jS,if_neg h1,if_neg h2,if_neg h3,if_neg h4,if_pos (by simpa using h5)]
   rw[C] at h5;have h5:¬ (z.toNat:Int)=108:=by simpa using h5
   refine ct ?_;show AOps _ _ _ _ _ _ _ _ _;refine au ?_;refine ab (aK (k+1,y,d) (aP eH eH) ⟨oM,?_,hd⟩ oM);rw[J,jS,if_neg h1,if_neg h2,if_neg h3,if_neg h4,if_neg h5]
  .have X:¬ k<s.size:=by simpa using h
   rw[dn (by simp[cR];omega)] at hy;exact⟨y,d,aP eH eH,hy,hd⟩
 .rintro st ⟨y,d,hg,hy,hd⟩;refine⟨_,hg,ao ?_⟩;have hl:bY x (cR s)=lf y:=by rw[bY,hy]
  rw[hl];have sb:((y.args.length:Int)=0)↔y.args=[]:=⟨fun h=>List.length_eq_zero_iff.1 oG,fun h=>by rw[h];rfl⟩
  rcases hd with rfl|⟨rfl,hd⟩
  .refine aE ?_;refine aE ?_;refine dk ?_;refine ab (ax (d:=.s (.bool _)) rfl ?_);simp[lf,aR,jK];grind
  .refine aE ?_;refine aE ?_;refine dk ?_;refine ab (ax (d:=.s (.bool _)) rfl ?_);simp[lf,aR,jK,hd];grind
theorem cu{x:a7}{s:ByteArray}(C:s.size<=8):PCall prog 214 [.agg (a9 x),S s] (B (bY x (cR s))):=Uf (d0:=aB x.args) (.inl rfl) C
set_option maxHeartbeats 1000000 in
theorem eO{x:Argus.End}{s:ByteArray}(hs:s.size<=8):PCall prog 219 [.agg (bd x),S s] (B (dO x (cR s))):=by
 refine bc ae8 (.cons (.agg (jF x)) (.cons (.s _) .nil)) (Tr.s _) ?_;rw[ae9];refine aw ?_;refine af ?_;refine ab (aI (aP (l:=[(1,S s),(2,.rp 0 0)]) (ml:=[(0,.cells (bd x) 69)]) eH eH) (ao ?_));refine SS ?_;refine ab (aC (aw ?_));refine SS ?_
 refine ab (bV (fun st=>∃ y J X,Ghost prog st ⟨az [(2,.rp 0 0),(5,B ((cR s).any (·==104)))],bm [(0,.cells (Ug y J X) 69)],1⟩/\(cR s).foldl gK x=y/\uM J y.ins.args/\uM X y.args) (cI (α:=Nat×Argus.End×D×D) (fun q=>⟨az [(1,S s),(2,.rp 0 0),(5,B (((cR s).take q.1).any (·==104))),(6,I q.1)],bm [(0,.cells (Ug q.2.1 q.2.2.1 q.2.2.2) 69)],1⟩)
  (fun q=>q.1<=s.size/\((cR s).take q.1).foldl gK x=q.2.1/\uM q.2.2.1 q.2.1.ins.args/\uM q.2.2.2 q.2.1.args) (fun q=>s.size - q.1) (0,x,aB x.ins.args,aB x.args) (aP eH eH) ⟨Nat.zero_le _,rfl,.inl rfl,.inl rfl⟩ ?_) ?_)
 .rintro⟨k,y,J,X⟩ ⟨hk,hy,dB,U⟩;dsimp only at hk hy dB U ⊢;refine aJ ?_;refine ab ⟨_,rfl,fun h=>?_,fun h=>?_⟩
  .have ap:k<s.size:=by simpa using h
   obtain⟨hm,hx⟩:=Gm ap;generalize C:s.data.toList.getD (k:Int).toNat 0=z at hm hx;have cq:((cR s).take (k+1)).foldl gK x=gK y z.toNat:=by rw[l7 hx,hy]
   have uN:((cR s).take (k+1)).any (·==104)=(((cR s).take k).any (·==104)||(z.toNat:Int)==104):=by rw[List.take_add_one,hx,List.any_append];simp
   generalize ((cR s).take k).any (·==104)=hb at uN;refine ws ?_;refine au ?_;refine ab (nY (ao ?_));refine af ?_;refine ab (av rfl (fun h0=>gv ?_) fun h0=>ao ?_)
   .refine af ?_;refine ab ?_;show AOps _ _ _ _ _ _ _ _ _;refine au ?_;rw[C] at h0;have h0:(z.toNat:Int)=97:=by simpa using h0
    refine ab (aK (k+1,{ y with a:=0 },J,X) (aP ⟨rfl,rfl,?_,rfl,trivial⟩ eH) ⟨oM,?_,dB,U⟩ oM)
    .show B hb=B (((cR s).take (k+1)).any (·==104));rw[uN,h0];simp
    .rw[cq,gK,if_pos h0]
   rw[C] at h0;have h0:¬ (z.toNat:Int)=97:=by simpa using h0
   refine af ?_;refine ab (av rfl (fun h1=>gv ?_) fun h1=>ao ?_)
   .refine af ?_;refine ab ?_;show AOps _ _ _ _ _ _ _ _ _;refine au ?_;rw[C] at h1;have h1:(z.toNat:Int)=98:=by simpa using h1
    refine ab (aK (k+1,{ y with b:=0 },J,X) (aP ⟨rfl,rfl,?_,rfl,trivial⟩ eH) ⟨oM,?_,dB,U⟩ oM)
    .show B hb=B (((cR s).take (k+1)).any (·==104));rw[uN,h1];simp
    .rw[cq,gK,if_neg h0,if_pos h1]
   rw[C] at h1;have h1:¬ (z.toNat:Int)=98:=by simpa using h1
   refine af ?_;refine ab (av rfl (fun h2=>gv ?_) fun h2=>ao ?_)
   .refine af ?_;refine ab ?_;show AOps _ _ _ _ _ _ _ _ _;refine au ?_;rw[C] at h2;have h2:(z.toNat:Int)=116:=by simpa using h2
    refine ab (aK (k+1,{ y with to:=0 },J,X) (aP ⟨rfl,rfl,?_,rfl,trivial⟩ eH) ⟨oM,?_,dB,U⟩ oM)
    .show B hb=B (((cR s).take (k+1)).any (·==104));rw[uN,h2];simp
    .rw[cq,gK,if_neg h0,if_neg h1,if_pos h2]
   rw[C] at h2;have h2:¬ (z.toNat:Int)=116:=by simpa using h2
   refine af ?_;refine ab (av rfl (fun h3=>gv ?_) fun h3=>ao ?_)
   .refine af ?_;refine ab ?_;show AOps _ _ _ _ _ _ _ _ _;refine au ?_;rw[C] at h3;have h3:(z.toNat:Int)=101:=by simpa using h3
    refine ab (aK (k+1,{ y with fS:=0 },J,X) (aP ⟨rfl,rfl,?_,rfl,trivial⟩ eH) ⟨oM,?_,dB,U⟩ oM)
    .show B hb=B (((cR s).take (k+1)).any (·==104));rw[uN,h3];simp
    .rw[cq,gK,if_neg h0,if_neg h1,if_neg h2,if_pos h3]
   rw[C] at h3;have h3:¬ (z.toNat:Int)=101:=by simpa using h3
   refine af ?_;refine ab (av rfl (fun h4=>gv ?_) fun h4=>ao ?_)
   .refine af ?_;refine ab ?_;show AOps _ _ _ _ _ _ _ _ _;refine au ?_;rw[C] at h4;have h4:(z.toNat:Int)=110:=by simpa using h4
    refine ab (aK (k+1,{ y with name:=.empty },J,X) (aP ⟨rfl,rfl,?_,rfl,trivial⟩ eH) ⟨oM,?_,dB,U⟩ oM)
    .show B hb=B (((cR s).take (k+1)).any (·==104));rw[uN,h4];simp
    .rw[cq,gK,if_neg h0,if_neg h1,if_neg h2,if_neg h3,if_pos h4]
   rw[C] at h4;have h4:¬ (z.toNat:Int)=110:=by simpa using h4
   refine af ?_;refine ab (av rfl (fun h5=>gv ?_) fun h5=>ao ?_)
   .refine au ?_;refine ab ?_;show AOps _ _ _ _ _ _ _ _ _;refine au ?_;rw[C] at h5;have h5:(z.toNat:Int)=105:=by simpa using h5
    refine ab (aK (k+1,{ y with ins:=dT },.z,X) (aP ⟨rfl,rfl,?_,rfl,trivial⟩ eH) ⟨oM,?_,.inr ⟨rfl,rfl⟩,U⟩ oM)
    .show B hb=B (((cR s).take (k+1)).any (·==104));rw[uN,h5];simp
    .rw[cq,gK,if_neg h0,if_neg h1,if_neg h2,if_neg h3,if_neg h4,if_pos h5]
   rw[C] at h5;have h5:¬ (z.toNat:Int)=105:=by simpa using h5
   refine af ?_;refine ab (av rfl (fun h6=>gv ?_) fun h6=>ao ?_)
   .refine af ?_;refine ab ?_;show AOps _ _ _ _ _ _ _ _ _;refine au ?_;rw[C] at h6;have h6:(z.toNat:Int)=108:=by simpa using h6
    refine ab (aK (k+1,{ y with args:=[] },J,.z) (aP ⟨rfl,rfl,?_,rfl,trivial⟩ eH) ⟨oM,?_,dB,.inr ⟨rfl,rfl⟩⟩ oM)
    .show B hb=B (((cR s).take (k+1)).any (·==104));rw[uN,h6];simp
    .rw[cq,gK,if_neg h0,if_neg h1,if_neg h2,if_neg h3,if_neg h4,if_neg h5,if_pos h6]
   rw[C] at h6;have h6:¬ (z.toNat:Int)=108:=by simpa using h6
   refine af ?_;refine ab (av rfl (fun h8=>gv ?_) fun h8=>?_)
   .refine SS ?_;refine ab ?_;show AOps _ _ _ _ _ _ _ _ _;refine au ?_;rw[C] at h8;refine ab (aK (k+1,y,J,X) (aP ⟨rfl,rfl,?_,rfl,trivial⟩ eH) ⟨oM,?_,dB,U⟩ oM)
    .show B true=B (((cR s).take (k+1)).any (·==104));rw[uN,h8];simp
    .rw[cq,gK,if_neg h0,if_neg h1,if_neg h2,if_neg h3,if_neg h4,if_neg h5,if_neg h6]
   rw[C] at h8;refine ct ?_;show AOps _ _ _ _ _ _ _ _ _;refine au ?_;refine ab (aK (k+1,y,J,X) (aP ⟨rfl,rfl,?_,rfl,trivial⟩ eH) ⟨oM,?_,dB,U⟩ oM)
   .show B hb=B (((cR s).take (k+1)).any (·==104));rw[uN,h8];simp
   .rw[cq,gK,if_neg h0,if_neg h1,if_neg h2,if_neg h3,if_neg h4,if_neg h5,if_neg h6]
  .have bh:¬ k<s.size:=by simpa using h
   rw[dn (by simp[cR];omega)] at hy ⊢;exact⟨y,J,X,aP eH eH,hy,dB,U⟩
 .rintro st ⟨y,J,X,hg,hy,dB,U⟩;refine⟨_,hg,aC (ao ?_)⟩
  have hl:dO x (cR s)=(((cR s).any (·==104)||(aR y.aH.length 0&&aR y.cP (-1)))&&p8 y):=by
   have hw:∀ (l:List Int) (x:Argus.End),(l.foldl gK x).aH=x.aH/\(l.foldl gK x).cP=x.cP:=fun l=>by
    induction l with
    |nil=>exact fun _=>⟨rfl,rfl⟩
    |cons a l ih=>
     intro x
     have:(gK x a).aH=x.aH/\(gK x a).cP=x.cP:=by
      unfold gK
      repeat' split
      all_goals exact⟨rfl,rfl⟩
     rw[List.foldl_cons,(ih _).1,(ih _).2,this.1,this.2];exact⟨rfl,rfl⟩
   obtain⟨h1,h2⟩:=hw (cR s) x;rw[hy] at h1 h2;rw[dO,hy,h1,h2]
  rw[hl];clear hl hy;generalize (cR s).any (·==104)=hb;have cu:PCall prog 214 [.agg [U8 y.ins.op,I y.ins.to,I y.ins.a,I y.ins.b,I y.ins.n,J],S ⟨#[]⟩] (B (lf y.ins)):=Uf (x:=y.ins) dB oC;refine aE ?_;refine aJ ?_;refine ab (cH rfl (fun h=>?_) fun h=>b7 (ao ?_))
  .refine aC (ao ?_);refine SS ?_;refine ab (cK (ax (d:=.s (.bool _)) rfl ?_));revert h;simp[aR];grind
  rcases U with rfl|⟨rfl,U⟩
  .refine aE ?_;refine aE ?_;refine aE ?_;refine aE ?_;refine af ?_;refine gc cu ?_;refine af ?_;refine ab (ax (d:=.s (.bool _)) rfl ?_);revert h;simp[p8,aR];grind
  .refine aE ?_;refine aE ?_;refine aE ?_;refine aE ?_;refine af ?_;refine gc cu ?_;refine af ?_;refine ab (ax (d:=.s (.bool _)) rfl ?_);revert h;simp[p8,aR,U];grind
end Go.Proofs.Tryz.K
end
