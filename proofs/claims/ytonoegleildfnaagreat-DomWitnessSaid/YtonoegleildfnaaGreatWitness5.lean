/- Part 5 of the proof; the last part says what is proved. -/
import Derived.Test.YtonoegleildfnaaGreatWitness4
set_option linter.unusedVariables false
set_option linter.unusedSimpArgs false
section
open Go Go.Abs Go.Proofs Go.Argus
namespace Go.Proofs.Tryz.K
set_option maxRecDepth 10000
theorem nE{x:Argus.End}(hlen:x.aH.length<=100000):PCall prog 145 [.agg (bd x)] (aB (dc x)):=by
 have aZ:∀ a∈[D.agg (bd x)],Tr a:=.cons (.agg (jF x)) .nil;refine bc ae' aZ (dg _) ?_;rw[afa];refine aw ?_;refine af ?_;refine ab (aI (bw [(0,bd x,69)] eH (l:=[(1,.pt (bd x))]) eH) (aw ?_));refine SS ?_;refine ab ⟨_,.nilrow _ _ _ 3 3 rfl,?_⟩;refine ew (yF x (fK x)) (ao ?_) fun s C=>?_
 .have yes:x.kind≠3/\x.kind≠4->fK x=[x.to]:=fun h=>by rw[fK,if_pos h]
  have no:¬ (x.kind≠3/\x.kind≠4)->fK x=[]:=fun h=>by rw[fK,if_neg h]
  have ay:up (fun _=>(none:Option Row)) 1 (some (.cells [] 3)) 1=some (.cells [] 3):=up_same _ _ _;by_cases h3:x.kind=3
  .have fQ:(x.kind !=3)=false:=by simp[h3]
   refine aJ ?_;(iterate 3 refine z fun _ _=>?_);refine SS ?_;refine ab (av rfl (fun h=>oH) fun h=>bj ?_);rw[no (by simp[h3])];exact⟨_,_,_,Nat.lt_succ_self _,up_same _ _ _,aq eH⟩
  .by_cases h4:x.kind=4
   .have fQ:(x.kind !=3)=true:=by simp[h4]
    have KX:(x.kind !=4)=false:=by simp[h4]
    refine bI ?_;refine ab (av rfl (fun h=>(by simp[h4] at h)) fun h=>bj ?_);rw[no (by simp[h4])];exact⟨_,_,_,Nat.lt_succ_self _,up_same _ _ _,aq eH⟩
   .have fQ:(x.kind !=3)=true:=by simp[h3]
    have KX:(x.kind !=4)=true:=by simp[h4]
    refine bI ?_;refine ab (av rfl (fun h=>?_) fun h=>(by simp[h4] at h));refine gv ?_;refine bK ?_;refine ab ?_;rw[yes ⟨h3,h4⟩];exact⟨_,_,_,Nat.lt_succ_self _,up_same _ _ _,aq eH⟩
 obtain⟨r,m,nx,hr,ay,hg⟩:=C;refine⟨_,hg,ew (yF x (nP x)) (ao ?_) fun s C=>?_⟩
 .have J:nP x=if x.kind=2\/x.kind=8 then fK x++[x.fS] else fK x:=rfl
  have U:(fK x).length<=1:=by unfold fK;split<;>simp
  generalize fK x=l at ay J U;have oQ:(l.map I).length=l.length:=by simp
  by_cases h2:x.kind=2\/x.kind=8
  .rw[if_pos h2] at J;refine bI ?_;refine ab (av rfl (fun h=>gv ?_) fun h=>(by rcases h2 with h2|h2<;>simp[h2] at h));refine bK ?_;refine ab ?_;rw[J];refine⟨_,_,_,Nat.lt_succ_self _,(up_same _ _ _).trans (by rw[List.map_append];rfl),aq ⟨rfl,?_,trivial⟩⟩;show D.rs _ 0 _=D.rs _ 0 _;rw[List.length_append];rfl
  .rw[if_neg h2] at J;refine bI ?_;refine ab (av rfl (fun h=>(by exfalso;apply h2;revert h;by_cases e2:x.kind=2<;>by_cases e8:x.kind=8<;>simp[e2,e8])) fun h=>bj ?_);rw[J];exact⟨r,m,nx,hr,ay,aq eH⟩
 clear hg hr ay;obtain⟨r,m,nx,hr,ay,hg⟩:=C;refine⟨_,hg,ew (yF x (dp x x.aH.length)) (aw ?_) fun s C=>?_⟩
 .refine SS ?_
  refine ab (cI (α:=Nat×Nat×Mem×Nat) (fun s=>⟨az [(1,.pt (bd x)),(3,.rs s.2.1 0 (dp x s.1).length),(4,I s.1)],s.2.2.1,s.2.2.2⟩)
   (fun s=>s.1<=x.aH.length/\s.2.1<s.2.2.2/\s.2.2.1 s.2.1=some (.cells ((dp x s.1).map I) 3)) (fun s=>x.aH.length - s.1) (0,r,m,nx) (aq ⟨rfl,?_,rfl,trivial⟩) ⟨Nat.zero_le _,hr,?_⟩ ?_)
  .show D.rs r 0 _=D.rs r 0 _;simp[dp]
  .show m r=_;rw[ay];simp[dp]
  clear hg hr ay;rintro⟨j,r,m,nx⟩ ⟨hj,hr,ay⟩;dsimp only at hj hr ay ⊢;refine aV ?_;refine ab ⟨_,rfl,fun h=>?_,fun h=>?_⟩
  .have cF:j<x.aH.length:=by simpa using h
   have hy:x.aH[j]? =some x.aH[j]:=aG cF;generalize x.aH[j]=w at hy;have X:=PE hy;have yA:(dp x (j+1)).length=(dp x j).length+1:=by rw[X];simp
   have oQ:((dp x j).map I).length=(dp x j).length:=by simp
   have U:(dp x j).length<=2+j:=by have:=CY x;unfold dp;simp;omega
   generalize dp x j=l at ay X oQ yA U;refine eZ ?_;refine bI ?_;refine af ?_;refine ab ?_;refine au ?_;refine ab (aK (j+1,nx+1,_,_) (aq ⟨rfl,?_,rfl,trivial⟩) ⟨oM,oM,?_⟩ oM)
   .show D.rs _ 0 _=D.rs _ 0 _;rw[yA]
   .dsimp only;rw[X,List.map_append];exact up_same _ _ _
  .have bh:¬ j<x.aH.length:=by simpa using h
   have:j=x.aH.length:=by omega
   subst this;exact⟨r,m,nx,hr,ay,aq eH⟩
 clear hg hr ay;obtain⟨r,m,nx,hr,ay,hg⟩:=C;refine⟨_,hg,ew (yF x (dc x)) (ao ?_) fun s C=>?_⟩
 .have hd:dc x=if 0<=x.cP then dp x x.aH.length++[x.cP] else dp x x.aH.length:=rfl
  have U:(dp x x.aH.length).length<=2+x.aH.length:=by have:=CY x;unfold dp;simp;omega
  generalize dp x x.aH.length=l at ay hd U;have oQ:(l.map I).length=l.length:=by simp
  refine au ?_;refine ab (av rfl (fun h=>gv ?_) fun h=>bj ?_)
  .rw[if_pos (by simpa using h)] at hd;refine bK ?_;refine ab ?_;rw[hd];refine⟨_,_,_,Nat.lt_succ_self _,(up_same _ _ _).trans (by rw[List.map_append];rfl),aq ⟨rfl,?_,trivial⟩⟩;show D.rs _ 0 _=D.rs _ 0 _;rw[List.length_append];rfl
  .rw[if_neg (by simpa using h)] at hd;rw[hd];exact⟨r,m,nx,hr,ay,aq eH⟩
 clear hg hr ay;obtain⟨r,m,nx,hr,ay,hg⟩:=C;refine⟨_,hg,aw ?_⟩;refine af ?_;refine ab (aI (bw [(r,(dc x).map I,3)] ⟨ay,trivial⟩ (l:=[(2,aB (dc x))]) ⟨lb (sz:=1) c3 (by rw[List.drop_zero,dn oS]),trivial⟩) (ax rfl rfl))
theorem Nc{l:List Int}{n:Int}(hl:l.length<=100000):PCall prog 92 [aB l,I n] (aB (jT l n)):=by
 refine bc aiv (.cons (dg _) (.cons (.s _) .nil)) (dg _) ?_;rw[aiw];refine ws ?_;refine SS ?_;refine ab (aw ?_);refine SS ?_
 refine ab (bV (fun st=>∃ k:Nat,Ghost prog st ⟨az [(0,aB l),(1,I n),(5,I k)],fun _=>none,0⟩/\k<=l.length/\(∀ (j:Nat) y,j<k->l[j]? =some y->y<n)/\∀ y,l[k]? =some y->¬ y<n) (y7 (α:=Nat) (fun k=>⟨az [(0,aB l),(1,I n),(5,I k)],fun _=>none,0⟩)
  (fun k=>k<=l.length/\∀ (j:Nat) y,j<k->l[j]? =some y->y<n) (fun k=>l.length - k) 0 (aq eH) ⟨Nat.zero_le _,fun j y hj=>by omega⟩ ?_) ?_)
 .rintro k ⟨hk,hinv⟩;by_cases ap:k<l.length
  .have hx:l[k]? =some l[k]:=aG ap;generalize l[k]=y at hx;have nB:decide ((k:Int)<(l.length:Int))=true:=decide_eq_true oG;refine aE ?_;refine au ?_;refine ab ⟨_,rfl,fun h=>?_,fun h=>?_⟩
   .have hy:y<n:=by simpa using h
    refine eZ ?_;refine au ?_;refine ab (aK (k+1) (aq eH) ⟨oG,fun j J hj U=>?_⟩ oG);by_cases e:j=k
    .subst e;rw[hx] at U;cases U;exact hy
    .exact hinv j J oG U
   .have hy:¬ y<n:=by simpa using h
    exact⟨k,aq eH,hk,hinv,fun J U=>by rw[hx] at U;cases U;exact hy⟩
  .have nB:decide ((k:Int)<(l.length:Int))=false:=decide_eq_false oG;refine aV ?_;(iterate 6 refine z fun _ _=>?_);refine SS ?_;refine ab ⟨_,rfl,fun h=>oH,fun h=>?_⟩;exact⟨k,aq eH,hk,hinv,fun J U=>by have:=(bL.1 U).1;omega⟩
 .rintro st ⟨k,hg,hk,hinv,aU⟩;have xX:=Sc hk hinv aU;refine⟨_,hg,aC (ao ?_)⟩;by_cases bl:l[k]? =some n
  .rw[if_pos bl] at xX;have nB:decide ((k:Int)<(l.length:Int))=true:=decide_eq_true (by have:=(bL.1 bl).1;omega);refine aE ?_;refine au ?_;refine ab (cH rfl (fun h=>?_) fun h=>(by simp at h));refine aC (ao ?_);refine af ?_;refine ab (cK (ax rfl ?_));rw[xX];rfl
  rw[if_neg bl] at xX
  have uR:((l.map I).drop ((0:Int).toNat*1)).take (((k:Int) - 0).toNat*1)=(l.take k).map I:=by
   rw[show(0:Int).toNat*1=0 by simp,show((k:Int) - 0).toNat*1=k by omega,List.drop_zero,List.map_take]
  have Nd:((l.map I).drop ((k:Int).toNat*1)).take (((l.length:Int) - k).toNat*1)=(l.drop k).map I:=by
   rw[show(k:Int).toNat*1=k by omega, <- List.map_drop,dn (by simp;try omega)]
  have Nf:((l.take k).map I).take (((k:Int) - 0).toNat*1)=(l.take k).map I:=dn (by simp;try omega);have Ng:((l.drop k).map I).take (((l.length:Int) - k).toNat*1)=(l.drop k).map I:=dn (by simp;try omega);have pL:((l.take k).map I).length=k:=by simp;omega
  have Fk:((l.drop k).map I).length=l.length - k:=by simp
  have X:((l.take k).map I++[I n])++(l.drop k).map I=(l.take k++n::l.drop k).map I:=by simp
  have hlen:(l.take k++n::l.drop k).length=l.length+1:=by simp;omega
  rw[xX];generalize l.take k++n::l.drop k=J at X hlen;generalize (l.take k).map I=A at uR Nf pL X;generalize (l.drop k).map I=C at Nd Ng Fk X;by_cases ap:k<l.length
  .have hx:l[k]? =some l[k]:=aG ap;have aM:l[k]≠n:=fun e=>bl (by rw[hx,e]);generalize l[k]=y at hx aM;have nB:decide ((k:Int)<(l.length:Int))=true:=decide_eq_true oG;have cM:(y==n)=false:=by simpa using aM
   refine aE ?_;refine au ?_;refine ab (cH rfl (fun h=>oH) fun h=>b7 (ao ?_));refine au ?_;refine aF (AZ (es':=A) rfl Fo c3 rfl rfl uR) dd ⟨Ez,oG,oG,oG⟩ ?_;have sZ:=Nf;refine aV ?_;refine ab (aw ?_);refine au ?_;refine aF (AZ (es':=C) rfl Fo c3 rfl rfl Nd) dd ⟨Ez,oG,oG,oG⟩ ?_;have sZ:=Ng;refine af ?_;refine ab (aI (bw [(4,J.map I,3)] ⟨by rw[<- X];rfl,trivial⟩ (l:=[(4,aB J)]) ⟨?_,trivial⟩) (aT (ax rfl rfl)));show tf _ [(4,_,3)] (.rs 4 0 (0+((k:Int) - 0).toNat+1+((l.length:Int) - k).toNat))=_;rw[show 0+((k:Int) - 0).toNat+1+((l.length:Int) - k).toNat=J.length by omega];exact lb (sz:=1) c3 (by rw[List.drop_zero,dn oS])
  .have nB:decide ((k:Int)<(l.length:Int))=false:=decide_eq_false oG;refine aV ?_;(iterate 6 refine z fun _ _=>?_);refine SS ?_;refine ab (cH rfl (fun h=>oH) fun h=>b7 (ao ?_));refine au ?_;refine aF (AZ (es':=A) rfl Fo c3 rfl rfl uR) dd ⟨Ez,oG,oG,oG⟩ ?_;have sZ:=Nf;refine aV ?_;refine ab (aw ?_);refine au ?_;refine aF (AZ (es':=C) rfl Fo c3 rfl rfl Nd) dd ⟨Ez,oG,oG,oG⟩ ?_;have sZ:=Ng;refine af ?_;refine ab (aI (bw [(4,J.map I,3)] ⟨by rw[<- X];rfl,trivial⟩ (l:=[(4,aB J)]) ⟨?_,trivial⟩) (aT (ax rfl rfl)));show tf _ [(4,_,3)] (.rs 4 0 (0+((k:Int) - 0).toNat+1+((l.length:Int) - k).toNat))=_;rw[show 0+((k:Int) - 0).toNat+1+((l.length:Int) - k).toNat=J.length by omega];exact lb (sz:=1) c3 (by rw[List.drop_zero,dn oS])
end Go.Proofs.Tryz.K
end
namespace Go.Argus
open Go Go.Abs
open Go.Proofs.Tryz.K (nextR)
theorem y0{α:Type}{l:List α}{k i:Nat}{x d:α}(hk:k<l.length):(l.set k x).getD i d=if i=k then x else l.getD i d:=by
 rw[bF,List.getElem?_set,bF];by_cases h:k=i
 .subst h;rw[if_pos rfl,if_pos rfl,if_pos hk];rfl
 .rw[if_neg h,if_neg fun e=>h e.symm]
theorem fR.VN{n:Nat}{s:CS}(h:fR n s){b:Nat}(hb:b<n):eF (s.ws.getD b []):=by
 have hl:b<s.ws.length:=by rw[h.lw];exact hb
 have hx:s.ws[b]? =some s.ws[b]:=aG hl;rw[getD_some hx];have hm:s.ws[b]∈s.ws:=bO _;exact⟨h.jX _ hm,h.rg _ hm⟩
structure Cert where
 any:Bool
 is:List Bool
def gp(R i:Nat):Nat:=if i<R then i else 1200+(i - R)
def cz(R n:Nat)(w:List Int):List Bool:=(List.range n).map fun i=>bk w (gp R i)
def mC(R n:Nat)(w:List Int):Prop:=∀ r,bk w r=true->∃ i,i<n/\r=gp R i
def jt(c:Cert)(r:Int):Cert:=if r= -1 then c else⟨c.any,c.is.set r.toNat true⟩
def wl(R:Nat)(c:Cert)(x:a7):Cert:=if x.op=18 then jt (jt c (bT x)) ((R:Int)+x.n) else jt c (bT x)
def eV(R:Nat)(l:List a7)(c:Cert):Cert:=l.foldl (wl R) c
def nw(x:End)(to:Int)(c:Cert):Cert:=if x.to≠to\/(dc x).tail.any (·==to)=true\/x.kind=3\/x.kind=4 then c else jt c (eg x)
def qa(a b:Cert):Cert:=if a.any=true then b else if b.any=true then a else⟨false,List.zipWith (fun x y=>x&&y) a.is b.is⟩
def sc(c:Cert)(rs:List Int):Bool:=rs.all fun r=>c.is.getD r.toNat false
theorem CQ(R n:Nat)(w:List Int):(cz R n w).length=n:=by simp[cz]
theorem ua{R n i:Nat}{w:List Int}(h:i<n):(cz R n w)[i]? =some (bk w (gp R i)):=by simp[cz,h]
theorem A8{R n i:Nat}{w:List Int}(h:¬ i<n):(cz R n w)[i]? =none:=by simp[cz];omega
theorem ab7{R i j:Nat}(hR:R<=1200)(h:gp R i=gp R j):i=j:=by
 unfold gp at h;split at h<;>split at h<;>omega
theorem ab8{w:List Int}(h:w.length=20){r:Nat}(hr:¬ r<1280):bk w r=false:=by
 unfold bk;rw[bF,List.getElem?_eq_none (by rw[h];omega)];simp
section
variable{R n:Nat}(hR:R<=1200)(hn:n<=R+60)
include hR hn
theorem ac3{i:Nat}(h:i<n):gp R i<1280:=by unfold gp;split<;>omega
theorem O3{w:List Int}(C:eF w){i:Nat}(h:i<n)(r:Nat):bk (hU w (gp R i:Nat)) r=(bk w r||decide (r=gp R i)):=by
 have:=ac3 hR hn h;unfold hU;rw[if_pos oG,bx,PY C.all (by rw[C.len];omega)]
theorem F9{w:List Int}(C:eF w){i:Nat}(h:i<n):(cz R n w).set i true=cz R n (hU w (gp R i:Nat)):=by
 apply List.ext_getElem?;intro j;rw[List.getElem?_set];by_cases hj:j<n
 .rw[ua hj,ua hj,O3 hR hn C h];by_cases e:i=j
  .subst e;simp[CQ,h]
  .rw[if_neg e];have:¬ gp R j=gp R i:=fun h=>e (ab7 hR h).symm;simp[this]
 .rw[A8 hj,A8 hj];split
  .rw[CQ,if_neg oG]
  .rfl
theorem FW{w:List Int}(J:eF w)(C:mC R n w){i:Nat}(h:i<n):mC R n (hU w (gp R i:Nat)):=fun r hr=>by
 rw[O3 hR hn J h,Bool.or_eq_true] at hr;rcases hr with hr|hr
 .exact C r hr
 .exact⟨i,h,by simpa using hr⟩
omit hR hn in
theorem aa1{w v:List Int}(C:eF w)(hv:eF v):List.zipWith (fun x y=>x&&y) (cz R n w) (cz R n v)=cz R n (hZ w v):=by
 apply List.ext_getElem?;intro j;rw[List.getElem?_zipWith];by_cases hj:j<n
 .rw[ua hj,ua hj,ua hj,JB C hv]
 .rw[A8 hj,A8 hj,A8 hj]
omit hR hn in
theorem O4{w v:List Int}(J:eF w)(hv:eF v)(C:mC R n v):mC R n (hZ w v):=fun r hr=>by
 rw[JB J hv,aO] at hr;exact C r hr.2
omit hR hn in
theorem ab9{w v:List Int}(J:eF w)(hv:eF v)(C:mC R n w)(U:mC R n v)(h:cz R n w=cz R n v):w=v:=by
 refine I3 J.all hv.all (by rw[J.len,hv.len]) fun r=>?_
 have hb:∀ i,i<n->bk w (gp R i)=bk v (gp R i):=fun i hi=>by
  have:=congrArg (fun l:List Bool=>l[i]?) h;simpa only[ua hi,aQ] using this
 cases e1:bk w r with
 |true=>
  obtain⟨i,hi,rfl⟩:=C r e1;rw[<- hb i hi,e1]
 |false=>
  cases e2:bk v r with
  |false=>rfl
  |true=>
   obtain⟨i,hi,rfl⟩:=U r e2;rw[hb i hi,e2] at e1;cases e1
end
def uz:List Int:=List.replicate 20 lj
theorem JD:eF uz:=⟨by simp[uz],fun u C=>by rw[List.eq_of_mem_replicate C];simp[dK,lj]⟩
theorem aa2{r:Nat}(h:r<1280):bk uz r=true:=by
 have h1:uz.getD (r / 64) 0=lj:=by
  unfold uz;rw[bF,List.getElem?_replicate,if_pos oG];rfl
 unfold bk;rw[h1];have h2:r % 64<64:=Nat.mod_lt _ oC;have h3:lj.toNat=2 ^ 64 - 1:=rfl;rw[h3,Nat.testBit_two_pow_sub_one];simpa using h2
theorem ZP{w:List Int}(C:eF w):hZ uz w=w:=by
 refine I3 (JD.Ma C).all C.all (by rw[(JD.Ma C).len,C.len]) fun r=>?_;rw[JB JD C];by_cases h:r<1280
 .rw[aa2 h,Bool.true_and]
 .rw[ab8 C.len h,Bool.and_false]
structure zP(R n:Nat)(x:a7):Prop where
 w:bT x= -1\/∃ i:Nat,i<R/\bT x=i
 s:x.op=18->∃ i:Nat,R+i<n/\x.n=i
theorem PZ{R n:Nat}(hR:R<=1200)(hn:n<=R+60)(qR:R<=n){w:List Int}{x:a7}(h:zP R n x)(C:eF w)(U:mC R n w):
 wl R ⟨false,cz R n w⟩ x=⟨false,cz R n (xq w x)⟩/\eF (xq w x)/\mC R n (xq w x):=by
 have aM:∀ {v:List Int},hU v (-1)=v:=fun {v}=>by unfold hU;rw[if_neg oG]
 have X:∀ {i:Nat},i<R->((i:Nat):Int)=(gp R i:Nat):=fun {i} hi=>by unfold gp;rw[if_pos hi]
 unfold wl xq;by_cases J:x.op=18
 .obtain⟨i,hi,e⟩:=h.s J;have lY:bT x= -1:=by simp[bT,aN,l9,oY,J]
  have hp:kP x.n=(gp R (R+i):Nat):=by rw[e];unfold kP gp;rw[if_neg oG];omega
  rw[if_pos J,if_pos J,lY,hp];refine⟨?_,C.hU _,FW hR hn C U hi⟩;unfold jt;rw[if_pos rfl,if_neg oG,e, <- F9 hR hn C hi];congr 2
 .rw[if_neg J,if_neg J];rcases h.w with e|⟨i,hi,e⟩
  .rw[e,aM];exact⟨if_pos rfl,C,U⟩
  .rw[e,X hi];refine⟨?_,C.hU _,FW hR hn C U oG⟩;unfold jt;rw[if_neg oG, <- F9 hR hn C oG, <- X hi,bx]
theorem CR{R n:Nat}(hR:R<=1200)(hn:n<=R+60)(C:R<=n):∀ {l:List a7} (_:∀ x∈l,zP R n x) {w:List Int} {ok:Bool} (_:eF w) (_:mC R n w),
 eV R l ⟨false,cz R n w⟩=⟨false,cz R n (l.foldl mw (w,ok)).1⟩/\eF (l.foldl mw (w,ok)).1/\mC R n (l.foldl mw (w,ok)).1
 |[],_,w,ok,hw,ho=>⟨rfl,hw,ho⟩
 |x::l,h,w,ok,hw,ho=>by
  obtain⟨h1,h2,h3⟩:=PZ hR hn C (h x oS) hw ho;unfold eV;rw[List.foldl_cons,List.foldl_cons,h1];exact CR hR hn C (fun y hy=>h y (by simp[hy])) h2 h3
theorem count_tail{l:List Int}{a b:Int}(h:a=b):((a::l).count b=1)↔l.any (·==b)=false:=by
 subst h;rw[List.count_cons_self,List.any_eq_false];constructor
 .intro h x hx;have h0:l.count a=0:=by omega
  rw[List.count_eq_zero] at h0;intro e;have:x=a:=by simpa using e
  subst this;exact h0 hx
 .intro h;have:l.count a=0:=List.count_eq_zero.2 fun hm=>h a hm oS;omega
theorem P'{R n:Nat}(hR:R<=1200)(hn:n<=R+60)(qR:R<=n){x:End}(he:dc x=cX x)(fI:eg x= -1\/∃ i:Nat,i<R/\eg x=i){to:Int}{w:List Int}(C:eF w)(U:mC R n w):
 nw x to ⟨false,cz R n w⟩=⟨false,cz R n (gG x to w)⟩/\eF (gG x to w)/\mC R n (gG x to w):=by
 have aM:∀ {v:List Int},hU v (-1)=v:=fun {v}=>by unfold hU;rw[if_neg oG]
 have X:Be x to=true↔¬ (x.to≠to\/(dc x).tail.any (·==to)=true\/x.kind=3\/x.kind=4):=by
  unfold Be;rw[aO,nW,nW,he];unfold cX;by_cases J:x.kind=3\/x.kind=4
  .rw[if_pos (by simpa[aN] using J)];simp[J]
  .rw[if_neg (by simpa[aN] using J),List.tail_cons];generalize ((if aN [2,8] x.kind=true then [x.fS] else [])++(x.aH.map (·.to)++if iw x=true then [x.cP] else []))=l;constructor
   .rintro⟨h1,h2⟩ h;rcases h with h|h|h|h
    .exact h h1
    .have:=(count_tail (l:=l) h1).1 oG;rw[this] at h;cases h
    .exact J (.inl h)
    .exact J (.inr h)
   .intro h;have h1:x.to=to:=Classical.byContradiction fun e=>h (.inl e);refine⟨h1,?_⟩;have:=(count_tail (l:=l) h1).2 (Bool.eq_false_iff.2 fun e=>h (.inr (.inl e)));omega
 unfold nw gG;by_cases ha:Be x to=true
 .rw[if_pos ha,if_neg (X.1 ha)];rcases fI with e|⟨i,hi,e⟩
  .rw[e,aM];exact⟨if_pos rfl,C,U⟩
  .have lk:((i:Nat):Int)=(gp R i:Nat):=by unfold gp;rw[if_pos hi]
   rw[e,lk];refine⟨?_,C.hU _,FW hR hn C U oG⟩;unfold jt;rw[if_neg oG, <- F9 hR hn C oG, <- lk,bx]
 .rw[if_neg ha,if_pos (Classical.byContradiction fun h=>ha (X.2 h))];exact⟨rfl,C,U⟩
structure qc(R n N:Nat)(s:CS):Prop where
 ok:fR N s
 yes:∀ k,k<N->s.re.getD k false=true->mC R n (s.ws.getD k [])
 no:∀ k,k<N->s.re.getD k false=false->s.ws.getD k []=uz
def cC(R n:Nat)(s:CS)(k:Nat):Cert:=if s.re.getD k false=true then⟨false,cz R n (s.ws.getD k [])⟩ else⟨true,List.replicate n false⟩
def BP(x:End)(R n:Nat)(w:List Int)(s:CS)(t:Nat):Cert:=qa (cC R n s t) (nw x t ⟨false,cz R n w⟩)
theorem QN{R n N:Nat}(hR:R<=1200)(hn:n<=R+60)(qR:R<=n){s:CS}(C:qc R n N s){x:End}(he:dc x=cX x)(fI:eg x= -1\/∃ i:Nat,i<R/\eg x=i){t:Nat}(ht:t<N)
 {w:List Int} (hw:eF w) (ho:mC R n w):
 qc R n N (cO x w s t)/\((BP x R n w s t=cC R n s t/\cO x w s t=s)\/((BP x R n w s t).any≠(cC R n s t).any\/(BP x R n w s t).is≠(cC R n s t).is)/\(cO x w s t).ch=true/\
  ∀ k,cC R n (cO x w s t) k=if k=t then BP x R n w s t else cC R n s k):=by
 obtain⟨o1,U,X⟩:=P' hR hn qR he fI (to:=(t:Int)) hw ho;have hlw:s.ws.length=N:=C.ok.lw;have Cm:s.re.length=N:=C.ok.lr;have mS:=C.ok.VN ht;have Xk:=(FF (x:=x) (w:=w) (t:=(t:Int)) C.ok ⟨oG,oG⟩).1;unfold BP;rw[o1];generalize hv:gG x t w=v at U X
 have key:∀ u:List Int,(s.re.getD t false=true->u≠s.ws.getD t [])->hZ (s.ws.getD t []) v=u->mC R n u->qa (cC R n s t) ⟨false,cz R n v⟩=⟨false,cz R n u⟩->(⟨false,cz R n u⟩:Cert).any≠(cC R n s t).any\/cz R n u≠(cC R n s t).is->
  qc R n N (cO x w s t)/\((qa (cC R n s t) ⟨false,cz R n v⟩=cC R n s t/\cO x w s t=s)\/((qa (cC R n s t) ⟨false,cz R n v⟩).any≠(cC R n s t).any\/(qa (cC R n s t) ⟨false,cz R n v⟩).is≠(cC R n s t).is)/\(cO x w s t).ch=true/\
  ∀ k,cC R n (cO x w s t) k=if k=t then qa (cC R n s t) ⟨false,cz R n v⟩ else cC R n s k):=fun u hu hm hou hb aM=>by
  have mX:cO x w s t=⟨s.ws.set t u,s.re.set t true,true⟩:=by
   unfold cO;rw[bx,hv,hm,if_pos];cases e:s.re.getD t false with
   |false=>exact .inl rfl
   |true=>exact .inr (hu e)
  rw[mX] at Xk ⊢;have EZ:∀ k,(s.ws.set t u).getD k []=if k=t then u else s.ws.getD k []:=fun k=>y0 oG
  have pM:∀ k,(s.re.set t true).getD k false=if k=t then true else s.re.getD k false:=fun k=>y0 oG
  refine⟨⟨Xk,fun k hk h=>?_,fun k hk h=>?_⟩,.inr ⟨?_,rfl,fun k=>?_⟩⟩
  .rw[EZ];rw[pM] at h;by_cases e:k=t
   .rw[if_pos e];exact hou
   .rw[if_neg e] at h ⊢;exact C.yes k hk h
  .rw[EZ];rw[pM] at h;by_cases e:k=t
   .rw[if_pos e] at h;cases h
   .rw[if_neg e] at h ⊢;exact C.no k hk h
  .rw[hb];exact aM
  .rw[hb];unfold cC;rw[EZ,pM];by_cases e:k=t
   .rw[if_pos e,if_pos e,if_pos e,if_pos rfl]
   .rw[if_neg e,if_neg e,if_neg e]
 cases J:s.re.getD t false with
 |false=>
  have hc:cC R n s t=⟨true,List.replicate n false⟩:=by unfold cC;rw[J];rfl
  refine key v (fun h=>by rw[J] at h;cases h) (by rw[C.no t ht J,ZP U]) X ?_ (.inl ?_)
  .rw[hc];rfl
  .rw[hc];simp
 |true=>
  have hc:cC R n s t=⟨false,cz R n (s.ws.getD t [])⟩:=by unfold cC;rw[J];rfl
  have hb:qa (cC R n s t) ⟨false,cz R n v⟩=⟨false,cz R n (hZ (s.ws.getD t []) v)⟩:=by
   rw[hc];unfold qa;rw[if_neg oS,if_neg oS,aa1 mS U]
  by_cases hm:hZ (s.ws.getD t []) v=s.ws.getD t []
  .have mX:cO x w s t=s:=by
    unfold cO;rw[bx,hv,hm,J,if_neg oS]
   rw[mX,hb,hm,hc];exact⟨C,.inl ⟨rfl,rfl⟩⟩
  .refine key _ (fun _=>hm) rfl (O4 mS U X) hb (.inr fun e=>hm ?_);rw[hc] at e;exact ab9 (mS.Ma U) mS (O4 mS U X) (C.yes t ht J) e
theorem QM{R n N:Nat}{s:CS}(h:qc R n N s)(c:Bool):qc R n N ⟨s.ws,s.re,c⟩:=⟨⟨h.ok.lw,h.ok.lr,h.ok.jX,h.ok.rg⟩,h.yes,h.no⟩
theorem OS{R n N args:Nat}(hR:R<=1200)(hn:n<=R+60)(qR:R<=n)(X:0<N)(ha:args<=R):qc R n N (j5 N args)/\cC R n (j5 N args) 0=⟨false,List.replicate args true++List.replicate (n - args) false⟩/\
 ∀ k,0<k->k<N->cC R n (j5 N args) k=⟨true,List.replicate n false⟩:=by
 have hA:∀ k,k<=R->eF (iJ k)/\mC R n (iJ k)/\cz R n (iJ k)=List.replicate k true++List.replicate (n - k) false:=fun k=>by
  induction k with
  |zero=>
   intro _;have hz:∀ r,bk (iJ 0) r=false:=JE 20;refine⟨⟨oS,FI 0⟩,(fun r hr=>by rw[hz r] at hr;cases hr),?_⟩;apply List.ext_getElem?;intro j;by_cases hj:j<n
   .rw[ua hj,hz];simp[hj]
   .rw[A8 hj];simp;omega
  |succ k ih=>
   intro hk;obtain⟨h1,h2,h3⟩:=ih oG;have lk:((k:Nat):Int)=(gp R k:Nat):=by unfold gp;rw[if_pos oG]
   have he:iJ (k+1)=hU (iJ k) (gp R k:Nat):=by rw[<- lk];rfl
   rw[he];refine⟨h1.hU _,FW hR hn h1 h2 oG,?_⟩;rw[<- F9 hR hn h1 oG,h3,JY oG]
 obtain⟨h1,h2,h3⟩:=hA args ha;have J:∀ k,(j5 N args).ws.getD k []=if k=0 then iJ args else(List.replicate N uz).getD k []:=fun k=>y0 (by simpa using X)
 have C:∀ k,(j5 N args).re.getD k false=if k=0 then true else(List.replicate N false).getD k false:=fun k=>y0 (by simpa using X)
 have U:∀ k,k<N->(List.replicate N uz).getD k []=uz:=fun k hk=>by rw[bF,List.getElem?_replicate,if_pos hk];rfl
 have rr:∀ k,(List.replicate N false).getD k false=false:=fun k=>by
  rw[bF,List.getElem?_replicate];split<;>rfl
 refine⟨⟨Iw (FI args),fun k hk h=>?_,fun k hk h=>?_⟩,?_,fun k h0 hk=>?_⟩
 .rw[C] at h;rw[J];by_cases e:k=0
  .rw[if_pos e];exact h2
  .rw[if_neg e,rr] at h;cases h
 .rw[C] at h;rw[J];by_cases e:k=0
  .rw[if_pos e] at h;cases h
  .rw[if_neg e];exact U k hk
 .unfold cC;rw[C,J,if_pos rfl,if_pos rfl,if_pos rfl,h3]
 .unfold cC;rw[C,if_neg (show ¬ k=0 by omega),rr];rfl
end Go.Argus
section
open Go Go.Abs Go.Proofs Go.Argus
namespace Go.Abs
theorem QI{P:Program}{st:St}{a n:Nat}{ty:TypeId}{cs vs:List D}(ha:st.env a=.pt cs)(hg:aggP P ty=true)(hc:P.cellsOf ty=n)(hv:cs.take n=vs)(ht:tyOk P ty=true)(hl:n<=cs.length):
 ∃ p,resD P st (.cell a ty)=some (p,.agg vs)/\p:=⟨tyOk P ty=true/\n<=cs.length,by simp only[resD,ha,takeV,hg,if_true,hc,hv],ht,hl⟩
end Go.Abs
namespace Go.Argus
def cE(c:Cert):List D:=[B c.any,b9 c.is]
@[simp] theorem alf (c : Cert) : (cE c).length = 2 := rfl
theorem uh(c:Cert):∀ a∈cE c,Tr a:=.cons (.s _) (.cons (.sl (.map fun _=>.s _)) .nil)
theorem FU(c:Cert)(r:Int):(jt c r).is.length=c.is.length:=by unfold jt;split<;>simp
theorem aaI(R:Nat)(c:Cert)(x:a7):(wl R c x).is.length=c.is.length:=by unfold wl;split<;>simp[FU]
theorem CE(R:Nat):∀ (l:List a7) (c:Cert),(eV R l c).is.length=c.is.length
 |[],_=>rfl
 |x::l,c=>by
  unfold eV;rw[List.foldl_cons];exact(CE R l _).trans (aaI R c x)
theorem OP(x:End)(to:Int)(c:Cert):(nw x to c).is.length=c.is.length:=by unfold nw;split<;>simp[FU]
def EA(n:Nat)(r:Int):Prop:=r= -1\/∃ i:Nat,i<n/\r=i
theorem cT{l:List Int}{n c:Int}(h:(n==c)=true)(hm:c∈l):B (n==c)=B (aN l n):=by
 have:aN l n=true:=List.any_eq_true.2 ⟨c,hm,h⟩;rw[h,this]
end Go.Argus
namespace Go.Proofs.Tryz.K
set_option maxRecDepth 10000
theorem s9{c:Cert}{rs:List Int}(U:∀ r∈rs,∃ i:Nat,i<c.is.length/\r=i):PCall prog 122 [.agg (cE c),aB rs] (B (sc c rs)):=by
 have C:∀ a∈[D.agg (cE c),aB rs],Tr a:=.cons (.agg (uh c)) (.cons (dg _) .nil);refine m8 Uh.he C fun X=>?_;have hlen:=(X (aB rs) oS).sl.1;unfold maxLen at hlen;refine bc Uh C (Tr.s _) ?_;rw[afb];refine aw ?_;refine af ?_;refine ab (aI (bw [(0,cE c,158)] eH (l:=[(1,aB rs),(2,.pt (cE c))]) eH) (aC (aw ?_)));refine SS ?_
 refine ab (bV (fun s=>Ghost prog s ⟨az [],fun _=>none,1⟩/\∀ (j:Nat) y,rs[j]? =some y->c.is.getD y.toNat false=true) (cI (α:=Nat) (fun k=>⟨az [(1,aB rs),(2,.pt (cE c)),(5,I k)],fun _=>none,1⟩)
  (fun k=>k<=rs.length/\∀ j y,j<k->rs[j]? =some y->c.is.getD y.toNat false=true) (fun k=>rs.length - k) 0 (aq eH) ⟨oG,fun j y hj=>by omega⟩ ?_) ?_)
 .rintro k ⟨hk,hinv⟩;refine aJ ?_;refine ab ⟨_,rfl,fun h=>?_,fun h=>?_⟩
  .have ap:k<rs.length:=by simpa using h
   have hx:rs[k]? =some rs[k]:=aG ap;obtain⟨i,hi,e⟩:=U _ (bO ap);have hy:c.is[i]? =some c.is[i]:=aG hi;rw[e] at hx;clear e
   have hg:∀ y,rs[k]? =some y->c.is.getD y.toNat false=c.is[i]:=fun y h=>by
    rw[hx] at h;cases h;rw[bx,getD_some hy]
   generalize c.is[i]=b at hy hg;refine c8 Zw ?_;refine aE ?_;refine a8 bf (av rfl (fun hp=>?_) fun hp=>?_)
   .refine ws ?_;refine SS ?_;refine ab (aT (bR (aL (ax (d:=B false) rfl ?_))));have:sc c rs=false:=List.all_eq_false.2 ⟨_,cx hx,by rw[hg _ hx];simpa using hp⟩;rw[this]
   .refine ct ?_;refine au ?_;refine ab (aK (k+1) (aq eH) ⟨oG,fun j y hj hy=>?_⟩ oG);by_cases e:j=k
    .subst e;rw[hg y hy];simpa using hp
    .exact hinv j y oG hy
  .have bh:¬ k<rs.length:=by simpa using h
   exact⟨.forget _ _ _ _ fun _=>.inr rfl,fun j y hy=>hinv j y (by have:=(bL.1 hy).1;omega) hy⟩
 .rintro s ⟨hg,J⟩;refine⟨_,hg,ao ?_⟩;refine SS ?_;refine ab (ax (d:=B true) rfl ?_)
  have:sc c rs=true:=bJ.2 fun x hx=>by
   obtain⟨j,hj⟩:=dt hx;exact J j x hj
  rw[this]
theorem jU{c:Cert}{r:Int}(hl:c.is.length<=100000)(hr:EA c.is.length r):PCall prog 124 [.agg (cE c),I r] (.agg (cE (jt c r))):=by
 refine bc afc (.cons (.agg (uh c)) (.cons (.s _) .nil)) (.agg (uh _)) ?_;rw[afd];refine ws ?_;refine af ?_;refine ab (aC (ao ?_));rcases hr with rfl|⟨i,hi,rfl⟩
 .refine af ?_;refine ab (gU ?_);refine aC (ao ?_);refine af ?_;refine ab (cK (jH (jZ rfl rfl ta mI rfl t158 (bA rfl)) ?_));rfl
 .have cM:((i:Int)== -1)=false:=by simp
  refine af ?_;refine ab (hP (b7 (c8 Zx ?_)));have C:(c.is.map B).length=c.is.length:=by simp
  have sZ:(c.is.map B).take (c.is.length*1)=c.is.map B:=dn oS;refine aV ?_;refine rH (rq rfl rfl rfl V.h V.h (Pj sZ) rfl) ak ⟨V.h,rfl,(by first|omega|exact bA rfl|(simp;done)|(simp;omega)),oC,(by first|rfl|(simp;done)|(simp;omega)),(by unfold maxLen;first|omega|(simp;omega)),(by rw[b4];first|omega|(simp;omega)),(by first|(simp;done)|(simp;omega))⟩ ?_;refine au ?_;refine a8 bf (ao ?_);refine aV ?_;refine ab (aw ?_);refine af ?_
  have e:sub (fz0 3 ((c.is.set i true).map B) (prog.cellsOf 4)) (.rs 3 0 (0+c.is.length))=.sl ((c.is.set i true).map B) c.is.length:=by
   rw[c4,Nat.zero_add,Bq,List.drop_zero,dn oS]
  refine ab (aI (bw [(3,(c.is.set i true).map B,4),(1,[B c.any,.sl ((c.is.set i true).map B) c.is.length],158)] ⟨?_,?_,trivial⟩ (l:=[(4,.pt [B c.any,.sl ((c.is.set i true).map B) c.is.length])]) eH) (aT (jH (QI rfl ta mI rfl t158 (bP _)) ?_)))
  .rw[List.map_set];rfl
  .exact congrArg (fun d=>some (Row.cells [B c.any,d] 158)) e
  unfold jt;rw[if_neg oG,bx];show _=D.agg [B c.any,.sl _ (c.is.set i true).length];rw[List.length_set];rfl
theorem iq{x:a7}:PCall prog 125 [.agg (a9 x)] (I (bT x)):=by
 refine bc afe (.cons (.agg (mg x)) .nil) (Tr.s _) ?_;rw[aff];refine aw ?_;refine af ?_;refine ab (aI (bw [(0,a9 x,66)] eH (l:=[(1,.pt (a9 x))]) eH) (aC (ao ?_)));refine af ?_;refine ab (l8 ?_)
 have J:bT x=if aN (l9++oY) x.op=true then x.to else -1:=by
  unfold bT;have:aN (l9++oY) x.op=(aN l9 x.op||aN oY x.op):=List.any_append;rw[this];cases aN l9 x.op<;>cases aN oY x.op<;>rfl
 refine ew (fun s=>Ghost prog s ⟨az [(1,.pt (a9 x)),(4,U8 x.op),(5,B (aN (l9++oY) x.op))],fun _=>none,1⟩) (ao ?_) fun s hg=>⟨_,hg,?_⟩
 .refine af ?_;refine ab (av rfl (fun h=>bj (aq ⟨rfl,rfl,cT h oC,trivial⟩)) fun e1=>ao ?_);refine af ?_;refine ab (av rfl (fun h=>bj (aq ⟨rfl,rfl,cT h oC,trivial⟩)) fun e2=>ao ?_);refine af ?_;refine ab (av rfl (fun h=>bj (aq ⟨rfl,rfl,cT h oC,trivial⟩)) fun e3=>ao ?_);refine af ?_;refine ab (av rfl (fun h=>bj (aq ⟨rfl,rfl,cT h oC,trivial⟩)) fun e4=>ao ?_);refine af ?_;refine ab (av rfl (fun h=>bj (aq ⟨rfl,rfl,cT h oC,trivial⟩)) fun e5=>ao ?_);refine af ?_;refine ab (av rfl (fun h=>bj (aq ⟨rfl,rfl,cT h oC,trivial⟩)) fun e6=>ao ?_);refine af ?_;refine ab (av rfl (fun h=>bj (aq ⟨rfl,rfl,cT h oC,trivial⟩)) fun e7=>ao ?_);refine af ?_;refine ab (av rfl (fun h=>bj (aq ⟨rfl,rfl,cT h oC,trivial⟩)) fun e8=>ao ?_);refine af ?_;refine ab (av rfl (fun h=>bj (aq ⟨rfl,rfl,cT h oC,trivial⟩)) fun e9=>ao ?_);refine af ?_;refine ab (av rfl (fun h=>bj (aq ⟨rfl,rfl,cT h oC,trivial⟩)) fun Nh=>ao ?_);refine af ?_;refine ab (av rfl (fun h=>bj (aq ⟨rfl,rfl,cT h oC,trivial⟩)) fun wK=>ao ?_);refine af ?_;refine ab (av rfl (fun h=>bj (aq ⟨rfl,rfl,cT h oC,trivial⟩)) fun wL=>ao ?_);refine af ?_;refine ab (av rfl (fun h=>bj (aq ⟨rfl,rfl,cT h oC,trivial⟩)) fun U=>ao ?_);refine af ?_;refine ab (av rfl (fun h=>bj (aq ⟨rfl,rfl,cT h oC,trivial⟩)) fun Fp=>ao ?_);refine af ?_;refine ab (av rfl (fun h=>bj (aq ⟨rfl,rfl,cT h oC,trivial⟩)) fun C=>ao ?_);refine af ?_;refine ab (av rfl (fun h=>bj (aq ⟨rfl,rfl,cT h oC,trivial⟩)) fun wM=>ao ?_);refine af ?_;refine ab (av rfl (fun h=>bj (aq ⟨rfl,rfl,cT h oC,trivial⟩)) fun wN=>ao ?_);refine af ?_;refine ab (av rfl (fun h=>bj (aq ⟨rfl,rfl,cT h oC,trivial⟩)) fun wO=>ao ?_);refine af ?_;refine ab (av rfl (fun h=>bj (aq ⟨rfl,rfl,cT h oC,trivial⟩)) fun wP=>ao ?_);refine af ?_;refine ab (av rfl (fun h=>bj (aq ⟨rfl,rfl,cT h oC,trivial⟩)) fun X=>ao ?_);refine af ?_;refine ab (av rfl (fun h=>bj (aq ⟨rfl,rfl,cT h oC,trivial⟩)) fun Ni=>lM ?_);refine af ?_;refine ab (aq ⟨rfl,rfl,?_,trivial⟩);show D.s (.bool (x.op==37))=_;simp only[aN,l9,oY,List.cons_append,List.nil_append,List.any_cons,List.any_nil,e1,e2,e3,e4,e5,e6,e7,e8,e9,Nh,wK,wL,U,Fp,C,wM,wN,wO,wP,X,Ni,Bool.false_or,Bool.or_false]
 refine av rfl (fun h1=>ao ?_) fun h1=>lL (ao ?_)
 .refine au ?_;refine ab (aT (bH (aL (ax rfl ?_))));rw[J,if_pos h1];rfl
 .refine SS ?_;refine ab (ax rfl ?_);rw[J,if_neg (by simp[h1])];rfl
theorem zO{x:Argus.End}:PCall prog 146 [.agg (bd x)] (I (eg x)):=by
 have C:∀ a∈[D.agg (bd x)],Tr a:=.cons (.agg (jF x)) .nil;have iq:=iq (x:=x.ins);refine bc afg C (Tr.s _) ?_;rw[afh];refine aw ?_;refine af ?_;refine ab (aI (bw [(0,bd x,69)] eH (l:=[(1,.pt (bd x))]) eH) (aC (ao ?_)));refine af ?_;refine ab (l8 (ao ?_));refine af ?_;refine ab (av rfl (fun h1=>?_) fun h1=>?_)
 .have h1:x.kind=5:=by simpa using h1
  refine ws ?_;refine af ?_;refine cl iq ?_;refine SS ?_;refine ab (aT (bH (aL (ax (d:=I (bT x.ins)) rfl ?_))));simp[eg,h1]
 have h1:¬ x.kind=5:=by simpa using h1
 refine ew (fun s=>Ghost prog s ⟨az [(1,.pt (bd x)),(4,U8 x.kind),(10,B (aN [6,7] x.kind))],fun _=>none,1⟩) (ao ?_) fun s hg=>⟨_,hg,?_⟩
 .refine af ?_;refine ab (av rfl (fun h=>bj (aq ⟨rfl,rfl,cT h oC,trivial⟩)) fun e6=>lM ?_);refine af ?_;refine ab ?_;refine aq ⟨rfl,rfl,?_,trivial⟩;show D.s (.bool (x.kind==7))=_;simp[aN,e6]
 refine av rfl (fun h2=>?_) fun h2=>?_
 .refine ws ?_;refine au ?_;refine ab (aT (bH (aL (ax (d:=I x.a) rfl ?_))));simp[eg,h1,h2]
 refine ws ?_;refine af ?_;refine ab (av rfl (fun h3=>?_) fun h3=>?_)
 .have h3:x.kind=8:=by simpa using h3
  refine ws ?_;refine au ?_;refine ab (aT (bH (aL (ax (d:=I x.b) rfl ?_))));simp[eg,h2,h3];simp[aN]
 have h3:¬ x.kind=8:=by simpa using h3
 refine lL (ao ?_);refine SS ?_;refine ab (ax (d:=I (-1)) rfl ?_);simp[eg,h1,h2,h3]
theorem lT{x:a7}(hx:x.op=10\/x.op=38->x.args.length<=1000):PCall prog 123 [.agg (a9 x)] (aB (bU x)):=by
 have aZ:∀ a∈[D.agg (a9 x)],Tr a:=.cons (.agg (mg x)) .nil;refine bc afi aZ (dg _) ?_;rw[afj];refine aw ?_;refine af ?_;refine ab (aI (bw [(0,a9 x,66)] eH (l:=[(1,.pt (a9 x))]) eH) (aC (ao ?_)));refine af ?_;refine ab (l8 ?_);refine ew (fun s=>Ghost prog s ⟨az [(1,.pt (a9 x)),(4,U8 x.op),(5,B (aN n4 x.op))],fun _=>none,1⟩) (ao ?_) fun s hg=>⟨_,hg,?_⟩
 .refine af ?_;refine ab (av rfl (fun h=>bj (aq ⟨rfl,rfl,cT h oC,trivial⟩)) fun e2=>ao ?_);refine af ?_;refine ab (av rfl (fun h=>bj (aq ⟨rfl,rfl,cT h oC,trivial⟩)) fun e8=>ao ?_);refine af ?_;refine ab (av rfl (fun h=>bj (aq ⟨rfl,rfl,cT h oC,trivial⟩)) fun wK=>ao ?_);refine af ?_;refine ab (av rfl (fun h=>bj (aq ⟨rfl,rfl,cT h oC,trivial⟩)) fun wL=>ao ?_);refine af ?_;refine ab (av rfl (fun h=>bj (aq ⟨rfl,rfl,cT h oC,trivial⟩)) fun C=>ao ?_);refine af ?_;refine ab (av rfl (fun h=>bj (aq ⟨rfl,rfl,cT h oC,trivial⟩)) fun Fq=>ao ?_);refine af ?_;refine ab (av rfl (fun h=>bj (aq ⟨rfl,rfl,cT h oC,trivial⟩)) fun Fs=>ao ?_);refine af ?_;refine ab (av rfl (fun h=>bj (aq ⟨rfl,rfl,cT h oC,trivial⟩)) fun U=>lM ?_);refine af ?_;refine ab ?_;refine aq ⟨rfl,rfl,?_,trivial⟩;show D.s (.bool (x.op==36))=_;simp[aN,n4,e2,e8,wK,wL,C,Fq,Fs,U]
 refine av rfl (fun h1=>?_) fun h1=>?_
 .refine aw ?_;refine aJ ?_;refine ab (aI (bw [(1,([x.a]).map I,3)] eH (l:=[(2,aB ([x.a]))]) ⟨lb c3 rfl,trivial⟩) (aT (bH (aL (ax (d:=aB ([x.a])) rfl ?_)))));exact congrArg aB (by unfold bU;rw[if_pos h1])
 refine ew (fun s=>Ghost prog s ⟨az [(1,.pt (a9 x)),(4,U8 x.op),(18,B (aN q9 x.op))],fun _=>none,1⟩) (ao ?_) fun s hg=>⟨_,hg,?_⟩
 .refine af ?_;refine ab (av rfl (fun h=>bj (aq ⟨rfl,rfl,cT h oC,trivial⟩)) fun e3=>ao ?_);refine af ?_;refine ab (av rfl (fun h=>bj (aq ⟨rfl,rfl,cT h oC,trivial⟩)) fun e4=>ao ?_);refine af ?_;refine ab (av rfl (fun h=>bj (aq ⟨rfl,rfl,cT h oC,trivial⟩)) fun e5=>ao ?_);refine af ?_;refine ab (av rfl (fun h=>bj (aq ⟨rfl,rfl,cT h oC,trivial⟩)) fun e6=>ao ?_);refine af ?_;refine ab (av rfl (fun h=>bj (aq ⟨rfl,rfl,cT h oC,trivial⟩)) fun e7=>ao ?_);refine af ?_;refine ab (av rfl (fun h=>bj (aq ⟨rfl,rfl,cT h oC,trivial⟩)) fun X=>ao ?_);refine af ?_;refine ab (av rfl (fun h=>bj (aq ⟨rfl,rfl,cT h oC,trivial⟩)) fun wM=>ao ?_);refine af ?_;refine ab (av rfl (fun h=>bj (aq ⟨rfl,rfl,cT h oC,trivial⟩)) fun wN=>ao ?_);refine af ?_;refine ab (av rfl (fun h=>bj (aq ⟨rfl,rfl,cT h oC,trivial⟩)) fun wO=>ao ?_);refine af ?_;refine ab (av rfl (fun h=>bj (aq ⟨rfl,rfl,cT h oC,trivial⟩)) fun wP=>ao ?_);refine af ?_;refine ab (av rfl (fun h=>bj (aq ⟨rfl,rfl,cT h oC,trivial⟩)) fun J=>ao ?_);refine af ?_;refine ab (av rfl (fun h=>bj (aq ⟨rfl,rfl,cT h oC,trivial⟩)) fun Nl=>lM ?_);refine af ?_;refine ab ?_;refine aq ⟨rfl,rfl,?_,trivial⟩;show D.s (.bool (x.op==37))=_;simp[aN,q9,e3,e4,e5,e6,e7,X,wM,wN,wO,wP,J,Nl]
 refine av rfl (fun h2=>?_) fun h2=>?_
 .refine aw ?_;refine bK ?_;refine ab (aI (bw [(1,([x.a,x.b]).map I,3)] eH (l:=[(2,aB ([x.a,x.b]))]) ⟨lb c3 rfl,trivial⟩) (aT (bH (aL (ax (d:=aB ([x.a,x.b])) rfl ?_)))));exact congrArg aB (by unfold bU;rw[if_neg (by simp[h1]),if_pos h2])
 refine ws ?_;refine af ?_;refine ab (av rfl (fun h3=>?_) fun h3=>?_)
 .have h3:x.op=10:=by simpa using h3
  have hl:=hx (.inl h3);have sZ:(x.args.map I).take (x.args.length*1)=x.args.map I:=dn oS;refine aw ?_;refine aV ?_;refine ab (aI (bw [(2,x.args.map I,3)] eH (l:=[(2,aB x.args)]) ⟨?_,trivial⟩) (aT (bH (aL (ax (d:=aB x.args) rfl ?_)))))
  .show tf _ [(2,_,3)] (.rs 2 0 (0+x.args.length))=_;refine(lb c3 (es:=x.args.map I) (dn oS)).trans ?_;rw[Nat.zero_add]
  exact congrArg aB (by unfold bU;rw[if_neg (by simp[h1]),if_neg (by simp[h2]),if_pos h3])
 have h3:¬ x.op=10:=by simpa using h3
 refine ws ?_;refine af ?_;refine ab (av rfl (fun h4=>?_) fun h4=>?_)
 .have h4:x.op=38:=by simpa using h4
  have hl:=hx (.inr h4);have sZ:(x.args.map I).take (x.args.length*1)=x.args.map I:=dn oS;refine aw ?_;refine aE ?_;refine ab (aI (bw [(2,(x.a::x.b::x.args).map I,3)] eH (l:=[(2,aB (x.a::x.b::x.args))]) ⟨?_,trivial⟩) (aT (bH (aL (ax (d:=aB (x.a::x.b::x.args)) rfl ?_)))))
  .show tf _ [(2,_,3)] (.rs 2 0 (2+x.args.length))=_;refine(lb c3 (es:=(x.a::x.b::x.args).map I) (dn oP)).trans ?_;rw[Nat.add_comm];rfl
  .exact congrArg aB (by unfold bU;rw[if_neg (by simp[h1]),if_neg (by simp[h2]),if_neg h3,if_pos h4])
 have h4:¬ x.op=38:=by simpa using h4
 refine lL (aw ?_);refine SS ?_;refine ab (aI (yZ (n0:=2) rfl) (ax (d:=aB []) rfl ?_));exact congrArg aB (by unfold bU;rw[if_neg (by simp[h1]),if_neg (by simp[h2]),if_neg h3,if_neg h4])
theorem rK{x:Argus.End}(hx:x.kind=5->x.ins.op=10\/x.ins.op=38->x.ins.args.length<=1000)(hy:x.kind=6\/x.kind=7->x.args.length<=1000):PCall prog 128 [.agg (bd x)] (aB (bS x)):=by
 have C:∀ a∈[D.agg (bd x)],Tr a:=.cons (.agg (jF x)) .nil;refine bc afk C (dg _) ?_;rw[afl];refine aw ?_;refine af ?_;refine ab (aI (bw [(0,bd x,69)] eH (l:=[(1,.pt (bd x))]) eH) (aC (ao ?_)));refine af ?_;refine ab (l8 ?_);refine ew (fun s=>Ghost prog s ⟨az [(1,.pt (bd x)),(4,U8 x.kind),(5,B (aN [2,8,9] x.kind))],fun _=>none,1⟩) (ao ?_) fun s hg=>⟨_,hg,?_⟩
 .refine af ?_;refine ab (av rfl (fun h=>bj (aq ⟨rfl,rfl,cT h oC,trivial⟩)) fun e2=>ao ?_);refine af ?_;refine ab (av rfl (fun h=>bj (aq ⟨rfl,rfl,cT h oC,trivial⟩)) fun e8=>lM ?_);refine af ?_;refine ab ?_;refine aq ⟨rfl,rfl,?_,trivial⟩;show D.s (.bool (x.kind==9))=_;simp[aN,e2,e8]
 refine av rfl (fun h1=>?_) fun h1=>?_
 .refine aw ?_;refine aJ ?_;refine ab (aI (bw [(1,([x.a]).map I,3)] eH (l:=[(2,aB ([x.a]))]) ⟨lb c3 rfl,trivial⟩) (aT (bH (aL (ax (d:=aB ([x.a])) rfl ?_)))));exact congrArg aB (by unfold bS;rw[if_pos h1])
 refine ws ?_;refine af ?_;refine ab (av rfl (fun h2=>?_) fun h2=>?_)
 .have h2:x.kind=3:=by simpa using h2
  refine aC (ao ?_);refine au ?_;refine ab (cH rfl (fun h3=>?_) fun h3=>b7 (aw ?_))
  .have h3:x.a= -1:=by simpa using h3
   refine aC (aw ?_);refine SS ?_;refine ab (aI (yZ (n0:=2) rfl) (cK (bH (aL (ax (d:=aB []) rfl ?_)))));exact congrArg aB (by unfold bS;rw[if_neg (by simp[h1]),if_pos h2,if_neg (by simp[h3])])
  .have h3:¬ x.a= -1:=by simpa using h3
   refine aJ ?_;refine ab (aI (bw [(1,([x.a]).map I,3)] eH (l:=[(2,aB ([x.a]))]) ⟨lb c3 rfl,trivial⟩) (aT (bH (aL (ax (d:=aB ([x.a])) rfl ?_)))));exact congrArg aB (by unfold bS;rw[if_neg (by simp[h1]),if_pos h2,if_pos h3])
 have h2:¬ x.kind=3:=by simpa using h2
 refine ws ?_;refine af ?_;refine ab (av rfl (fun h3=>?_) fun h3=>?_)
 .have h3:x.kind=5:=by simpa using h3
  have lT:=lT (x:=x.ins) (hx h3);refine ws ?_;refine af ?_;refine cl lT ?_;refine SS ?_;refine ab (aT (bH (aL (ax (d:=aB (bU x.ins)) rfl ?_))));exact congrArg aB (by unfold bS;rw[if_neg (by simp[h1]),if_neg h2,if_pos h3])
 have h3:¬ x.kind=5:=by simpa using h3
 refine ew (fun s=>Ghost prog s ⟨az [(1,.pt (bd x)),(4,U8 x.kind),(25,B (aN [6,7] x.kind))],fun _=>none,1⟩) (ao ?_) fun s hg=>⟨_,hg,?_⟩
 .refine af ?_;refine ab (av rfl (fun h=>bj (aq ⟨rfl,rfl,cT h oC,trivial⟩)) fun e6=>lM ?_);refine af ?_;refine ab ?_;refine aq ⟨rfl,rfl,?_,trivial⟩;show D.s (.bool (x.kind==7))=_;simp[aN,e6]
 refine av rfl (fun h4=>?_) fun h4=>?_
 .have h5:x.kind=6\/x.kind=7:=by simpa[aN] using h4
  have hl:=hy h5;have sZ:(x.args.map I).take (x.args.length*1)=x.args.map I:=dn oS;refine aw ?_;refine aV ?_;refine ab (aI (bw [(2,x.args.map I,3)] eH (l:=[(2,aB x.args)]) ⟨?_,trivial⟩) (aT (bH (aL (ax (d:=aB x.args) rfl ?_)))))
  .show tf _ [(2,_,3)] (.rs 2 0 (0+x.args.length))=_;refine(lb c3 (es:=x.args.map I) (dn oS)).trans ?_;rw[Nat.zero_add]
  exact congrArg aB (by unfold bS;rw[if_neg (by simp[h1]),if_neg h2,if_neg h3,if_pos h4])
 refine lL (aw ?_);refine SS ?_;refine ab (aI (yZ (n0:=2) rfl) (ax (d:=aB []) rfl ?_));exact congrArg aB (by unfold bS;rw[if_neg (by simp[h1]),if_neg h2,if_neg h3,if_neg (by simp[h4])])
end Go.Proofs.Tryz.K
end
namespace Go.Argus
open Go Go.Abs
open Go.Proofs.Tryz.K (nextR)
structure Hy(R n:Nat)(x:a7):Prop where
 r:∀ r∈bU x,∃ i:Nat,i<R/\r=i
 s:x.op=17->∃ i:Nat,R+i<n/\x.n=i
 p:x.op=19->∀ r∈x.args,∃ i:Nat,i<R/\r=i
theorem lE{l:List Int}{r:Int}(h:iY l r):∃ i:Nat,i<l.length/\r=i:=⟨r.toNat,by unfold iY at h;omega,by unfold iY at h;omega⟩
theorem Rj{f:aA}{b ah:Int}{x:a7}(hs:∀ k∈f.aW,k≠0)(h:dX f b ah x=true):zP f.aj.length (f.aj.length+f.aW.length) x/\Hy f.aj.length (f.aj.length+f.aW.length) x/\(x.op=19->(x.args.length:Int)=ah):=by
 have k1:∀ {r:Int},bq f r 119=true->∃ i:Nat,i<f.aj.length/\r=i:=fun {r} h=>lE (kW fun e=>by rw[uy,e] at h;simp[aR] at h);have U:∀ {r:Int},bq f r 114=true->∃ i:Nat,i<f.aj.length/\r=i:=fun {r} h=>lE (kW fun e=>by rw[zz,e] at h;simp[aR] at h);have k3:∀ {r:Int},bq f r 105=true->∃ i:Nat,i<f.aj.length/\r=i:=fun {r} h=>lE (kW fun e=>by rw[Eb,e] at h;simp[aR] at h);have k4:∀ {r:Int},bq f r 118=true->∃ i:Nat,i<f.aj.length/\r=i:=fun {r} h=>lE (oX h)
 have k5:∀ {a b:Int},j9 f a b=true->(∃ i:Nat,i<f.aj.length/\a=i)/\∃ i:Nat,i<f.aj.length/\b=i:=fun {a b} h=>by
  simp only[j9,aO] at h;exact⟨lE (oX h.1),lE (oX h.2.1)⟩
 have k6:∀ {l:List Int},gC f.aj l=true->∀ r∈l,∃ i:Nat,i<f.aj.length/\r=i:=fun {l} h r hr=>lE (yV h r hr)
 have X:∀ {r n:Int},my f.aj f.aW r n=true->(∃ i:Nat,i<f.aj.length/\r=i)/\∃ i:Nat,f.aj.length+i<f.aj.length+f.aW.length/\n=i:=fun {r n} h=>by
  obtain⟨h1,h2,h3⟩:=J0 hs h;exact⟨lE h1,n.toNat,oG,oG⟩
 obtain⟨op,to,a,C,n,args⟩:=x;unfold dX at h;dsimp only at h
 have fin:∀ {W:Prop} {Rs:List Int},(bT ⟨op,to,a,C,n,args⟩= -1\/∃ i:Nat,i<f.aj.length/\bT ⟨op,to,a,C,n,args⟩=i)->bU ⟨op,to,a,C,n,args⟩=Rs->(∀ r∈Rs,∃ i:Nat,i<f.aj.length/\r=i)->
  op≠17->op≠18->op≠19->zP f.aj.length (f.aj.length+f.aW.length) ⟨op,to,a,C,n,args⟩/\Hy f.aj.length (f.aj.length+f.aW.length) ⟨op,to,a,C,n,args⟩/\(op=19->(args.length:Int)=ah):=fun {W Rs} h1 h2 h3 e1 e2 e3=>
  ⟨⟨h1,fun e=>absurd e e2⟩,⟨by rw[h2];exact h3,fun e=>absurd e e1,fun e=>absurd e e3⟩,fun e=>absurd e e3⟩
 by_cases h1:op=1
 .subst h1;simp[aO] at h;exact fin (W:=True) (Rs:=[]) (.inr (k1 h.2.1)) rfl oS oC oC oC
 by_cases h2:op=2
 .subst h2;simp[aO] at h;exact fin (W:=True) (Rs:=[a]) (.inr (k5 h.2).1) rfl (by simpa using(k5 h.2).2) oC oC oC
 by_cases h3:op=3\/op=4\/op=6\/op=7
 .have J:bq f to 119=true/\bq f a 119=true/\bq f C 119=true:=by
   rcases h3 with rfl|rfl|rfl|rfl<;>(simp[aN,aO] at h;exact h.2)
  have hr:∀ r∈[a,C],∃ i:Nat,i<f.aj.length/\r=i:=by
   intro r hr;simp at hr;rcases hr with rfl|rfl
   .exact k1 J.2.1
   .exact k1 J.2.2
  rcases h3 with rfl|rfl|rfl|rfl<;>exact fin (W:=True) (Rs:=[a,C]) (.inr (k1 J.1)) rfl hr oC oC oC
 by_cases h5:op=5
 .subst h5;simp[aN,aO] at h;refine fin (W:=True) (Rs:=[a,C]) (.inr (k1 h.2.1)) rfl ?_ oC oC oC;intro r hr;simp at hr;rcases hr with rfl|rfl
  .exact(k5 h.2.2).1
  .exact(k5 h.2.2).2
 by_cases h8:op=8
 .subst h8;simp[aN,aO] at h;exact fin (W:=True) (Rs:=[a]) (.inr (k1 h.2.1)) rfl (by simpa using k1 h.2.2) oC oC oC
 by_cases h9:op=9
 .subst h9;simp[aN,aO] at h;exact fin (W:=True) (Rs:=[]) (.inr (U h.2.1)) rfl oS oC oC oC
 by_cases nO:op=10
 .subst nO;simp[aN,aO] at h;exact fin (W:=True) (Rs:=args) (.inr (U h.2.1)) rfl (k6 h.2.2.2.2) oC oC oC
 by_cases tG:op=11
 .subst tG;simp[aN,aO] at h;exact fin (W:=True) (Rs:=[a]) (.inr (k4 h.2.1)) rfl (by simpa using U h.2.2.1) oC oC oC
 by_cases vj:op=12
 .subst vj;simp[aN,aO] at h;refine fin (W:=True) (Rs:=[a,C]) (.inl rfl) rfl ?_ oC oC oC;intro r hr;simp at hr;rcases hr with rfl|rfl
  .exact U h.2.1
  .exact k4 h.2.2.1
 by_cases wQ:op=13\/op=14
 .have J:bq f to 119=true/\bq f a 114=true:=by
   rcases wQ with rfl|rfl<;>(simp[aN,aO] at h;exact h.2)
  rcases wQ with rfl|rfl<;>exact fin (W:=True) (Rs:=[a]) (.inr (k1 J.1)) rfl (by simpa using U J.2) oC oC oC
 by_cases Xl:op=15
 .subst Xl;simp[aN,aO] at h;exact fin (W:=True) (Rs:=[a]) (.inl rfl) rfl (by simpa using k1 h.2) oC oC oC
 by_cases qL:op=16
 .subst qL;simp[aN,aO] at h;exact fin (W:=True) (Rs:=[a]) (.inl rfl) rfl (by simpa using k3 h.2) oC oC oC
 by_cases ix:op=17
 .subst ix;simp[aN,aO] at h;exact⟨⟨.inr (X h.2).1,fun e=>by simp at e⟩,⟨by simp[bU,aN,n4,q9],fun _=>(X h.2).2,fun e=>by simp at e⟩,fun e=>by simp at e⟩
 by_cases eB:op=18
 .subst eB;simp[aN,aO] at h;exact⟨⟨.inl rfl,fun _=>(X h.2).2⟩,⟨by simpa[bU,aN,n4] using(X h.2).1,fun e=>by simp at e,fun e=>by simp at e⟩,fun e=>by simp at e⟩
 by_cases cG:op=19
 .subst cG;simp[aN,aO] at h;refine⟨⟨.inr (k4 h.2.2.1),fun e=>by simp at e⟩,⟨by simp[bU,aN,n4,q9],fun e=>by simp at e,fun _ r hr=>(k5 (h.2.2.2.2 r hr)).2⟩,fun _=>?_⟩;simpa[aR] using h.2.2.2.1
 .rw[if_neg h1,if_neg h2,if_neg (by simp[aN];omega),if_neg h5,if_neg h8,if_neg h9,if_neg nO,if_neg tG,if_neg vj,if_neg (by simp[aN];omega),if_neg Xl,if_neg qL,if_neg ix,if_neg eB,if_neg cG] at h;cases h
theorem Rk{f:aA}{x:a7}(h:lm f x=true):(bT x= -1\/∃ i:Nat,i<f.aj.length/\bT x=i)/\∀ r∈bU x,∃ i:Nat,i<f.aj.length/\r=i:=by
 have k1:∀ {r:Int},bq f r 119=true->∃ i:Nat,i<f.aj.length/\r=i:=fun {r} h=>lE (kW fun e=>by rw[uy,e] at h;simp[aR] at h);have J:∀ {r:Int},bq f r 114=true->∃ i:Nat,i<f.aj.length/\r=i:=fun {r} h=>lE (kW fun e=>by rw[zz,e] at h;simp[aR] at h);have X:∀ {r:Int},bq f r 118=true->∃ i:Nat,i<f.aj.length/\r=i:=fun {r} h=>lE (oX h);have k6:∀ {l:List Int},gC f.aj l=true->∀ r∈l,∃ i:Nat,i<f.aj.length/\r=i:=fun {l} h r hr=>lE (yV h r hr);obtain⟨op,to,a,C,n,args⟩:=x;unfold lm at h;dsimp only at h;by_cases h0:op=30\/op=31\/op=32\/op=33\/op=34
 .have U:bq f to 119=true/\bq f a 119=true/\bq f C 119=true:=by
   rcases h0 with rfl|rfl|rfl|rfl|rfl<;>(simp[aN,aO] at h;exact h.2)
  have hr:∀ r∈[a,C],∃ i:Nat,i<f.aj.length/\r=i:=by
   intro r hr;simp at hr;rcases hr with rfl|rfl
   .exact k1 U.2.1
   .exact k1 U.2.2
  rcases h0 with rfl|rfl|rfl|rfl|rfl<;>exact⟨.inr (k1 U.1),hr⟩
 by_cases h5:op=35
 .subst h5;simp[aN,aO] at h;refine⟨.inl rfl,?_⟩;show ∀ r∈[a,C],_;intro r hr;simp at hr;rcases hr with rfl|rfl
  .exact J h.2.1
  .exact X h.2.2
 by_cases h6:op=36
 .subst h6;simp[aN,aO] at h;refine⟨.inr (X h.2.1),?_⟩;show ∀ r∈[a],_;simpa using J h.2.2
 by_cases h7:op=37
 .subst h7;simp[aN,aO] at h;refine⟨.inr (X h.2.1),?_⟩;show ∀ r∈[a,C],_;intro r hr;simp at hr;rcases hr with rfl|rfl
  .exact J h.2.2.1
  .exact k1 h.2.2.2
 by_cases h8:op=38
 .subst h8;simp[aN,aO] at h;refine⟨.inl rfl,?_⟩;show ∀ r∈a::C::args,_;intro r hr;rcases List.mem_cons.1 hr with rfl|hr
  .exact J h.2.1
  .rcases List.mem_cons.1 hr with rfl|hr
   .exact k1 h.2.2.1
   .exact k6 h.2.2.2.2 r hr
 .exfalso;simp[aN,h5,h6,h7,h8] at h;omega
theorem J7{f:aA}{x:End}(h:gL f x=true):(eg x= -1\/∃ i:Nat,i<f.aj.length/\eg x=i)/\(∀ r∈bS x,∃ i:Nat,i<f.aj.length/\r=i)/\(x.kind=7->∃ i:Nat,i<f.aj.length/\x.a=i):=by
 have k1:∀ {r:Int},bq f r 119=true->∃ i:Nat,i<f.aj.length/\r=i:=fun {r} h=>lE (kW fun e=>by rw[uy,e] at h;simp[aR] at h);have k3:∀ {r:Int},bq f r 105=true->∃ i:Nat,i<f.aj.length/\r=i:=fun {r} h=>lE (kW fun e=>by rw[Eb,e] at h;simp[aR] at h);have C:∀ {r:Int},bq f r 118=true->∃ i:Nat,i<f.aj.length/\r=i:=fun {r} h=>lE (oX h);have k6:∀ {l:List Int},gC f.aj l=true->∀ r∈l,∃ i:Nat,i<f.aj.length/\r=i:=fun {l} h r hr=>lE (yV h r hr);obtain⟨kind,a,b,to,fS,name,ins,args,aH,cP⟩:=x;unfold gL at h;dsimp only at h;by_cases h1:kind=1
 .subst h1;exact⟨.inl rfl,by simp[bS,aN],fun e=>by simp at e⟩
 by_cases h2:kind=2
 .subst h2;simp[aO] at h;refine⟨.inl rfl,?_,fun e=>by simp at e⟩;show ∀ r∈[a],_;simpa using k1 h.2.1
 by_cases h3:kind=3
 .subst h3;rw[if_neg oC,if_neg oC,if_pos rfl] at h;refine⟨.inl rfl,?_,fun e=>by simp at e⟩;intro r hr;simp[bS,aN] at hr;obtain⟨e,rfl⟩:=hr;by_cases hc:f.iter=true\/f.result=0
  .rw[if_pos hc,aO,nW] at h;exact absurd h.2 e
  .rw[if_neg hc,aO,aO] at h;exact C h.2.1
 by_cases h4:kind=4
 .subst h4;exact⟨.inl rfl,by simp[bS,aN],fun e=>by simp at e⟩
 by_cases h5:kind=5
 .subst h5;simp[aO] at h;exact⟨(Rk h.2.1).1,(Rk h.2.1).2,fun e=>by simp at e⟩
 by_cases J:kind=6
 .subst J;simp[aO] at h;refine⟨?_,k6 h.2.2.2.1,fun e=>by simp at e⟩;show a= -1\/∃ i:Nat,_/\a=_;rcases h.2.2.2.2.1 with e|e
  .exact .inl (by simpa[aR] using e)
  .exact .inr (C e)
 by_cases U:kind=7
 .subst U;simp[aO] at h;exact⟨.inr (k3 h.2.2.2.2.1),k6 h.2.2.2.1,fun _=>k3 h.2.2.2.2.1⟩
 by_cases X:kind=8
 .subst X;simp[aO] at h;refine⟨.inr (C h.2.2.1),?_,fun e=>by simp at e⟩;show ∀ r∈[a],_;simpa using k3 h.2.1
 by_cases h9:kind=9
 .subst h9;simp[aO] at h;refine⟨.inl rfl,?_,fun e=>by simp at e⟩;show ∀ r∈[a],_;simpa using C h.2.2.1
 .simp[h1,h2,h3,h4,h5,J,U,X,h9] at h
end Go.Argus
section
open Go Go.Abs Go.Proofs Go.Argus
namespace Go.Argus
open Go.Proofs.Tryz.K (nextR)
theorem Qa{f:aA}{x:End}(h:jI f x=true):p9 x=nextR x:=by
 refine Rh (CF .nil).1 (O1 x) fun t=>?_;rw[OQ,FT h,nextR,Cx]
theorem I1{f:aA}{bs:List bB}(h:∀ b∈bs,jI f b.fin=true)(k:Nat):lO bs k=bN bs k:=by
 induction k with
 |zero=>rfl
 |succ k ih=>
  unfold lO bN at ih ⊢;rw[List.range_succ,List.foldl_append,List.foldl_append,ih];show C0 bs _ k=pX bs _ k;unfold C0 pX;cases hx:bs[k]? with
  |none=>rfl
  |some x=>dsimp only;rw[Qa (h x (cx hx))]
end Go.Argus
end
namespace Go.Argus
open Go Go.Abs
open Go.Proofs.Tryz.K (nextR)
def rE(f:aA):Bool:=nZ f&&(q8 f&&n3 f)
def Gn(f:aA):Bool:=f.blocks.all fun x=>(dc x.fin).all (cr f)
def vP(f:aA)(b:Nat)(l:List a7)(j:Nat):Bool:=dX f b (lO f.blocks f.blocks.length b).length (l.getD j dT)&& !(bC (l.getD j dT)&&(decide (0<j)&& !bC (l.getD (j - 1) dT)))
def rO(f:aA)(b:Nat):Bool:=
 let x:=f.blocks.getD b jM
 !decide ((200:Int)<x.ins.length)&&((List.range x.ins.length).all (vP f b x.ins)&&(gL f x.fin&& !(x.fin.kind==7&&(lG f.blocks b).any (·==x.fin.a))))
def vu(f:aA):Bool:=rE f&&(Gn f&&(List.range f.blocks.length).all (rO f))
theorem FK(f:aA)(b:Int)(x:a7)(p:Bool)(C:Int):jm f b x p C=(jm f b x true C&&(!bC x||p)):=by
 unfold jm bC;by_cases qL:x.op=16
 .simp[qL]
 .by_cases X:x.op=17
  .simp[X]
  .by_cases U:x.op=18
   .simp[U]
   .by_cases J:x.op=19
    .simp[J,Bool.and_comm]
    .simp[qL,X,U,J]
theorem aa3(l:List a7):(∀ j,j<l.length->bC (l.getD j dT)=true->0<j->bC (l.getD (j - 1) dT)=true)↔∀ j,j<l.length->bC (l.getD j dT)=true->(l.take (j+1)).all bC=true:=by
 have hg:∀ {j},j<l.length->∀ y,l[j]? =some y->l.getD j dT=y:=fun _ y hy=>getD_some hy;constructor
 .intro h j
  induction j with
  |zero=>
   intro hj hp;have hx:l[0]? =some l[0]:=aG hj;rw[getD_some hx] at hp;rw[List.take_add_one,hx];simpa using hp
  |succ j ih=>
   intro hj hp;have hx:l[j+1]? =some l[j+1]:=aG hj;have h1:=h (j+1) hj hp oG;have h2:=ih oG (by simpa using h1);rw[List.take_add_one,List.all_append,h2,hx];rw[getD_some hx] at hp;simpa using hp
 .intro h j hj hp h0;have h1:=h j hj hp;have hx:l[j - 1]? =some l[j - 1]:=aG oG;rw[getD_some hx];refine bJ.1 h1 _ ?_;refine cx (i:=j - 1) ?_;rw[List.getElem?_take,if_pos oG,hx]
theorem ab'{n:Nat}{p q:Nat->Bool}:(List.range n).all (fun j=>p j&&q j)=((List.range n).all p&&(List.range n).all q):=by
 rw[Bool.eq_iff_iff];simp only[bJ,aO,List.mem_range];exact⟨fun h=>⟨fun j hj=>(h j hj).1,fun j hj=>(h j hj).2⟩,fun h j hj=>⟨h.1 j hj,h.2 j hj⟩⟩
theorem Of{f:aA}:vu f=iV f:=by
 have hH:iV f=(rE f&&((List.range f.blocks.length).all (jG f)&&(List.range f.blocks.length).all (su f))):=by
  unfold iV rE;simp only[Bool.and_assoc]
 rw[hH];unfold vu;cases hh:rE f with
 |false=>rfl
 |true=>
  rw[Bool.true_and,Bool.true_and,Bool.eq_iff_iff,aO,aO,bJ,bJ,bJ];unfold rE at hh;simp only[aO] at hh;obtain⟨h1,h2,_⟩:=hh
  have nA:qW f=true:=by
   unfold nZ at h1;simp only[aO] at h1;exact h1.2.2.1
  have lk:f.aj.length<=1200:=by
   unfold nZ at h1;simp only[aO,Bool.not_eq_true',decide_eq_false_iff_not] at h1;omega
  have g':∀ k∈f.aW,k=1\/k=2:=fun k hk=>by
   unfold q8 at h2;simp only[aO] at h2;have h3:=h2.2.2.1;simp only[eR,Bool.not_eq_true',List.any_eq_false] at h3;have:=h3 k hk;simp[nh] at this;omega
  have gV:∀ {k:Nat},k<f.blocks.length->∃ x,f.blocks[k]? =some x/\f.blocks.getD k jM=x/\x∈f.blocks:=fun {k} hk=>by
   have hx:f.blocks[k]? =some f.blocks[k]:=aG hk;exact⟨_,hx,getD_some hx,bO _⟩
  have sY:(∀ b∈f.blocks,jI f b.fin=true)->∀ k,k<f.blocks.length->(rO f k=true↔jG f k=true/\su f k=true):=fun he k hk=>by
   obtain⟨x,hx,hg,hm⟩:=gV hk;have X:=I1 he f.blocks.length;unfold rO jG su vP vr;simp only[hg,J8 nA,he x hm,X,Bool.true_and,aO,bJ,List.mem_range];have h3:∀ j,dX f k (bN f.blocks f.blocks.length k).length (x.ins.getD j dT)=jm f k (x.ins.getD j dT) true (bN f.blocks f.blocks.length k).length:=fun j=>Ri g';have VZ:=aa3 x.ins;simp only[h3];constructor
   .rintro⟨J,C,U⟩;refine⟨⟨J,U⟩,fun j hj=>?_⟩;rw[FK,aO];refine⟨(C j hj).1,?_⟩;have:=VZ.1 (fun j hj hp h0=>by have:=(C j hj).2;rw[hp] at this;simpa[h0] using this) j hj;cases hp:bC (x.ins.getD j dT) with
    |false=>rfl
    |true=>rw[this hp];rfl
   .rintro⟨⟨J,U⟩,C⟩;refine⟨J,fun j hj=>?_,U⟩
    have h4:∀ j,j<x.ins.length->bC (x.ins.getD j dT)=true->(x.ins.take (j+1)).all bC=true:=fun j hj hp=>by
     have:=C j hj;rw[FK,aO,hp] at this;simpa using this.2
    have h5:=C j hj;rw[FK,aO] at h5;refine⟨h5.1,?_⟩;have h6:=VZ.2 h4 j hj;cases hp:bC (x.ins.getD j dT) with
    |false=>rfl
    |true=>
     by_cases h0:0<j
     .rw[h6 hp h0];simp
     .simp[h0]
  constructor
  .rintro⟨h3,h4⟩
   have he:∀ b∈f.blocks,jI f b.fin=true:=fun b hb=>by
    obtain⟨k,hk⟩:=dt hb;have:=h4 k (by simpa using(bL.1 hk).1);unfold rO at this;simp only[getD_some hk,aO,J8 nA] at this;exact this.2.2.1
   exact⟨fun k hk=>((sY he k (by simpa using hk)).1 (h4 k hk)).1,fun k hk=>((sY he k (by simpa using hk)).1 (h4 k hk)).2⟩
  .rintro⟨h3,h4⟩
   have he:∀ b∈f.blocks,jI f b.fin=true:=fun b hb=>by
    obtain⟨k,hk⟩:=dt hb;have:=h3 k (by simpa using(bL.1 hk).1);unfold jG at this;simp only[getD_some hk,aO] at this;exact this.1
   refine⟨bJ.2 fun x hx=>bJ.2 fun t ht=>?_,fun k hk=>(sY he k (by simpa using hk)).2 ⟨h3 k hk,h4 k hk⟩⟩;rw[FT (he x hx)] at ht;have:=(Ju lk nA (he x hx)).to t ht;rw[cr,kT];omega
def opsV(R:Nat)(c:Cert)(x:a7):Bool:=(x.op !=17||c.is.getD ((R:Int)+x.n).toNat false)&&sc c (bU x)
def qe(f:aA)(s:CS)(b:Nat)(x:a7)(k:Nat):Bool:=
 let p:=((bN f.blocks f.blocks.length b).getD k 0).toNat
 let c:=cC f.aj.length (f.aj.length+f.aW.length) s p
 c.any||(nw (f.blocks.getD p jM).fin b (eV f.aj.length (f.blocks.getD p jM).ins c)).is.getD (x.args.getD k 0).toNat false
def BR(f:aA)(s:CS)(b:Nat)(x:a7):Bool:= !bC x||(List.range x.args.length).all (qe f s b x)
def zR(f:aA)(s:CS)(b:Nat)(l:List a7)(c:Cert)(j:Nat):Bool:=opsV f.aj.length (eV f.aj.length (l.take j) c) (l.getD j dT)&&BR f s b (l.getD j dT)
def qd(f:aA)(s:CS)(b:Nat):Bool:=
 let c:=cC f.aj.length (f.aj.length+f.aW.length) s b
 let l:=(f.blocks.getD b jM).ins
 c.any||((List.range l.length).all (zR f s b l c)&&sc (eV f.aj.length l c) (bS (f.blocks.getD b jM).fin))
def Ko(f:aA):Int:=if vu f=true then(if(List.range f.blocks.length).all (qd f (iB f.blocks f.args.toNat))=true then 0 else 81) else 80
theorem Kr{R n:Nat}(J:R<=n){w:List Int}(C:eF w):∀ {rs:List Int} {ok:Bool},(∀ r∈rs,∃ i:Nat,i<R/\r=i)->jg w ok rs=(ok&&sc ⟨false,cz R n w⟩ rs)
 |[],ok,_=>by simp[jg,sc]
 |r::rs,ok,h=>by
  obtain⟨i,hi,e⟩:=h r oS;have ih:=Kr J C (rs:=rs) (ok:=ok&&ku w r.toNat) fun r hr=>h r (by simp[hr])
  have h1:(cz R n w).getD r.toNat false=ku w r.toNat:=by
   rw[e,bx,getD_some (ua oG),F6 C.all];unfold gp;rw[if_pos hi]
  unfold jg sc at ih ⊢;rw[List.foldl_cons,ih,List.all_cons,h1,Bool.and_assoc]
theorem Rm{R n:Nat}(hR:R<=1200)(hn:n<=R+60)(C:R<=n):∀ {l:List a7} (_:∀ x∈l,zP R n x/\Hy R n x) {w:List Int} {ok:Bool} (_:eF w) (_:mC R n w),
 (l.foldl mw (w,ok)).2=(ok&&(List.range l.length).all fun j=>opsV R (eV R (l.take j) ⟨false,cz R n w⟩) (l.getD j dT))
 |[],_,w,ok,_,_=>by simp
 |x::l,h,w,ok,hw,ho=>by
  obtain⟨X,J⟩:=h x oS;obtain⟨h1,h2,h3⟩:=PZ hR hn C X hw ho;have ih:=Rm hR hn C (l:=l) (ok:=(mw (w,ok) x).2) (fun y hy=>h y (by simp[hy])) h2 h3;rw[List.foldl_cons];show(l.foldl mw (xq w x,(mw (w,ok) x).2)).2=_;rw[ih,List.length_cons,List.range_succ_eq_map,List.all_cons,List.all_map]
  have h0:(mw (w,ok) x).2=(ok&&opsV R ⟨false,cz R n w⟩ x):=by
   show(jg w ok (bU x)&&_)=_;rw[Kr C hw J.r,Bool.and_assoc];congr 1;unfold opsV;rw[Bool.and_comm];congr 1;by_cases U:x.op=17
   .obtain⟨i,hi,e⟩:=J.s U;have e1:((R:Int)+x.n).toNat=R+i:=by omega
    have e2:(kP x.n).toNat=gp R (R+i):=by unfold kP gp;rw[if_neg oG];omega
    rw[e1,e2,getD_some (ua oG),F6 hw.all]
   .have:(x.op !=17)=true:=by simpa using U
    rw[this];rfl
  rw[h0,Bool.and_assoc];congr 2;refine List.all_congr rfl fun j=>?_;show _=opsV R (eV R ((x::l).take (j+1)) _) ((x::l).getD (j+1) dT);unfold eV;rw[List.take_succ_cons,List.foldl_cons,h1];rfl
theorem aa4{l:List a7}{P:a7->Bool}(h:∀ j,j<l.length->bC (l.getD j dT)=true->(l.take (j+1)).all bC=true):(List.range l.length).all (fun j=> !bC (l.getD j dT)||P (l.getD j dT))=(l.takeWhile bC).all P:=by
 rw[Bool.eq_iff_iff,bJ,bJ];constructor
 .intro ha y hy;have C:y∈l:=List.takeWhile_sublist _ |>.subset hy;have hp:bC y=true:=bJ.1 List.all_takeWhile y hy;obtain⟨j,hj⟩:=dt C;have:=ha j (by simpa using(bL.1 hj).1);rw[getD_some hj,hp] at this;simpa using this
 .intro ha j hj;have ap:j<l.length:=by simpa using hj
  have hx:l[j]? =some l[j]:=aG ap;have h1:=h j ap;rw[getD_some hx] at h1 ⊢;cases hp:bC l[j] with
  |false=>rfl
  |true=>
   have h2:=bJ.1 (h1 hp)
   have J:l.takeWhile bC=l.take (j+1)++(l.drop (j+1)).takeWhile bC:=by
    conv=>lhs;rw[<- List.take_append_drop (j+1) l]
    exact List.takeWhile_append_of_pos h2
   have:P l[j]=true:=ha _ (by
    rw[J,List.mem_append];left
    exact cx (i:=j) (by rw[List.getElem?_take,if_pos oG,hx]))
   rw[this];rfl
structure vQ(f:aA):Prop where
 ok:jl f
 sl:f.aW.length<=60
 ins:∀ b∈f.blocks,∀ x∈b.ins,zP f.aj.length (f.aj.length+f.aW.length) x/\Hy f.aj.length (f.aj.length+f.aW.length) x
 Ck:∀ (k:Nat) b,f.blocks[k]? =some b->∀ (j:Nat) x,b.ins[j]? =some x->bC x=true->x.args.length=(bN f.blocks f.blocks.length k).length/\(b.ins.take (j+1)).all bC=true
 wr:∀ b∈f.blocks,eg b.fin= -1\/∃ i:Nat,i<f.aj.length/\eg b.fin=i
 rd:∀ b∈f.blocks,∀ r∈bS b.fin,∃ i:Nat,i<f.aj.length/\r=i
 ed:∀ b∈f.blocks,dc b.fin=cX b.fin/\p9 b.fin=nextR b.fin
 ar:∃ a:Nat,f.args=a/\a<=f.aj.length
theorem Bo{f:aA}(h:iV f=true):vQ f:=by
 have C:=vC h;have hd:=h;unfold iV at hd;simp only[aO] at hd;obtain⟨h1,h2,_,h4,_⟩:=hd
 have nA:qW f=true:=by
  unfold nZ at h1;simp only[aO] at h1;exact h1.2.2.1
 have z9:∃ a:Nat,f.args=a/\a<=f.aj.length:=by
  unfold nZ at h1;simp only[aO,kT] at h1;have:=h1.2.1;refine⟨f.args.toNat,oG,?_⟩;have:=this.2;split at this<;>omega
 have X:∀ k∈f.aW,k=1\/k=2:=fun k hk=>by
  unfold q8 at h2;simp only[aO] at h2;have h3:=h2.2.2.1;simp only[eR,Bool.not_eq_true',List.any_eq_false] at h3;have:=h3 k hk;simp[nh] at this;omega
 have he:∀ b∈f.blocks,jI f b.fin=true:=fun b hb=>by
  obtain⟨k,hk⟩:=dt hb;have:=bJ.1 h4 k (by simpa using(bL.1 hk).1);unfold jG at this;simp only[getD_some hk,aO] at this;exact this.1
 have J:∀ (k:Nat) b,f.blocks[k]? =some b->∀ (j:Nat) x,b.ins[j]? =some x->dX f k (bN f.blocks f.blocks.length k).length x=true/\(bC x=true->(b.ins.take (j+1)).all bC=true):=fun k b hb j x hx=>by
  have:=C.right k b hb j x hx;rw[FK,aO] at this;refine⟨by rw[Ri X];exact this.1,fun hp=>?_⟩;have h3:=this.2;rw[hp] at h3;simpa using h3
 have U:∀ b∈f.blocks,gL f b.fin=true:=fun b hb=>by rw[J8 nA];exact he b hb
 refine⟨C,C.aW.2,fun b hb x hx=>?_,fun k b hb j x hx hp=>?_,fun b hb=>(J7 (U b hb)).1,fun b hb=>(J7 (U b hb)).2.1,fun b hb=>⟨FT (he b hb),Qa (he b hb)⟩,z9⟩
 .obtain⟨k,hk⟩:=dt hb;obtain⟨j,hj⟩:=dt hx;have:=Rj C.aW.1 (J k b hk j x hj).1;exact⟨this.1,this.2.1⟩
 .have:=Rj C.aW.1 (J k b hb j x hx).1;have h3:=this.2.2 (by simpa[bC] using hp);exact⟨oG,(J k b hb j x hx).2 hp⟩
theorem ZQ{f:aA}(h:vQ f):qc f.aj.length (f.aj.length+f.aW.length) f.blocks.length (iB f.blocks f.args.toNat):=by
 obtain⟨a,ha,tl⟩:=h.ar;have hR:=h.ok.aj;have hS:=h.sl;have hi:=OS (R:=f.aj.length) (n:=f.aj.length+f.aW.length) (args:=a) hR oG oG h.ok.pos tl;rw[ha,bx];unfold iB;refine(PV (J:=qc f.aj.length (f.aj.length+f.aW.length) f.blocks.length) h.ok.blk (fun s U hj=>aa0 (J:=qc f.aj.length (f.aj.length+f.aW.length) f.blocks.length) h.ok.blk (fun s h=>QM h false) (fun s k U hj=>?_) U hj) _ _ hi.1.ok hi.1 (Nat.lt_succ_self _)).2.2;refine ab4 (J:=qc f.aj.length (f.aj.length+f.aW.length) f.blocks.length) h.ok.blk U hj fun x hx hr u hu oB t ht=>?_;have hk:k<f.blocks.length:=(bL.1 hx).1;have C:=cx hx;have X:=(h.ok.blk x C).to t ht;obtain⟨t,rfl⟩:=cN X.1;obtain⟨_,p2,p3⟩:=CR hR oG oG (ok:=true) (fun y hy=>(h.ins x C y hy).1) (U.mS hk) (hj.yes k hk hr);exact(QN hR oG oG oB (h.ed x C).1 (h.wr x C) oG p2 p3).1
theorem Qb{f:aA}(h:vQ f){b:Nat}(hb:b<f.blocks.length):qd f (iB f.blocks f.args.toNat) b=ss f.blocks (iB f.blocks f.args.toNat) b:=by
 have U:=ZQ h;have hR:=h.ok.aj;have hS:=h.sl;generalize iB f.blocks f.args.toNat=s at U ⊢;have hx:f.blocks[b]? =some f.blocks[b]:=aG hb;have J:f.blocks[b]∈f.blocks:=bO _;unfold qd ss;simp only[getD_some hx];have zG:=h.Ck b _ hx;generalize f.blocks[b]=x at hx J zG;cases lD:s.re.getD b false with
 |false=>
  have:cC f.aj.length (f.aj.length+f.aW.length) s b=⟨true,List.replicate (f.aj.length+f.aW.length) false⟩:=by unfold cC;rw[lD];rfl
  rw[this];rfl
 |true=>
  have hc:cC f.aj.length (f.aj.length+f.aW.length) s b=⟨false,cz f.aj.length (f.aj.length+f.aW.length) (s.ws.getD b [])⟩:=by unfold cC;rw[lD];rfl
  have hw:=U.ok.mS hb;have ho:=U.yes b hb lD;rw[hc];generalize s.ws.getD b []=w at hw ho;have h1:=Rm hR oG oG (h.ins x J) (ok:=true) hw ho;obtain⟨h2,h3,h4⟩:=CR hR oG oG (ok:=true) (fun y hy=>(h.ins x J y hy).1) hw ho;have h5:=Kr (R:=f.aj.length) (n:=f.aj.length+f.aW.length) oG h3 (ok:=(x.ins.foldl mw (w,true)).2) (h.rd x J)
  have h6:∀ j,j<x.ins.length->bC (x.ins.getD j dT)=true->(x.ins.take (j+1)).all bC=true:=fun j hj hp=>by
   have hy:x.ins[j]? =some x.ins[j]:=aG hj;rw[getD_some hy] at hp;exact(zG j _ hy hp).2
  have h7:=aa4 (l:=x.ins) (P:=fun y=>(List.range y.args.length).all (qe f s b y)) h6
  have h8:(x.ins.takeWhile bC).all (fun y=>(List.range y.args.length).all (qe f s b y))=(x.ins.takeWhile bC).all (vM f.blocks s b):=by
   rw[Bool.eq_iff_iff,bJ,bJ]
   have qG:∀ y∈x.ins.takeWhile bC,(List.range y.args.length).all (qe f s b y)=vM f.blocks s b y:=fun y hy=>by
    have Im:y∈x.ins:=List.takeWhile_sublist _ |>.subset hy;have hp:bC y=true:=bJ.1 List.all_takeWhile y hy;obtain⟨j,hj⟩:=dt Im;have hlen:=(zG j y hj hp).1;unfold vM;rw[hlen,Bool.eq_iff_iff,bJ,bJ]
    have:∀ k∈List.range (bN f.blocks f.blocks.length b).length,qe f s b y k=tU f.blocks s b y k:=fun k hk=>by
     have hk:k<(bN f.blocks f.blocks.length b).length:=by simpa using hk
     have hpk:(bN f.blocks f.blocks.length b)[k]? =some (bN f.blocks f.blocks.length b)[k]:=aG hk;unfold qe tU;simp only[getD_some hpk]
     have X:(bN f.blocks f.blocks.length b)[k].toNat<f.blocks.length:=by
      have BQ:=(FJ (fun b hb t ht=>((h.ok.blk b hb).to t ht).1) f.blocks.length b).2 _ (bO hk);have:=h.ok.pos;omega
     generalize (bN f.blocks f.blocks.length b)[k].toNat=p at X;have u7:f.blocks[p]? =some f.blocks[p]:=aG X;have ql:f.blocks[p]∈f.blocks:=bO _;rw[getD_some u7];generalize f.blocks[p]=z at u7 ql;have uZ:y.args[k]? =some y.args[k]:=aG oG;have yB:=(h.ins x J y Im).2.p (by simpa[bC] using hp) _ (bO (h:=by omega):y.args[k]∈y.args);rw[getD_some uZ];obtain⟨i,hi,e⟩:=yB;rw[e,bx];cases z2:s.re.getD p false with
     |false=>
      have:cC f.aj.length (f.aj.length+f.aW.length) s p=⟨true,List.replicate (f.aj.length+f.aW.length) false⟩:=by unfold cC;rw[z2];rfl
      rw[this];rfl
     |true=>
      have Aw:cC f.aj.length (f.aj.length+f.aW.length) s p=⟨false,cz f.aj.length (f.aj.length+f.aW.length) (s.ws.getD p [])⟩:=by unfold cC;rw[z2];rfl
      obtain⟨q2,q3,q4⟩:=CR hR oG oG (ok:=true) (fun y hy=>(h.ins z ql y hy).1) (U.ok.mS X) (U.yes p X z2);obtain⟨r2,r3,r4⟩:=P' hR oG oG (h.ed z ql).1 (h.wr z ql) (to:=(b:Int)) q3 q4;rw[Aw,q2,r2,getD_some (ua (show i<f.aj.length+f.aW.length by omega))];have g9:gp f.aj.length i=i:=by unfold gp;rw[if_pos hi]
      rw[g9];show(false||bk _ i)=(!true||ku _ i)
      rw[<- F6 r3.all];rfl
    exact⟨fun h k hk=>by rw[<- this k hk];exact h k hk,fun h k hk=>by rw[this k hk];exact h k hk⟩
   exact⟨fun h y hy=>by rw[<- qG y hy];exact h y hy,fun h y hy=>by rw[qG y hy];exact h y hy⟩
  have h9:(List.range x.ins.length).all (zR f s b x.ins ⟨false,cz f.aj.length (f.aj.length+f.aW.length) w⟩)=((List.range x.ins.length).all (fun j=>opsV f.aj.length (eV f.aj.length (x.ins.take j) ⟨false,cz f.aj.length (f.aj.length+f.aW.length) w⟩) (x.ins.getD j dT))&&(List.range x.ins.length).all fun j=> !bC (x.ins.getD j dT)||(List.range (x.ins.getD j dT).args.length).all (qe f s b (x.ins.getD j dT))):=by
   rw[<- ab'];rfl
  have nO:(je x w).2=jg (x.ins.foldl mw (w,true)).1 (x.ins.foldl mw (w,true)).2 (bS x.fin):=rfl;rw[h9,h7,h8,h2,nO,h5,h1];simp only[Bool.true_and,Bool.false_or,Bool.not_true];generalize (List.range x.ins.length).all _=A;generalize (x.ins.takeWhile bC).all _=B;generalize sc _ _=C;cases A<;>cases B<;>cases C<;>rfl
theorem ZF(f:aA):Ko f=dS f:=by
 unfold Ko dS;rw[Of];split
 .rename_i h;have hf:=Bo h
  have:(List.range f.blocks.length).all (qd f (iB f.blocks f.args.toNat))=wX f.blocks f.args.toNat:=by
   unfold wX;rw[Bool.eq_iff_iff,bJ,bJ];exact⟨fun h k hk=>by rw[<- Qb hf (by simpa using hk)];exact h k hk,fun h k hk=>by rw[Qb hf (by simpa using hk)];exact h k hk⟩
  rw[this]
 .rfl
end Go.Argus
namespace Go.Argus
open Go.Abs
structure uw(f:aA):Prop where
 Wu:0<=f.result
 nm:f.name.size<=maxLen
 sg:∀ s∈f.signals,s.size<=maxLen
 en:∀ b∈f.blocks,b.fin.name.size<=maxLen/\∀ w∈b.fin.aH,w.name.size<=maxLen
theorem ac2(x:zo.val)(h:zo.ok x):uw (Kp x):=by
 obtain⟨h1,_,_,h4,_,_,J,U,_⟩:=h;refine⟨?_,h1,fun s X=>?_,fun b hb=>?_⟩
 .have:(Lit.int .u8 x.2.2.2.1).wf=true:=h4;simp only[Lit.wf,aO] at this;exact of_decide_eq_true this.1
 .exact J s X
 .obtain⟨y,hy,rfl⟩:=List.mem_map.1 hb;obtain⟨_,C,_⟩:=U y hy;obtain⟨_,_,_,_,_,e6,_,_,e9,_,_⟩:=C;refine⟨e6,fun w hw=>?_⟩;obtain⟨z,hz,rfl⟩:=List.mem_map.1 hw;exact(e9 z hz).1
end Go.Argus
section
open Go Go.Abs Go.Proofs Go.Argus
namespace Go.Argus
def xJ(f:aA):Bool:=lN f.name&&(!decide ((1200:Int)<f.aj.length)&&(!decide ((60:Int)<f.aW.length)&&(cY f.args 0 (if(f.aj.length:Int)<6 then(f.aj.length:Int) else 6)&&(!decide (2<f.result)&&(!(f.iter&&decide (f.result=0))&&(!decide ((6:Int)<f.signals.length)&&cY f.blocks.length 1 1200))))))
def ui(a:Int)(j:Nat)(x:Int):Bool:=nh 3 x||(decide ((j:Int)<a)&&decide (x=3))
theorem XQ{f:aA}(h:xJ f=false):rE f=false:=by
 unfold xJ at h;unfold rE nZ q8 qW;revert h;generalize lN f.name=a;generalize cY f.args 0 _=b;generalize cY f.blocks.length 1 1200=c;generalize n3 f=d;generalize eR f.aj 3=e;generalize eR (f.aj.take f.args.toNat) 2=g;generalize eR f.aW 2=i;generalize f.signals.any _=j;grind
theorem Yj{f:aA}(h:xJ f=true)(hr:0<=f.result):nZ f=true/\f.signals.length<=6/\f.aj.length<=1200/\f.aW.length<=60/\0<=f.args/\f.args<=f.aj.length:=by
 unfold xJ at h;simp only[aO,Bool.not_eq_true',decide_eq_false_iff_not,kT] at h;obtain⟨h1,h2,h3,h4,h5,C,U,J⟩:=h;have ha:f.args<=f.aj.length:=by have:=h4.2;split at this<;>omega
 refine⟨?_,oG,oG,oG,h4.1,ha⟩;unfold nZ qW;simp only[aO,Bool.not_eq_true',decide_eq_false_iff_not,kT];refine⟨h1,h4,?_,h2,h3,J⟩;have:f.result=0\/f.result=1\/f.result=2:=by omega
 rcases this with e|e|e
 .simp[e] at C ⊢;exact C
 .simp[e]
 .simp[e]
theorem gS(a b:Bool):(if a=true then b else false)=(a&&b):=by cases a<;>rfl
theorem zn(a b:Bool):(if a=true then true else b)=(a||b):=by cases a<;>rfl
def j6(bs:List bB):List (List Int):=(List.range bs.length).map (lO bs bs.length)
def mB(R:Nat)(bs:List bB)(k:Nat):List Bool:=(List.range R).map fun(i:Nat)=>(lG bs k).any (·==(i:Int))
theorem CG(R:Nat)(bs:List bB)(k:Nat):(mB R bs k).length=R:=by simp[mB]
theorem F8{R i:Nat}{bs:List bB}{k:Nat}(h:i<R):(mB R bs k)[i]? =some ((lG bs k).any (·==(i:Int))):=by simp[mB,h]
theorem Oe{bs:List bB}{k:Nat}{x:bB}(h:bs[k]? =some x):lG bs (k+1)=lG bs k++if x.fin.kind=7 then [x.fin.a] else []:=by
 unfold lG;rw[List.take_add_one,h,List.filter_append,List.map_append];congr 1;by_cases e:x.fin.kind=7<;>simp[e]
theorem abU{R:Nat}{bs:List bB}{k:Nat}{x:bB}(h:bs[k]? =some x)(e:¬ x.fin.kind=7):mB R bs (k+1)=mB R bs k:=by
 unfold mB;rw[Oe h,if_neg e,List.append_nil]
theorem aaK{R i:Nat}{bs:List bB}{k:Nat}{x:bB}(h:bs[k]? =some x)(e:x.fin.kind=7)(ha:x.fin.a=i):mB R bs (k+1)=(mB R bs k).set i true:=by
 apply List.ext_getElem?;intro j;rw[List.getElem?_set];by_cases hj:j<R
 .rw[F8 hj,F8 hj,Oe h,if_pos e,List.any_append,ha,CG];by_cases C:i=j
  .subst C;simp[hj]
  .rw[if_neg C];have:((i:Int)==(j:Int))=false:=by simp;omega
   simp[this]
 .have h1:∀ k,(mB R bs k)[j]? =none:=fun k=>List.getElem?_eq_none (by rw[CG];omega);rw[h1,h1,CG];split
  .rw[if_neg oG]
  .rfl
theorem ZA(R:Nat)(bs:List bB):mB R bs 0=List.replicate R false:=by
 apply List.ext_getElem?;intro j;by_cases hj:j<R
 .rw[F8 hj];simp[lG,hj]
 .rw[List.getElem?_eq_none (by rw[CG];omega),List.getElem?_eq_none oP]
theorem take_set{C:List Bool}{k n:Nat}{v:Bool}(h:C[k]? =some v)(hn:C.length=n):((C.take k++List.replicate (n - k) false).set k v)=C.take (k+1)++List.replicate (n - (k+1)) false:=by
 have hk:=(bL.1 h).1;have hl:(C.take k).length=k:=by simp;omega
 rw[show n - k=n - (k+1)+1 by omega,List.replicate_succ,List.set_append_right _ _ oG,hl,Nat.sub_self,List.set_cons_zero,List.take_add_one,h];simp
def pk(p:Bool×D):List D:=[B p.1,p.2]
def dm(L:List (Bool×D)):List D:=L.flatMap pk
def EC(c:Cert):Bool×D:=(c.any,b9 c.is)
theorem A3:∀ L:List (Bool×D),(dm L).length=L.length*2
 |[]=>rfl
 |p::L=>by
  have:=A3 L;unfold dm at this ⊢;rw[List.flatMap_cons,List.length_append,this];simp[pk];omega
theorem Jw:∀ {L:List (Bool×D)} {t:Nat} {p:Bool×D},L[t]? =some p->∃ r,(dm L).drop (t*2)=B p.1::p.2::r
 |[],_,_,h=>by simp at h
 |p::L,0,q,h=>by
  simp at h;subst h;exact⟨dm L,rfl⟩
 |p::L,t+1,q,h=>by
  obtain⟨r,hr⟩:=Jw (L:=L) (t:=t) (by simpa using h);refine⟨r,?_⟩;rw[show(t+1)*2=t*2+2 by omega];show(B p.1::p.2::dm L).drop (t*2+2)=_;exact hr
theorem QJ:∀ {L:List (Bool×D)} {t:Nat} (q:Bool×D),t<L.length->(dm L).take (t*2)++[B q.1,q.2]++(dm L).drop (t*2+2)=dm (L.set t q)
 |[],_,_,h=>by simp at h
 |p::L,0,q,h=>rfl
 |p::L,t+1,q,h=>by
  have ih:=QJ (L:=L) (t:=t) q (by simpa using h);rw[show(t+1)*2=t*2+2 by omega,List.set_cons_succ];show B p.1::p.2::((dm L).take (t*2)++[B q.1,q.2]++(dm L).drop (t*2+2))=_;rw[ih];rfl
theorem IG{L:List (Bool×D)}{t:Nat}(q:Bool×D)(h:t<L.length):splice (dm L) (t*2) [B q.1,q.2]=dm (L.set t q):=QJ q h
theorem acX{L:List (Bool×D)}{t:Nat}{p:Bool×D}(h:L[t]? =some p):∃ r,(dm L).drop (t*2+0)=B p.1::p.2::r:=Jw h
theorem QK{L:List (Bool×D)}{t:Nat}{p:Bool×D}(h:L[t]? =some p):((dm L).drop (t*2)).take 2=[B p.1,p.2]:=by
 obtain⟨r,hr⟩:=Jw h;rw[hr];rfl
theorem Gp(g:D->D)(hg:∀ b,g (B b)=B b):∀ L:List (Bool×D),(dm L).map g=dm (L.map fun p=>(p.1,g p.2))
 |[]=>rfl
 |p::L=>by
  show g (B p.1)::g p.2::(dm L).map g=B p.1::g p.2::_;rw[hg,Gp g hg L];rfl
def iZ(n N:Nat)(d:D):Nat->List (Bool×D)
 |0=>List.replicate N (false,.z)
 |k+1=>(true,d)::(List.replicate k (true,b9 (List.replicate n false))++List.replicate (N - (k+1)) (false,.z))
theorem I0{n N:Nat}{d:D}{k:Nat}(h:k<=N):(iZ n N d k).length=N:=by
 cases k with
 |zero=>simp[iZ]
 |succ k=>simp[iZ];omega
theorem abV{n N:Nat}{d:D}(h:0<N):(iZ n N d 0).set 0 (true,d)=iZ n N d 1:=by
 obtain⟨M,rfl⟩:∃ M,N=M+1:=⟨N - 1,oG⟩
 simp[iZ,List.replicate_succ]
theorem abW{n N:Nat}{d:D}{k:Nat}(h:k+1<N):(iZ n N d (k+1)).set (k+1) (true,b9 (List.replicate n false))=iZ n N d (k+2):=by
 unfold iZ;rw[List.set_cons_succ,show N - (k+1)=N - (k+1+1)+1 by omega,List.replicate_succ (n:=N - (k+1+1)),List.set_append_right _ _ oS,List.length_replicate,Nat.sub_self,List.set_cons_zero];show _=(true,d)::(List.replicate (k+1) _++_)
 rw[List.replicate_succ',List.append_assoc];rfl
def eT(R n N:Nat)(s:CS):List (Bool×D):=(List.range N).map fun k=>EC (cC R n s k)
theorem wV(R n N:Nat)(s:CS):(eT R n N s).length=N:=by simp[eT]
theorem AI{R n N:Nat}{s:CS}{k:Nat}(h:k<N):(eT R n N s)[k]? =some (EC (cC R n s k)):=by simp[eT,h]
theorem Yv{R n N:Nat}{s s':CS}{t:Nat}{c:Cert}(h:∀ k,cC R n s' k=if k=t then c else cC R n s k):(eT R n N s).set t (EC c)=eT R n N s':=by
 apply List.ext_getElem?;intro j;rw[List.getElem?_set,wV];by_cases hj:j<N
 .rw[AI hj,AI hj,h j];by_cases e:t=j
  .subst e;simp[hj]
  .rw[if_neg e,if_neg fun h=>e h.symm]
 .have h1:∀ s,(eT R n N s)[j]? =none:=fun s=>by simp[eT];omega
  rw[h1,h1];split
  .rw[if_neg oG]
  .rfl
def DR(f:aA)(s:CS):D:=.sl (dm (eT f.aj.length (f.aj.length+f.aW.length) f.blocks.length s)) f.blocks.length
theorem II{R n:Nat}{s:CS}{k:Nat}:(cC R n s k).is.length=n:=by
 unfold cC;split
 .exact CQ ..
 .simp
def qb(a b:Cert)(q:Nat):Bool:=(a.any==b.any)&&(List.range q).all fun i=>a.is.getD i false==b.is.getD i false
theorem Yw(a b:Cert)(q:Nat):qb a b (q+1)=(qb a b q&&(a.is.getD q false==b.is.getD q false)):=by
 unfold qb;rw[List.range_succ,List.all_append,Bool.and_assoc];simp
theorem ZE{a b:Cert}{n:Nat}(ha:a.is.length=n)(hb:b.is.length=n):qb a b n=true↔a.any=b.any/\a.is=b.is:=by
 unfold qb;rw[aO,beq_iff_eq,bJ];refine and_congr_right fun _=>⟨fun h=>?_,fun h k hk=>by rw[h];simp⟩
 apply List.ext_getElem?;intro j;by_cases hj:j<n
 .have:=h j (by simpa using hj);have h1:a.is[j]? =some a.is[j]:=aG oG;have h2:b.is[j]? =some b.is[j]:=aG oG;rw[getD_some h1,getD_some h2,beq_iff_eq] at this;rw[h1,h2,this]
 .rw[List.getElem?_eq_none oG,List.getElem?_eq_none oG]
theorem PL:∀ n:Nat,replD n [B false,.z]=dm (List.replicate n (false,.z))
 |0=>rfl
 |n+1=>by
  have:=PL n;unfold replD at this ⊢;rw[List.replicate_succ,List.replicate_succ,List.flatten_cons,this];rfl
theorem QL:∀ {L:List (Bool×D)},(∀ p∈L,Tr p.2)->∀ x∈dm L,Tr x
 |[],_,x,h=>by simp[dm] at h
 |p::L,hp,x,h=>by
  have h:x∈B p.1::p.2::dm L:=h;rcases List.mem_cons.1 h with rfl|h
  .exact .s _
  .rcases List.mem_cons.1 h with rfl|h
   .exact hp p oS
   .exact QL (fun q hq=>hp q (by simp[hq])) x h
theorem aaL(f:aA)(s:CS):Tr (DR f s):=.sl (QL fun p hp=>by
 obtain⟨k,_,rfl⟩:=List.mem_map.1 hp
 exact .sl (.map fun _=>.s _))
theorem aaM{n N i:Nat}{cs:List D}{sz:Nat}(h:i≠2)(k:Nat):(iZ n N (.rs 2 0 n) k).map (fun p=>(p.1,sub (fz0 i cs sz) p.2))=iZ n N (.rs 2 0 n) k:=by
 cases k with
 |zero=>simp only[iZ,List.map_replicate];rfl
 |succ k=>
  simp only[iZ,List.map_cons,List.map_append,List.map_replicate,AX (Ne.symm h)];rfl
theorem abX{n N i k:Nat}(h:i≠2)(hk:k+1<N):(dm ((iZ n N (.rs 2 0 n) (k+1)).set (k+1) (true,.rs i 0 n))).map (sub (fz0 i ((List.replicate n false).map B) 1))=dm (iZ n N (.rs 2 0 n) (k+2)):=by
 rw[Gp _ (fun _=>rfl),List.map_set,aaM h,Bq,List.drop_zero,dn oS, <- abW hk];congr 3;show _=D.sl _ _;rw[List.length_replicate]
def po(n N:Nat):List (Bool×D):=List.replicate (N - 1) (true,b9 (List.replicate n false))
theorem abY{n N:Nat}{d:D}(h:0<N):iZ n N d N=(true,d)::po n N:=by
 obtain⟨M,rfl⟩:∃ M,N=M+1:=⟨N - 1,oG⟩
 simp[iZ,po]
theorem OR{n N:Nat}(h:0<N):(po n N).length+1=N:=by simp[po];omega
theorem aiB{n N i:Nat}{cs:List D}{sz:Nat}:(po n N).map (fun p=>(p.1,sub (fz0 i cs sz) p.2))=po n N:=by
 unfold po;rw[List.map_replicate];rfl
theorem XR{R n N args:Nat}(h0:cC R n (j5 N args) 0=⟨false,List.replicate args true++List.replicate (n - args) false⟩)(h1:∀ k,0<k->k<N->cC R n (j5 N args) k=⟨true,List.replicate n false⟩)(C:0<N):
 eT R n N (j5 N args)=(false,b9 (List.replicate args true++List.replicate (n - args) false))::po n N:=by
 apply List.ext_getElem?;intro j;by_cases hj:j<N
 .rw[AI hj];cases j with
  |zero=>rw[h0];rfl
  |succ j=>
   rw[h1 _ oG hj,List.getElem?_cons_succ];unfold po;rw[List.getElem?_replicate,if_pos oG];rfl
 .rw[List.getElem?_eq_none (by rw[wV];omega),List.getElem?_eq_none (by have:=OR (n:=n) C;simp;omega)]
theorem Jx{R n N i sz:Nat}{cs:List D}{e:TypeId}{s:CS}:Row.sub (fz0 i cs sz) (.cells (dm (eT R n N s)) e)=.cells (dm (eT R n N s)) e:=by
 refine congrArg (fun c=>Row.cells c e) ((Gp _ (fun _=>rfl) _).trans (congrArg dm ?_));unfold eT;rw[List.map_map];rfl
def K9(f:aA)(n N:Nat):Nat->St
 |0=>⟨az [(1,.pt (aD f)),(3,I n),(4,.rs 1 0 N),(5,I (0:Nat))],bm [(1,.cells (dm (iZ n N (.rs 2 0 n) 0)) 158)],2⟩
 |k+1=>⟨az [(1,.pt (aD f)),(3,I n),(4,.rs 1 0 N),(5,I (k+1:Nat))],bm [(1,.cells (dm (iZ n N (.rs 2 0 n) (k+1))) 158),(2,.cells ((List.replicate n false).map B) 4)],k+3⟩
end Go.Argus
namespace Go.Proofs.Tryz.K
set_option maxRecDepth 10000
set_option maxHeartbeats 1000000 in
theorem BL{f:aA}(X:uw f):PCall prog 169 [.agg (aD f)] (B (rE f)):=by
 have zM:=zM X.nm;have gJ:∀ {n a b:Int},PCall prog 212 [I n,I a,I b] (B (cY n a b)):=fun {n a b}=>gJ;refine bc afm (.cons (.agg (fu f)) .nil) (Tr.s _) ?_;rw[afn];refine aw ?_;refine af ?_;refine ab (aI (bw [(0,aD f,26)] eH (l:=[(1,.pt (aD f))]) eH) (aC (ao ?_)));refine af ?_;refine cl zM ?_;refine aE ?_;refine bI ?_;refine af ?_;refine bE rfl rfl (SV rfl rfl) (fun hc=>⟨ak,rfl⟩) ?_;refine gc gJ ?_;refine aE ?_;refine aE ?_;refine bI ?_;refine gc gJ ?_;refine af ?_;refine ab (cH rfl (fun h=>?_) fun h=>b7 (aC (aw ?_)))
 .refine aC (ao ?_);refine SS ?_;refine ab (cK (ax (d:=B false) rfl ?_))
  have:xJ f=false:=by
   revert h;unfold xJ;generalize lN f.name=a;generalize cY f.args 0 _=b;generalize cY f.blocks.length 1 1200=c;generalize f.iter=d;grind
  rw[XQ this]
 have hA:xJ f=true:=by
  revert h;unfold xJ;generalize lN f.name=a;generalize cY f.args 0 _=b;generalize cY f.blocks.length 1 1200=c;generalize f.iter=d;grind
 obtain⟨h1,h6,hR,hS,U,haR⟩:=Yj hA X.Wu;clear h hA;obtain⟨a,ha⟩:=cN U
 have hV:rE f=(eR f.aj 3&&(eR (f.aj.take a) 2&&(eR f.aW 2&&((!f.signals.any fun s=> !isName s)&&n3 f)))):=by
  rw[rE,h1,q8,ha,bx,show decide ((6:Int)<f.signals.length)=false from decide_eq_false oG];simp only[Bool.true_and,Bool.not_false,Bool.and_assoc]
 rw[hV];clear hV h1
 have Ui:∀ (j:Nat) x,f.aj[j]? =some x->ui a j x=true->(eR f.aj 3&&(eR (f.aj.take a) 2&&(eR f.aW 2&&((!f.signals.any fun s=> !isName s)&&n3 f))))=false:=fun j x hx hb=>by
  unfold ui at hb;rw[Bool.or_eq_true] at hb;rcases hb with hb|hb
  .have:eR f.aj 3=false:=by
    unfold eR;rw[List.any_eq_true.2 ⟨x,cx hx,hb⟩];rfl
   rw[this];rfl
  .have hb:j<a/\x=3:=by simpa using hb
   have:eR (f.aj.take a) 2=false:=by
    unfold eR;rw[List.any_eq_true.2 ⟨x,cx (i:=j) (by rw[List.getElem?_take,if_pos hb.1,hx]),by rw[hb.2];rfl⟩];rfl
   rw[this,Bool.false_and,Bool.and_false]
 have Sd:(∀ (j:Nat) x,f.aj[j]? =some x->ui a j x=false)->eR f.aj 3=true/\eR (f.aj.take a) 2=true:=fun h=>by
  constructor
  .unfold eR;rw[Bool.not_eq_true',List.any_eq_false];intro x hx;obtain⟨j,hj⟩:=dt hx;have:=h j x hj;unfold ui at this;rw[Bool.or_eq_false_iff] at this;rw[this.1];simp
  .unfold eR;rw[Bool.not_eq_true',List.any_eq_false];intro x hx;obtain⟨j,hj⟩:=dt hx;have vh:j<a:=by have:=(bL.1 hj).1;simp at this;omega
   rw[List.getElem?_take,if_pos vh] at hj;have:=h j x hj;unfold ui nh at this;simp[vh] at this;simp[nh];omega
 refine SS ?_
 refine ab (bV (fun s=>Ghost prog s ⟨az [(1,.pt (aD f))],fun _=>none,1⟩/\eR f.aj 3=true/\eR (f.aj.take a) 2=true) (cI (α:=Nat) (fun k=>⟨az [(1,.pt (aD f)),(3,I k)],fun _=>none,1⟩)
  (fun k=>k<=f.aj.length/\∀ j x,j<k->f.aj[j]? =some x->ui a j x=false) (fun k=>f.aj.length - k) 0 (aq eH) ⟨oG,fun j y hj=>by omega⟩ ?_) ?_)
 .rintro k ⟨hk,hinv⟩;refine aV ?_;refine ab ⟨_,rfl,fun h=>?_,fun h=>?_⟩
  .have ap:k<f.aj.length:=by simpa using h
   have hx:f.aj[k]? =some f.aj[k]:=aG ap;have iL:=Ui k _ hx
   have pK:ui a k f.aj[k]=false->∀ j y,j<k+1->f.aj[j]? =some y->ui a j y=false:=fun h j y hj hy=>by
    by_cases e:j=k
    .subst e;rw[hx] at hy;cases hy;exact h
    .exact hinv j y oG hy
   generalize f.aj[k]=x at hx iL pK;refine ws ?_;refine aE ?_;refine aE ?_;refine bI ?_;refine af ?_;refine ab (av rfl (fun hp=>?_) fun hp=>?_)
   .refine ws ?_;refine SS ?_;refine ab (aT (bR (aL (ax (d:=B false) rfl ?_))));rw[iL (by revert hp;unfold ui nh;rw[ha];grind)]
   .refine ct ?_;refine au ?_;refine ab (aK (k+1) (aq eH) ⟨oG,pK (by revert hp;unfold ui nh;rw[ha];grind)⟩ oG)
  .have bh:¬ k<f.aj.length:=by simpa using h
   exact⟨aq eH,Sd fun j x hx=>hinv j x (by have:=(bL.1 hx).1;omega) hx⟩
 rintro s ⟨hg,e1,e2⟩;clear Ui Sd;rw[e1,e2,Bool.true_and,Bool.true_and];refine⟨_,hg,aC (aw ?_)⟩;refine SS ?_
 refine ab (bV (fun s=>Ghost prog s ⟨az [(1,.pt (aD f))],fun _=>none,1⟩/\eR f.aW 2=true) (cI (α:=Nat) (fun k=>⟨az [(1,.pt (aD f)),(4,I k)],fun _=>none,1⟩)
  (fun k=>k<=f.aW.length/\∀ (j:Nat) x,j<k->f.aW[j]? =some x->nh 2 x=false) (fun k=>f.aW.length - k) 0 (aq eH) ⟨oG,fun j y hj=>by omega⟩ ?_) ?_)
 .rintro k ⟨hk,hinv⟩;refine aV ?_;refine ab ⟨_,rfl,fun h=>?_,fun h=>?_⟩
  .have ap:k<f.aW.length:=by simpa using h
   have hx:f.aW[k]? =some f.aW[k]:=aG ap;generalize f.aW[k]=x at hx;refine ws ?_;refine aE ?_;refine aV ?_;refine ab (av rfl (fun hp=>?_) fun hp=>?_)
   .refine ws ?_;refine SS ?_;refine ab (aT (bR (aL (ax (d:=B false) rfl ?_))))
    have:eR f.aW 2=false:=by
     unfold eR;rw[List.any_eq_true.2 ⟨x,cx hx,by revert hp;unfold nh;grind⟩];rfl
    rw[this];rfl
   .refine ct ?_;refine au ?_;refine ab (aK (k+1) (aq eH) ⟨oG,fun j y hj hy=>?_⟩ oG);by_cases e:j=k
    .subst e;rw[hx] at hy;cases hy;revert hp;unfold nh;grind
    .exact hinv j y oG hy
  .have bh:¬ k<f.aW.length:=by simpa using h
   refine⟨aq eH,?_⟩;unfold eR;rw[Bool.not_eq_true',List.any_eq_false];intro x hx;obtain⟨j,hj⟩:=dt hx;rw[hinv j x (by have:=(bL.1 hj).1;omega) hj];simp
 rintro s ⟨hg,e3⟩;rw[e3,Bool.true_and];clear e1 e2 e3;have VA:∀ b:Bool,b=(!(f.signals.any fun s=> !isName s)&&n3 f)->b=((!f.signals.any fun s=> !isName s)&&n3 f):=fun b h=>h
 have C:∀ (j:Nat) x,f.signals[j]? =some x->isName x=false->((!f.signals.any fun s=> !isName s)&&n3 f)=false:=fun j x hx hb=>by
  rw[List.any_eq_true.2 ⟨x,cx hx,by rw[hb];rfl⟩];rfl
 have J:∀ (j:Nat) x y,f.signals[j]? =some x->f.signals[j+1]? =some y->Op.bytesLess x.toList y.toList=false->((!f.signals.any fun s=> !isName s)&&n3 f)=false:=fun j x y hx hy hb=>by
  have:n3 f=false:=by
   unfold n3;refine kO (k:=j) (by have:=(bL.1 hy).1;omega) ?_;unfold tV;rw[getD_some hx,getD_some hy,hb]
  rw[this,Bool.and_false]
 refine⟨_,hg,aC (aw ?_)⟩;refine SS ?_
 refine ab (bV (fun s=>Ghost prog s ⟨az [],fun _=>none,1⟩/\((!f.signals.any fun s=> !isName s)&&n3 f)=true) (cI (α:=Nat) (fun k=>⟨az [(1,.pt (aD f)),(5,I k)],fun _=>none,1⟩)
  (fun k=>k<=f.signals.length/\(∀ (j:Nat) x,j<k->f.signals[j]? =some x->isName x=true)/\∀ (j:Nat) x y,j+1<k->f.signals[j]? =some x->f.signals[j+1]? =some y->Op.bytesLess x.toList y.toList=true) (fun k=>f.signals.length - k) 0 (aq eH) ⟨oG,fun j y hj=>by omega,fun j x y hj=>by omega⟩ ?_) ?_)
 .rintro k ⟨hk,hinv,Uj⟩;refine aV ?_;refine ab ⟨_,rfl,fun h=>?_,fun h=>?_⟩
  .have ap:k<f.signals.length:=by simpa using h
   have hx:f.signals[k]? =some f.signals[k]:=aG ap;have oq:=oq (X.sg _ (bO ap));generalize f.signals[k]=x at hx oq
   have mO:isName x=true->∀ (j:Nat) y,j<k+1->f.signals[j]? =some y->isName y=true:=fun hq j y hj hy=>by
    by_cases e:j=k
    .subst e;rw[hx] at hy;cases hy;exact hq
    .exact hinv j y oG hy
   have kL:=C k x hx;generalize isName x=nb at oq mO kL;refine c8 Yk ?_;cases nb with
   |false=>
    refine aV ?_;refine cl oq ?_;refine aE ?_;(iterate 2 refine z fun _ _=>?_);refine aV ?_;(iterate 2 refine z fun _ _=>?_);refine SS ?_;refine a8 bf (av rfl (fun hp=>?_) fun hp=>(by cases hp));refine ws ?_;refine SS ?_;refine ab (aT (bR (aL (ax (d:=B false) rfl ?_))));rw[kL rfl]
   |true=>
    cases k with
    |zero=>
     have ja:decide ((0:Int)<((0:Nat):Int))=false:=rfl;refine aV ?_;refine cl oq ?_;refine aE ?_;(iterate 2 refine z fun _ _=>?_);refine aV ?_;refine z fun _ _=>?_;refine af ?_;refine a8 bf (av rfl (fun hp=>(by cases hp)) fun hp=>ct ?_);refine au ?_;refine ab (aK 1 (aq eH) ⟨oG,mO rfl,fun j x y hj=>by omega⟩ oG)
    |succ i=>
     have ja:decide ((0:Int)<((i+1:Nat):Int))=true:=decide_eq_true oG;have pw:((i+1:Nat):Int) - 1=(i:Int)/\ -9223372036854775808<=(i:Int)/\(i:Int)<=9223372036854775807:=by omega
     have hy:f.signals[i]? =some f.signals[i]:=aG oG;generalize f.signals[i]=y at hy;have du:=J i y x hy hx
     have BT:Op.bytesLess y.toList x.toList=true->∀ (j:Nat) x y,j+1<i+1+1->f.signals[j]? =some x->f.signals[j+1]? =some y->Op.bytesLess x.toList y.toList=true:=fun hq j u v hj hu hv=>by
      by_cases e:j=i
      .subst e;rw[hy] at hu;cases hu;rw[hx] at hv;cases hv;exact hq
      .exact Uj j u v oG hu hv
     refine aV ?_;refine cl oq ?_;refine aE ?_;refine dk ?_;refine bE rfl rfl (RC rfl rfl) (fun hc=>⟨ak,trivial⟩) ?_;refine af ?_;refine a8 bf (av rfl (fun hp=>?_) fun hp=>?_)
     .refine ws ?_;refine SS ?_;refine ab (aT (bR (aL (ax (d:=B false) rfl ?_))));rw[du (by revert hp;generalize Op.bytesLess y.toList x.toList=q;cases q<;>simp)]
     .refine ct ?_;refine au ?_;refine ab (aK (i+1+1) (aq eH) ⟨oG,mO rfl,BT (by revert hp;generalize Op.bytesLess y.toList x.toList=q;cases q<;>simp)⟩ oG)
  .have bh:¬ k<f.signals.length:=by simpa using h
   refine⟨.forget _ _ _ _ fun _=>.inr rfl,?_⟩;rw[aO];constructor
   .rw[Bool.not_eq_true',List.any_eq_false];intro x hx;obtain⟨j,hj⟩:=dt hx;rw[hinv j x (by have:=(bL.1 hj).1;omega) hj];simp
   .unfold n3;refine bJ.2 fun j hj=>?_;have hj:j<f.signals.length - 1:=by simpa using hj
    have h1:f.signals[j]? =some f.signals[j]:=aG oG;have h2:f.signals[j+1]? =some f.signals[j+1]:=aG oG;unfold tV;rw[getD_some h1,getD_some h2];exact Uj j _ _ oG h1 h2
 rintro s ⟨hg,e4⟩;rw[e4];refine⟨_,hg,ao ?_⟩;refine SS ?_;exact ab (ax rfl rfl)
section
variable{f:aA}{hd:D}(ht:Tr hd)(dB:hd.one=true)
include ht dB
theorem L6{x:a7}:PCall prog 220 [.agg (bZ f hd),.agg (a9 x)] (B (lm f x)):=by
 have bW:∀ {r k:Int},PCall prog 215 [.agg (bZ f hd),I r,U8 k] (B (bq f r k)):=fun {r k}=>bW ht dB;have uL:∀ {l:List Int},PCall prog 217 [.agg (bZ f hd),aB l] (B (gC f.aj l)):=fun {l}=>uL ht dB;refine bc afq (.cons (.agg (vO ht f)) (.cons (.agg (mg x)) .nil)) (Tr.s _) ?_;rw[afr];refine aw ?_;refine au ?_;refine ab (aI (bw [(0,bZ f hd,208),(1,a9 x,66)] eH (l:=[(2,.pt (bZ f hd)),(3,.pt (a9 x))]) eH) (aC (ao ?_)));refine af ?_;refine ab (l8 ?_);refine ew (fun s=>Ghost prog s ⟨az [(2,.pt (bZ f hd)),(3,.pt (a9 x)),(6,U8 x.op),(7,B (aN [30,31,32,33,34] x.op))],fun _=>none,2⟩) (ao ?_) fun s hg=>⟨_,hg,?_⟩
 .refine af ?_;refine ab (av rfl (fun h=>bj (aq ⟨rfl,rfl,rfl,cT h oC,trivial⟩)) fun C=>ao ?_);refine af ?_;refine ab (av rfl (fun h=>bj (aq ⟨rfl,rfl,rfl,cT h oC,trivial⟩)) fun J=>ao ?_);refine af ?_;refine ab (av rfl (fun h=>bj (aq ⟨rfl,rfl,rfl,cT h oC,trivial⟩)) fun U=>ao ?_);refine af ?_;refine ab (av rfl (fun h=>bj (aq ⟨rfl,rfl,rfl,cT h oC,trivial⟩)) fun X=>lM ?_);refine af ?_;refine ab (aq ⟨rfl,rfl,rfl,?_,trivial⟩);show D.s (.bool (x.op==34))=_;simp only[aN,List.any_cons,List.any_nil,C,J,U,X,Bool.false_or,Bool.or_false]
 refine av rfl (fun h0=>ao ?_) fun h0=>ao ?_
 .have cu:PCall prog 214 [.agg (a9 x),S ⟨#[116,97,98]⟩] (B (bY x [116,97,98])):=cu oC;refine SS ?_;refine cl cu ?_;refine aJ ?_;refine gc bW ?_;refine aV ?_;refine gc bW ?_;refine aV ?_;refine gc bW ?_;refine af ?_;refine ab (aT (bH (aL (ax (d:=.s (.bool _)) rfl ?_))));have e:lm f x=(bY x [116,97,98]&&(bq f x.to 119&&(bq f x.a 119&&bq f x.b 119))):=by rw[lm,if_pos h0]
  rw[e];simp only[gS,Bool.and_assoc,aR]
 refine af ?_;refine ab (av rfl (fun h1=>ao ?_) fun h1=>ao ?_)
 .have cu:PCall prog 214 [.agg (a9 x),S ⟨#[97,98]⟩] (B (bY x [97,98])):=cu oC;refine SS ?_;refine cl cu ?_;refine aJ ?_;refine gc bW ?_;refine aV ?_;refine gc bW ?_;refine af ?_;refine ab (aT (bH (aL (ax (d:=.s (.bool _)) rfl ?_))));have e:lm f x=(bY x [97,98]&&(bq f x.a 114&&bq f x.b 118)):=by rw[lm,if_neg (by rw[h0];decide),if_pos (by simpa using h1)]
  rw[e];simp only[gS,Bool.and_assoc,aR]
 have h1:¬ x.op=35:=by simpa using h1
 refine af ?_;refine ab (av rfl (fun h2=>ao ?_) fun h2=>ao ?_)
 .have cu:PCall prog 214 [.agg (a9 x),S ⟨#[116,97]⟩] (B (bY x [116,97])):=cu oC;refine SS ?_;refine cl cu ?_;refine aJ ?_;refine gc bW ?_;refine aV ?_;refine gc bW ?_;refine af ?_;refine ab (aT (bH (aL (ax (d:=.s (.bool _)) rfl ?_))));have e:lm f x=(bY x [116,97]&&(bq f x.to 118&&bq f x.a 114)):=by rw[lm,if_neg (by rw[h0];decide),if_neg h1,if_pos (by simpa using h2)]
  rw[e];simp only[gS,Bool.and_assoc,aR]
 have h2:¬ x.op=36:=by simpa using h2
 refine af ?_;refine ab (av rfl (fun h3=>ao ?_) fun h3=>ao ?_)
 .have cu:PCall prog 214 [.agg (a9 x),S ⟨#[116,97,98]⟩] (B (bY x [116,97,98])):=cu oC;refine SS ?_;refine cl cu ?_;refine aJ ?_;refine gc bW ?_;refine aV ?_;refine gc bW ?_;refine aV ?_;refine gc bW ?_;refine af ?_;refine ab (aT (bH (aL (ax (d:=.s (.bool _)) rfl ?_))));have e:lm f x=(bY x [116,97,98]&&(bq f x.to 118&&(bq f x.a 114&&bq f x.b 119))):=by rw[lm,if_neg (by rw[h0];decide),if_neg h1,if_neg h2,if_pos (by simpa using h3)]
  rw[e];simp only[gS,Bool.and_assoc,aR]
 have h3:¬ x.op=37:=by simpa using h3
 refine af ?_;refine ab (av rfl (fun h4=>ao ?_) fun h4=>lL (ao ?_))
 .have cu:PCall prog 214 [.agg (a9 x),S ⟨#[97,98,108]⟩] (B (bY x [97,98,108])):=cu oC;refine SS ?_;refine cl cu ?_;refine aJ ?_;refine gc bW ?_;refine aV ?_;refine gc bW ?_;refine aE ?_;refine af ?_;refine gc uL ?_;refine af ?_;refine ab (aT (bH (aL (ax (d:=.s (.bool _)) rfl ?_))));have e:lm f x=(bY x [97,98,108]&&(bq f x.a 114&&(bq f x.b 119&&(aR x.args.length 1&&gC f.aj x.args)))):=by rw[lm,if_neg (by rw[h0];decide),if_neg h1,if_neg h2,if_neg h3,if_pos (by simpa using h4)]
  rw[e];simp only[gS,Bool.and_assoc,aR];rfl
 have h4:¬ x.op=38:=by simpa using h4
 refine SS ?_;refine ab (ax (d:=.s (.bool _)) rfl ?_);rw[lm,if_neg (by rw[h0];decide),if_neg h1,if_neg h2,if_neg h3,if_neg h4]
end
theorem tc{f:aA}{L:List (List Int)}{b:Nat}{A:List Int}{x:a7}(hb:L[b]? =some A)(hl:f.aW.length<=60)(hs:∀ k∈f.aW,k=1\/k=2)(hL:L.length<=100000):
 PCall prog 171 [.agg (bZ f (bG L)),.agg (a9 x),I b] (B (dX f b A.length x)):=by
 have ht:=y4 L;have dB:(bG L).one=true:=rfl;have bW:∀ {r k:Int},PCall prog 215 [.agg (bZ f (bG L)),I r,U8 k] (B (bq f r k)):=fun {r k}=>bW ht dB;have zN:∀ {a b:Int},PCall prog 216 [.agg (bZ f (bG L)),I a,I b] (B (j9 f a b)):=fun {a b}=>zN ht dB;have uL:∀ {l:List Int},PCall prog 217 [.agg (bZ f (bG L)),aB l] (B (gC f.aj l)):=fun {l}=>uL ht dB;have Ht:∀ {n r:Int},PCall prog 218 [.agg (bZ f (bG L)),I n,I r] (B (my f.aj f.aW r n)):=fun {n r}=>Ht ht dB hl hs;have gJ:∀ {n a b:Int},PCall prog 212 [I n,I a,I b] (B (cY n a b)):=fun {n a b}=>gJ;have aZ:∀ a∈[D.agg (bZ f (bG L)),.agg (a9 x),I b],Tr a:=.cons (.agg (vO ht f)) (.cons (.agg (mg x)) (.cons (.s _) .nil));refine m8 Uk.he aZ fun fF=>?_;have hlen:x.args.length<=maxLen:=((fF _ (List.mem_cons_of_mem _ (List.mem_cons_self ..))).agg (aB x.args) (by simp[a9])).sl.1;unfold maxLen at hlen;refine bc Uk aZ (Tr.s _) ?_;rw[afs];refine aw ?_;refine au ?_;refine ab (aI (bw [(0,bZ f (bG L),208),(1,a9 x,66)] eH (l:=[(2,I b),(3,.pt (bZ f (bG L))),(4,.pt (a9 x))]) eH) (aC (ao ?_)));refine af ?_;refine ab (l8 ?_);refine ws ?_;refine af ?_;refine ab (av rfl (fun h0=>?_) fun h0=>?_)
 .refine ws ?_;have cu:PCall prog 214 [.agg (a9 x),S ⟨#[116,110]⟩] (B (bY x [116,110])):=cu oC;refine SS ?_;refine cl cu ?_;refine aJ ?_;refine gc bW ?_;refine aJ ?_;refine gc gJ ?_;refine af ?_;refine ab (aT (bH (aL (ax (d:=.s (.bool _)) rfl ?_))));have e:dX f b A.length x=(bY x [116,110]&&(bq f x.to 119&&cY x.n (-1000000000) 1000000000)):=by rw[dX,if_pos (by simpa using h0)]
  rw[e];simp only[gS,Bool.and_assoc,aR]
 have h0:¬ x.op=1:=by simpa using h0
 refine ws ?_;refine af ?_;refine ab (av rfl (fun h1=>?_) fun h1=>?_)
 .refine ws ?_;have cu:PCall prog 214 [.agg (a9 x),S ⟨#[116,97]⟩] (B (bY x [116,97])):=cu oC;refine SS ?_;refine cl cu ?_;refine bK ?_;refine gc zN ?_;refine af ?_;refine ab (aT (bH (aL (ax (d:=.s (.bool _)) rfl ?_))));have e:dX f b A.length x=(bY x [116,97]&&j9 f x.to x.a):=by rw[dX,if_neg h0,if_pos (by simpa using h1)]
  rw[e];simp only[gS,Bool.and_assoc,aR]
 have h1:¬ x.op=2:=by simpa using h1
 refine ew (fun s=>Ghost prog s ⟨az [(2,I b),(3,.pt (bZ f (bG L))),(4,.pt (a9 x)),(9,U8 x.op),(37,B (aN [3,4,6,7] x.op))],fun _=>none,2⟩) (ao ?_) fun s hg=>⟨_,hg,?_⟩
 .refine af ?_;refine ab (av rfl (fun h=>bj (aq ⟨rfl,rfl,rfl,rfl,cT h oC,trivial⟩)) fun e3=>ao ?_);refine af ?_;refine ab (av rfl (fun h=>bj (aq ⟨rfl,rfl,rfl,rfl,cT h oC,trivial⟩)) fun e4=>ao ?_);refine af ?_;refine ab (av rfl (fun h=>bj (aq ⟨rfl,rfl,rfl,rfl,cT h oC,trivial⟩)) fun e6=>lM ?_);refine af ?_;refine ab (aq ⟨rfl,rfl,rfl,rfl,?_,trivial⟩);show D.s (.bool (x.op==7))=_;simp only[aN,List.any_cons,List.any_nil,e3,e4,e6,Bool.false_or,Bool.or_false]
 refine av rfl (fun h2=>ao ?_) fun h2=>?_
 .have cu:PCall prog 214 [.agg (a9 x),S ⟨#[116,97,98]⟩] (B (bY x [116,97,98])):=cu oC;refine SS ?_;refine cl cu ?_;refine aJ ?_;refine gc bW ?_;refine aV ?_;refine gc bW ?_;refine aV ?_;refine gc bW ?_;refine af ?_;refine ab (aT (bH (aL (ax (d:=.s (.bool _)) rfl ?_))));have e:dX f b A.length x=(bY x [116,97,98]&&(bq f x.to 119&&(bq f x.a 119&&bq f x.b 119))):=by rw[dX,if_neg h0,if_neg h1,if_pos h2]
  rw[e];simp only[gS,Bool.and_assoc,aR]
 refine ws ?_;refine af ?_;refine ab (av rfl (fun h3=>?_) fun h3=>?_)
 .refine ws ?_;have cu:PCall prog 214 [.agg (a9 x),S ⟨#[116,97,98]⟩] (B (bY x [116,97,98])):=cu oC;refine SS ?_;refine cl cu ?_;refine aJ ?_;refine gc bW ?_;refine dk ?_;refine gc zN ?_;refine af ?_;refine ab (aT (bH (aL (ax (d:=.s (.bool _)) rfl ?_))));have e:dX f b A.length x=(bY x [116,97,98]&&(bq f x.to 119&&j9 f x.a x.b)):=by rw[dX,if_neg h0,if_neg h1,if_neg (by rw[h2];decide),if_pos (by simpa using h3)]
  rw[e];simp only[gS,Bool.and_assoc,aR]
 have h3:¬ x.op=5:=by simpa using h3
 refine ws ?_;refine af ?_;refine ab (av rfl (fun h4=>?_) fun h4=>?_)
 .refine ws ?_;have cu:PCall prog 214 [.agg (a9 x),S ⟨#[116,97]⟩] (B (bY x [116,97])):=cu oC;refine SS ?_;refine cl cu ?_;refine aJ ?_;refine gc bW ?_;refine aV ?_;refine gc bW ?_;refine af ?_;refine ab (aT (bH (aL (ax (d:=.s (.bool _)) rfl ?_))));have e:dX f b A.length x=(bY x [116,97]&&(bq f x.to 119&&bq f x.a 119)):=by rw[dX,if_neg h0,if_neg h1,if_neg (by rw[h2];decide),if_neg h3,if_pos (by simpa using h4)]
  rw[e];simp only[gS,Bool.and_assoc,aR]
 have h4:¬ x.op=8:=by simpa using h4
 refine ws ?_;refine af ?_;refine ab (av rfl (fun h5=>?_) fun h5=>?_)
 .refine ws ?_;have cu:PCall prog 214 [.agg (a9 x),S ⟨#[116,110]⟩] (B (bY x [116,110])):=cu oC;refine SS ?_;refine cl cu ?_;refine aJ ?_;refine gc bW ?_;refine aJ ?_;refine gc gJ ?_;refine af ?_;refine ab (aT (bH (aL (ax (d:=.s (.bool _)) rfl ?_))));have e:dX f b A.length x=(bY x [116,110]&&(bq f x.to 114&&cY x.n 0 1)):=by rw[dX,if_neg h0,if_neg h1,if_neg (by rw[h2];decide),if_neg h3,if_neg h4,if_pos (by simpa using h5)]
  rw[e];simp only[gS,Bool.and_assoc,aR]
 have h5:¬ x.op=9:=by simpa using h5
 refine ws ?_;refine af ?_;refine ab (av rfl (fun C=>?_) fun C=>?_)
 .refine ws ?_;have cu:PCall prog 214 [.agg (a9 x),S ⟨#[116,110,108]⟩] (B (bY x [116,110,108])):=cu oC;refine SS ?_;refine cl cu ?_;refine aJ ?_;refine gc bW ?_;refine aJ ?_;refine gc gJ ?_;refine aV ?_;refine gc gJ ?_;refine aV ?_;refine gc uL ?_;refine af ?_;refine ab (aT (bH (aL (ax (d:=.s (.bool _)) rfl ?_))));have e:dX f b A.length x=(bY x [116,110,108]&&(bq f x.to 114&&(cY x.n 0 5&&(cY x.args.length 1 6&&gC f.aj x.args)))):=by rw[dX,if_neg h0,if_neg h1,if_neg (by rw[h2];decide),if_neg h3,if_neg h4,if_neg h5,if_pos (by simpa using C)]
  rw[e];simp only[gS,Bool.and_assoc,aR]
 have C:¬ x.op=10:=by simpa using C
 refine ws ?_;refine af ?_;refine ab (av rfl (fun J=>?_) fun J=>?_)
 .refine ws ?_;have cu:PCall prog 214 [.agg (a9 x),S ⟨#[116,97,110]⟩] (B (bY x [116,97,110])):=cu oC;refine SS ?_;refine cl cu ?_;refine aJ ?_;refine gc bW ?_;refine aV ?_;refine gc bW ?_;refine aJ ?_;refine gc gJ ?_;refine af ?_;refine ab (aT (bH (aL (ax (d:=.s (.bool _)) rfl ?_))));have e:dX f b A.length x=(bY x [116,97,110]&&(bq f x.to 118&&(bq f x.a 114&&cY x.n 0 5))):=by rw[dX,if_neg h0,if_neg h1,if_neg (by rw[h2];decide),if_neg h3,if_neg h4,if_neg h5,if_neg C,if_pos (by simpa using J)]
  rw[e];simp only[gS,Bool.and_assoc,aR]
 have J:¬ x.op=11:=by simpa using J
 refine ws ?_;refine af ?_;refine ab (av rfl (fun U=>?_) fun U=>?_)
 .refine ws ?_;have cu:PCall prog 214 [.agg (a9 x),S ⟨#[97,98,110]⟩] (B (bY x [97,98,110])):=cu oC;refine SS ?_;refine cl cu ?_;refine aJ ?_;refine gc bW ?_;refine aV ?_;refine gc bW ?_;refine aJ ?_;refine gc gJ ?_;refine af ?_;refine ab (aT (bH (aL (ax (d:=.s (.bool _)) rfl ?_))));have e:dX f b A.length x=(bY x [97,98,110]&&(bq f x.a 114&&(bq f x.b 118&&cY x.n 0 5))):=by rw[dX,if_neg h0,if_neg h1,if_neg (by rw[h2];decide),if_neg h3,if_neg h4,if_neg h5,if_neg C,if_neg J,if_pos (by simpa using U)]
  rw[e];simp only[gS,Bool.and_assoc,aR]
 have U:¬ x.op=12:=by simpa using U
 refine ew (fun s=>Ghost prog s ⟨az [(2,I b),(3,.pt (bZ f (bG L))),(4,.pt (a9 x)),(9,U8 x.op),(180,B (aN [13,14] x.op))],fun _=>none,2⟩) (ao ?_) fun s hg=>⟨_,hg,?_⟩
 .refine af ?_;refine ab (av rfl (fun h=>bj (aq ⟨rfl,rfl,rfl,rfl,cT h oC,trivial⟩)) fun wL=>lM ?_);refine af ?_;refine ab (aq ⟨rfl,rfl,rfl,rfl,?_,trivial⟩);show D.s (.bool (x.op==14))=_;simp only[aN,List.any_cons,List.any_nil,wL,Bool.false_or,Bool.or_false]
 refine av rfl (fun h9=>ao ?_) fun h9=>?_
 .have cu:PCall prog 214 [.agg (a9 x),S ⟨#[116,97]⟩] (B (bY x [116,97])):=cu oC;refine SS ?_;refine cl cu ?_;refine aJ ?_;refine gc bW ?_;refine aV ?_;refine gc bW ?_;refine af ?_;refine ab (aT (bH (aL (ax (d:=.s (.bool _)) rfl ?_))));have e:dX f b A.length x=(bY x [116,97]&&(bq f x.to 119&&bq f x.a 114)):=by rw[dX,if_neg h0,if_neg h1,if_neg (by rw[h2];decide),if_neg h3,if_neg h4,if_neg h5,if_neg C,if_neg J,if_neg U,if_pos h9]
  rw[e];simp only[gS,Bool.and_assoc,aR]
 refine ws ?_;refine af ?_;refine ab (av rfl (fun X=>?_) fun X=>?_)
 .refine ws ?_;have cu:PCall prog 214 [.agg (a9 x),S ⟨#[97]⟩] (B (bY x [97])):=cu oC;refine SS ?_;refine cl cu ?_;refine aJ ?_;refine gc bW ?_;refine af ?_;refine ab (aT (bH (aL (ax (d:=.s (.bool _)) rfl ?_))));have e:dX f b A.length x=(bY x [97]&&bq f x.a 119):=by rw[dX,if_neg h0,if_neg h1,if_neg (by rw[h2];decide),if_neg h3,if_neg h4,if_neg h5,if_neg C,if_neg J,if_neg U,if_neg (by rw[h9];decide),if_pos (by simpa using X)]
  rw[e];simp only[gS,Bool.and_assoc,aR]
 have X:¬ x.op=15:=by simpa using X
 refine ws ?_;refine af ?_;refine ab (av rfl (fun tG=>?_) fun tG=>?_)
 .refine ws ?_;have cu:PCall prog 214 [.agg (a9 x),S ⟨#[97]⟩] (B (bY x [97])):=cu oC;refine SS ?_;refine cl cu ?_;refine aJ ?_;refine gc bW ?_;refine af ?_;refine ab (aT (bH (aL (ax (d:=.s (.bool _)) rfl ?_))));have e:dX f b A.length x=(bY x [97]&&bq f x.a 105):=by rw[dX,if_neg h0,if_neg h1,if_neg (by rw[h2];decide),if_neg h3,if_neg h4,if_neg h5,if_neg C,if_neg J,if_neg U,if_neg (by rw[h9];decide),if_neg X,if_pos (by simpa using tG)]
  rw[e];simp only[gS,Bool.and_assoc,aR]
 have tG:¬ x.op=16:=by simpa using tG
 refine ws ?_;refine af ?_;refine ab (av rfl (fun vj=>?_) fun vj=>?_)
 .refine ws ?_;have cu:PCall prog 214 [.agg (a9 x),S ⟨#[116,110]⟩] (B (bY x [116,110])):=cu oC;refine SS ?_;refine cl cu ?_;refine bK ?_;refine gc Ht ?_;refine af ?_;refine ab (aT (bH (aL (ax (d:=.s (.bool _)) rfl ?_))));have e:dX f b A.length x=(bY x [116,110]&&my f.aj f.aW x.to x.n):=by rw[dX,if_neg h0,if_neg h1,if_neg (by rw[h2];decide),if_neg h3,if_neg h4,if_neg h5,if_neg C,if_neg J,if_neg U,if_neg (by rw[h9];decide),if_neg X,if_neg tG,if_pos (by simpa using vj)]
  rw[e];simp only[gS,Bool.and_assoc,aR]
 have vj:¬ x.op=17:=by simpa using vj
 refine ws ?_;refine af ?_;refine ab (av rfl (fun wQ=>?_) fun wQ=>?_)
 .refine ws ?_;have cu:PCall prog 214 [.agg (a9 x),S ⟨#[97,110]⟩] (B (bY x [97,110])):=cu oC;refine SS ?_;refine cl cu ?_;refine bK ?_;refine gc Ht ?_;refine af ?_;refine ab (aT (bH (aL (ax (d:=.s (.bool _)) rfl ?_))));have e:dX f b A.length x=(bY x [97,110]&&my f.aj f.aW x.a x.n):=by rw[dX,if_neg h0,if_neg h1,if_neg (by rw[h2];decide),if_neg h3,if_neg h4,if_neg h5,if_neg C,if_neg J,if_neg U,if_neg (by rw[h9];decide),if_neg X,if_neg tG,if_neg vj,if_pos (by simpa using wQ)]
  rw[e];simp only[gS,Bool.and_assoc,aR]
 have wQ:¬ x.op=18:=by simpa using wQ
 refine ws ?_;refine af ?_;refine ab (av rfl (fun Ft=>?_) fun Ft=>?_)
 .have cu:PCall prog 214 [.agg (a9 x),S ⟨#[116,108]⟩] (B (bY x [116,108])):=cu oC;have hv:dX f b A.length x=(!aR b 0&&(bY x [116,108]&&(bq f x.to 118&&(aR x.args.length A.length&&x.args.all (j9 f x.to))))):=by rw[dX,if_neg h0,if_neg h1,if_neg (by rw[h2];decide),if_neg h3,if_neg h4,if_neg h5,if_neg C,if_neg J,if_neg U,if_neg (by rw[h9];decide),if_neg X,if_neg tG,if_neg vj,if_neg wQ,if_pos (by simpa using Ft)]
  rw[hv];clear hv;have K7:=cu;have K8:= @bW x.to 118;have aft:= @zN x.to;generalize bY x [116,108]=lv at K7 ⊢;generalize bq f x.to 118=iv at K8 ⊢;refine aC (c8 Yl ?_);have cu:=K7;have bW:=K8;by_cases kI:b=0
  .have cM:((b:Int)==0)=true:=by simp[kI]
   have e0:aR b 0=true:=by simp[aR,kI]
   rw[e0];refine aJ ?_;refine gc cu ?_;refine bK ?_;refine gc bW ?_;refine aE ?_;refine aV ?_;refine a8 bf (cH rfl (fun hp=>?_) fun hp=>(by cases hp));refine aC (ao ?_);refine SS ?_;refine ab (cK (bH (aL (ax (d:=B false) rfl ?_))));rfl
  have cM:((b:Int)==0)=false:=by simp[kI]
  have e0:aR b 0=false:=by simp[aR,kI]
  rw[e0];refine aJ ?_;refine gc cu ?_;refine bK ?_;refine gc bW ?_;refine aE ?_;refine aV ?_;refine a8 bf (cH rfl (fun hp=>?_) fun hp=>b7 ?_)
  .refine aC (ao ?_);refine SS ?_;refine ab (cK (bH (aL (ax (d:=B false) rfl ?_))))
   have:(lv&&(iv&&aR x.args.length A.length))=false:=by
    revert hp;cases lv<;>cases iv<;>simp[aR]
   revert this;generalize x.args.all (j9 f x.to)=q;generalize aR x.args.length A.length=r;cases lv<;>cases iv<;>cases r<;>simp
  have s4:lv=true/\iv=true/\aR x.args.length A.length=true:=by
   revert hp;cases lv<;>cases iv<;>simp[aR]
  obtain⟨rfl,rfl,e1⟩:=s4;rw[e1];show AW _ _ _ _ (blockQ _ (seqQ _ (retQ _ _ (fun d _=>d=B (x.args.all (j9 f x.to)))))) _;clear K7 K8 cu bW hp e1 e0 cM;refine aC (aw ?_);refine SS ?_
  refine ab (bV (fun s=>Ghost prog s ⟨az [],fun _=>none,2⟩/\∀ (j:Nat) y,x.args[j]? =some y->j9 f x.to y=true) (cI (α:=Nat) (fun k=>⟨az [(3,.pt (bZ f (bG L))),(4,.pt (a9 x)),(7,I k)],fun _=>none,2⟩)
   (fun k=>k<=x.args.length/\∀ j y,j<k->x.args[j]? =some y->j9 f x.to y=true) (fun k=>x.args.length - k) 0 (aq eH) ⟨oG,fun j y hj=>by omega⟩ ?_) ?_)
  .rintro k ⟨hk,hinv⟩;refine aV ?_;refine ab ⟨_,rfl,fun h=>?_,fun h=>?_⟩
   .have ap:k<x.args.length:=by simpa using h
    have hx:x.args[k]? =some x.args[k]:=aG ap;generalize x.args[k]=y at hx;have zN:= @aft y;refine c8 Ym ?_;refine bI ?_;refine cl zN ?_;refine SS ?_;refine a8 bf (av rfl (fun hp=>?_) fun hp=>?_)
    .refine ws ?_;refine SS ?_;refine ab (aT (bR (aL (bH (aL (ax (d:=B false) rfl ?_))))));have:x.args.all (j9 f x.to)=false:=List.all_eq_false.2 ⟨y,cx hx,by simpa using hp⟩;rw[this]
    .refine ct ?_;refine au ?_;refine ab (aK (k+1) (aq eH) ⟨oG,fun j z hj hz=>?_⟩ oG);by_cases e:j=k
     .subst e;rw[hx] at hz;cases hz;simpa using hp
     .exact hinv j z oG hz
   .have bh:¬ k<x.args.length:=by simpa using h
    exact⟨.forget _ _ _ _ fun _=>.inr rfl,fun j y hy=>hinv j y (by have:=(bL.1 hy).1;omega) hy⟩
  .rintro s ⟨hg,bQ⟩;refine⟨_,hg,ao ?_⟩;refine SS ?_;refine ab (aT (bH (aL (ax (d:=B true) rfl ?_))))
   have:x.args.all (j9 f x.to)=true:=bJ.2 fun y hy=>by
    obtain⟨j,hj⟩:=dt hy;exact bQ j y hj
   rw[this]
 have Ft:¬ x.op=19:=by simpa using Ft
 refine lL (ao ?_);refine SS ?_;refine ab (ax (d:=.s (.bool _)) rfl ?_);rw[dX,if_neg h0,if_neg h1,if_neg (by rw[h2];decide),if_neg h3,if_neg h4,if_neg h5,if_neg C,if_neg J,if_neg U,if_neg (by rw[h9];decide),if_neg X,if_neg tG,if_neg vj,if_neg wQ,if_neg Ft]
section
variable{f:aA}{hd:D}(ht:Tr hd)(dB:hd.one=true)
include ht dB
theorem EB{x:Argus.End}(hw:∀ w∈x.aH,w.name.size<=maxLen)(hn:f.blocks.length<=1200):PCall prog 221 [.agg (bZ f hd),.agg (bd x)] (B (nj f x)):=by
 have gW:∀ {b:Int},PCall prog 170 [.agg (bZ f hd),I b] (B (cr f b)):=fun {b}=>gW ht dB hn;have aZ:∀ a∈[D.agg (bZ f hd),.agg (bd x)],Tr a:=.cons (.agg (vO ht f)) (.cons (.agg (jF x)) .nil);refine bc afu aZ (Tr.s _) ?_;rw[afv];refine aw ?_;refine au ?_;refine ab (aI (bw [(0,bZ f hd,208),(1,bd x,69)] eH (l:=[(2,.pt (bZ f hd)),(3,.pt (bd x))]) eH) (aC (ao ?_)));have hh:nj f x=(GB f x.aH&&(decide ((x.aH.length:Int)<=7)&&(decide (x.cP= -1)||cr f x.cP))):=rfl;rw[hh];clear hh;generalize yK:cr f x.cP=bo;have X:PCall prog 170 [.agg (bZ f hd),I x.cP] (B bo):=yK▸gW;clear yK;have U:= @gW;clear gW;have gW:=X;refine aE ?_;refine au ?_;refine gc gW ?_;refine au ?_;refine ab (cH rfl (fun h=>?_) fun h=>b7 (aC (aw ?_)))
 .refine aC (ao ?_);refine SS ?_;refine ab (cK (ax (d:=B false) rfl ?_))
  have h2:(decide ((x.aH.length:Int)<=7)&&(decide (x.cP= -1)||bo))=false:=by
   revert h;cases bo<;>simp<;>grind
  rw[h2,Bool.and_false]
 have h2:(decide ((x.aH.length:Int)<=7)&&(decide (x.cP= -1)||bo))=true:=by
  revert h;cases bo<;>simp<;>grind
 have h7:x.aH.length<=7:=by
  rw[aO,decide_eq_true_eq] at h2;omega
 rw[h2,Bool.and_true];clear h h2 gW X;refine SS ?_
 refine ab (bV (fun s=>Ghost prog s ⟨az [],fun _=>none,2⟩/\∀ (j:Nat) y,x.aH[j]? =some y->pj f x.aH j y=true) (cI (α:=Nat) (fun k=>⟨az [(2,.pt (bZ f hd)),(3,.pt (bd x)),(5,I k)],fun _=>none,2⟩)
  (fun k=>k<=x.aH.length/\∀ j y,j<k->x.aH[j]? =some y->pj f x.aH j y=true) (fun k=>x.aH.length - k) 0 (aq eH) ⟨oG,fun j y hj=>by omega⟩ ?_) ?_)
 .rintro k ⟨hk,hinv⟩;refine aV ?_;refine ab ⟨_,rfl,fun h=>?_,fun h=>?_⟩
  .have ap:k<x.aH.length:=by simpa using h
   have hx:x.aH[k]? =some x.aH[k]:=aG ap;have oq:=oq (hw _ (bO ap));generalize x.aH[k]=w at hx oq;have J:pj f x.aH k w=(isName w.name&&(cr f w.to&& !(x.aH.take k).any fun v=>v.name.toList==w.name.toList)):=rfl;have gW:= @U w.to;generalize isName w.name=a at oq J;generalize cr f w.to=b at gW J;refine aC (c8 Zy ?_);refine bK ?_;refine cl oq ?_;refine bK ?_;refine bE rfl rfl (xg rfl rfl V.h V.h (Cy) oN) (fun hc=>⟨ak,(xh V.h (Cy) oN)⟩) ?_;refine af ?_;refine gc gW ?_;refine af ?_;refine a8 bf (cH rfl (fun hp=>?_) fun hp=>b7 (aw ?_))
   .refine aC (ao ?_);refine SS ?_;refine ab (cK (bR (aL (ax (d:=B false) rfl ?_))))
    have:pj f x.aH k w=false:=by
     rw[J];revert hp;cases a<;>cases b<;>simp
    rw[It hx this]
   have r8:a=true/\b=true:=by revert hp;cases a<;>cases b<;>simp
   obtain⟨rfl,rfl⟩:=r8;refine SS ?_
   refine ab (cI (α:=Nat) (fun q=>⟨az [(2,.pt (bZ f hd)),(3,.pt (bd x)),(5,I k),(6,I q)],fun _=>none,2⟩)
    (fun q=>q<=k/\∀ j y,j<q->x.aH[j]? =some y->(y.name.toList==w.name.toList)=false) (fun q=>k - q) 0 (aq eH) ⟨oG,fun j y hj=>by omega⟩ ?_)
   rintro q ⟨hq,oE⟩;refine au ?_;refine ab ⟨_,rfl,fun h=>?_,fun h=>?_⟩
   .have tA:q<k:=by simpa using h
    have hy:x.aH[q]? =some x.aH[q]:=aG oG;generalize x.aH[q]=y at hy;refine c8 Yn ?_;refine aE ?_;refine au ?_;refine aF (Kb rfl rfl) ak trivial ?_;refine a8 bf (av rfl (fun hp=>?_) fun hp=>?_)
    .refine ws ?_;refine SS ?_;refine ab (aT (bR (bR (aL (ax (d:=B false) rfl ?_)))))
     have:pj f x.aH k w=false:=by
      rw[J,List.any_eq_true.2 ⟨y,cx (i:=q) (by rw[List.getElem?_take,if_pos tA,hy]),hp⟩];rfl
     rw[It hx this]
    .refine ct ?_;refine au ?_;refine ab (aK (q+1) (aq eH) ⟨oG,fun j z hj C=>?_⟩ oG);by_cases e:j=q
     .subst e;rw[hy] at C;cases C;exact hp
     .exact oE j z oG C
   .have bh:¬ q<k:=by simpa using h
    have:q=k:=by omega
    subst this;show AOps _ _ _ _ _ _ _ _ _;refine au ?_;refine ab (aK (q+1) (aq eH) ⟨oG,fun j z hj C=>?_⟩ oG);by_cases e:j=q
    .subst e;rw[hx] at C;cases C;rw[J]
     have:((x.aH.take j).any fun v=>v.name.toList==w.name.toList)=false:=List.any_eq_false.2 fun v hv=>by
      obtain⟨i,hi⟩:=dt hv;have pE:i<j:=by have:=(bL.1 hi).1;simp at this;omega
      rw[List.getElem?_take,if_pos pE] at hi;rw[oE i v pE hi];simp
     rw[this];rfl
    .exact hinv j z oG C
  .have bh:¬ k<x.aH.length:=by simpa using h
   exact⟨.forget _ _ _ _ fun _=>.inr rfl,fun j y hy=>hinv j y (by have:=(bL.1 hy).1;omega) hy⟩
 .rintro s ⟨hg,bQ⟩;refine⟨_,hg,ao ?_⟩;refine SS ?_;refine ab (ax (d:=B true) rfl ?_);rw[NO bQ]
theorem Hu{x:Argus.End}(Ib:x.name.size<=maxLen)(hw:∀ w∈x.aH,w.name.size<=maxLen)(hn:f.blocks.length<=1200):PCall prog 172 [.agg (bZ f hd),.agg (bd x)] (B (gL f x)):=by
 have gW:∀ {b:Int},PCall prog 170 [.agg (bZ f hd),I b] (B (cr f b)):=fun {b}=>gW ht dB hn;have bW:∀ {r k:Int},PCall prog 215 [.agg (bZ f hd),I r,U8 k] (B (bq f r k)):=fun {r k}=>bW ht dB;have uL:∀ {l:List Int},PCall prog 217 [.agg (bZ f hd),aB l] (B (gC f.aj l)):=fun {l}=>uL ht dB;have L6:PCall prog 220 [.agg (bZ f hd),.agg (a9 x.ins)] (B (lm f x.ins)):=L6 ht dB;have EB:=EB ht dB hw hn;have zM:=zM Ib;have oq:=oq Ib;have aZ:∀ a∈[D.agg (bZ f hd),.agg (bd x)],Tr a:=.cons (.agg (vO ht f)) (.cons (.agg (jF x)) .nil);refine bc afx aZ (Tr.s _) ?_;rw[afy];refine ws ?_;refine au ?_;refine ab (aw ?_);refine au ?_;refine cJ (gq (cs':=aD _) rfl rfl rfl rfl) ak (dQ V.h V.h (by first|(simp;done)|exact⟨rfl,bA rfl⟩|(simp;omega)) (by rfl)) ?_;refine ab (aI (bw [(0,bZ f hd,208),(1,bd x,69),(2,aD f,26)] eH (l:=[(2,.pt (bZ f hd)),(3,.pt (bd x)),(5,.pt (aD f))]) eH) (aC (ao ?_)));refine af ?_;refine ab (l8 ?_);refine ws ?_;refine af ?_;refine ab (av rfl (fun h1=>?_) fun h1=>?_)
 .have h1:x.kind=1:=by simpa using h1
  have eO:PCall prog 219 [.agg (bd x),S ⟨#[116]⟩] (B (dO x [116])):=eO oC;refine ws ?_;refine SS ?_;refine cl eO ?_;refine aJ ?_;refine gc gW ?_;refine af ?_;refine ab (aT (bH (aL (ax (d:=.s (.bool _)) rfl ?_))));have e:gL f x=(dO x [116]&&cr f x.to):=by rw[gL,if_pos h1]
  rw[e];simp only[gS,zn,Bool.and_assoc,aR,ib]
 have h1:¬ x.kind=1:=by simpa using h1
 refine ws ?_;refine af ?_;refine ab (av rfl (fun h2=>?_) fun h2=>?_)
 .have h2:x.kind=2:=by simpa using h2
  have eO:PCall prog 219 [.agg (bd x),S ⟨#[97,116,101]⟩] (B (dO x [97,116,101])):=eO oC;refine ws ?_;refine SS ?_;refine cl eO ?_;refine aJ ?_;refine gc bW ?_;refine aV ?_;refine gc gW ?_;refine aV ?_;refine gc gW ?_;refine af ?_;refine ab (aT (bH (aL (ax (d:=.s (.bool _)) rfl ?_))));have e:gL f x=(dO x [97,116,101]&&(bq f x.a 119&&(cr f x.to&&cr f x.fS))):=by rw[gL,if_neg h1,if_pos h2]
  rw[e];simp only[gS,zn,Bool.and_assoc,aR,ib]
 have h2:¬ x.kind=2:=by simpa using h2
 refine ws ?_;refine af ?_;refine ab (av rfl (fun h3=>?_) fun h3=>?_)
 .have h3:x.kind=3:=by simpa using h3
  have eO:PCall prog 219 [.agg (bd x),S ⟨#[97]⟩] (B (dO x [97])):=eO oC;have hv:gL f x=if f.iter=true\/f.result=0 then dO x [97]&&aR x.a (-1) else dO x [97]&&(bq f x.a 118&&aR (cD f.aj x.a) f.result):=by rw[gL,if_neg h1,if_neg h2,if_pos h3]
  rw[hv];clear hv;refine aC (ao ?_);refine dk ?_;refine ab (cH rfl (fun h=>?_) fun h=>b7 ?_)
  .have pH:f.iter=true\/f.result=0:=by revert h;cases f.iter<;>simp
   rw[if_pos pH];refine aC (ao ?_);refine SS ?_;refine cl eO ?_;refine bK ?_;refine ab (cK (bH (aL (ax (d:=.s (.bool _)) rfl ?_))));simp only[gS,aR,ib]
  .have pH:¬ (f.iter=true\/f.result=0):=by revert h;cases f.iter<;>simp
   rw[if_neg pH];clear pH h;obtain⟨xk,xa,xb,xt,xe,xn,xi,xs,xw,xo⟩:=x;dsimp only at*
   refine c8 Yo ?_;generalize dO _ [97]=bv at eO;cases bv with
   |false=>
    refine SS ?_;refine cl eO ?_;refine SS ?_;(iterate 4 refine z fun _ _=>?_);refine af ?_;(iterate 9 refine z fun _ _=>?_);refine af ?_;exact a8 bf (aT (bH (aL (ax rfl rfl))))
   |true=>
    have U:= @bW xa 118;cases hv:bq f xa 118 with
    |false=>
     rw[hv] at U;have bW:=U;refine SS ?_;refine cl eO ?_;refine aJ ?_;refine gc bW ?_;refine af ?_;(iterate 9 refine z fun _ _=>?_);refine af ?_;exact a8 bf (aT (bH (aL (ax rfl rfl))))
    |true=>
     rw[hv] at U;have bW:=U;obtain⟨i,hi,rfl⟩:=lE (oX hv);have hx:f.aj[i]? =some f.aj[i]:=aG hi;have Fm:=tQ hx;rw[Fm];generalize f.aj[i]=y at hx;refine SS ?_;refine cl eO ?_;refine aJ ?_;refine gc bW ?_;refine aE ?_;refine aJ ?_;refine a8 bf (aT (bH (aL (ax (d:=.s (.bool _)) rfl ?_))));rfl
 have h3:¬ x.kind=3:=by simpa using h3
 refine ws ?_;refine af ?_;refine ab (av rfl (fun h4=>?_) fun h4=>?_)
 .have h4:x.kind=4:=by simpa using h4
  have eO:PCall prog 219 [.agg (bd x),S ⟨#[110]⟩] (B (dO x [110])):=eO oC;refine ws ?_;refine SS ?_;refine cl eO ?_;refine au ?_;refine gc oq ?_;refine af ?_;refine ab (aT (bH (aL (ax (d:=.s (.bool _)) rfl ?_))));have e:gL f x=(dO x [110]&&isName x.name):=by rw[gL,if_neg h1,if_neg h2,if_neg h3,if_pos h4]
  rw[e];simp only[gS,zn,Bool.and_assoc,aR,ib]
 have h4:¬ x.kind=4:=by simpa using h4
 refine ws ?_;refine af ?_;refine ab (av rfl (fun h5=>?_) fun h5=>?_)
 .have h5:x.kind=5:=by simpa using h5
  have eO:PCall prog 219 [.agg (bd x),S ⟨#[116,105,104]⟩] (B (dO x [116,105,104])):=eO oC;refine ws ?_;refine SS ?_;refine cl eO ?_;refine aJ ?_;refine gc L6 ?_;refine aV ?_;refine gc gW ?_;refine aJ ?_;refine gc EB ?_;refine af ?_;refine ab (aT (bH (aL (ax (d:=.s (.bool _)) rfl ?_))));have e:gL f x=(dO x [116,105,104]&&(lm f x.ins&&(cr f x.to&&nj f x))):=by rw[gL,if_neg h1,if_neg h2,if_neg h3,if_neg h4,if_pos h5]
  rw[e];simp only[gS,zn,Bool.and_assoc,aR,ib]
 have h5:¬ x.kind=5:=by simpa using h5
 refine ws ?_;refine af ?_;refine ab (av rfl (fun C=>?_) fun C=>?_)
 .have C:x.kind=6:=by simpa using C
  have eO:PCall prog 219 [.agg (bd x),S ⟨#[97,116,110,108,104]⟩] (B (dO x [97,116,110,108,104])):=eO oC;refine ws ?_;refine SS ?_;refine cl eO ?_;refine au ?_;refine gc zM ?_;refine aE ?_;refine af ?_;refine gc uL ?_;refine aE ?_;refine gc bW ?_;refine bK ?_;refine gc gW ?_;refine aJ ?_;refine gc EB ?_;refine af ?_;refine ab (aT (bH (aL (ax (d:=.s (.bool _)) rfl ?_))));have e:gL f x=(dO x [97,116,110,108,104]&&(lN x.name&&(decide ((x.args.length:Int)<=6)&&(gC f.aj x.args&&((aR x.a (-1)||bq f x.a 118)&&(cr f x.to&&nj f x)))))):=by rw[gL,if_neg h1,if_neg h2,if_neg h3,if_neg h4,if_neg h5,if_pos C]
  rw[e];simp only[gS,zn,Bool.and_assoc,aR,ib]
 have C:¬ x.kind=6:=by simpa using C
 refine ws ?_;refine af ?_;refine ab (av rfl (fun J=>?_) fun J=>?_)
 .have J:x.kind=7:=by simpa using J
  have eO:PCall prog 219 [.agg (bd x),S ⟨#[97,116,110,108]⟩] (B (dO x [97,116,110,108])):=eO oC;refine ws ?_;refine SS ?_;refine cl eO ?_;refine au ?_;refine gc zM ?_;refine aE ?_;refine af ?_;refine gc uL ?_;refine aV ?_;refine gc bW ?_;refine aV ?_;refine gc gW ?_;refine af ?_;refine ab (aT (bH (aL (ax (d:=.s (.bool _)) rfl ?_))));have e:gL f x=(dO x [97,116,110,108]&&(lN x.name&&(decide ((x.args.length:Int)<=6)&&(gC f.aj x.args&&(bq f x.a 105&&cr f x.to))))):=by rw[gL,if_neg h1,if_neg h2,if_neg h3,if_neg h4,if_neg h5,if_neg C,if_pos J]
  rw[e];simp only[gS,zn,Bool.and_assoc,aR,ib]
 have J:¬ x.kind=7:=by simpa using J
 refine ws ?_;refine af ?_;refine ab (av rfl (fun X=>?_) fun X=>?_)
 .have X:x.kind=8:=by simpa using X
  have eO:PCall prog 219 [.agg (bd x),S ⟨#[97,98,116,101,104]⟩] (B (dO x [97,98,116,101,104])):=eO oC;refine ws ?_;refine SS ?_;refine cl eO ?_;refine aJ ?_;refine gc bW ?_;refine aV ?_;refine gc bW ?_;refine aV ?_;refine gc gW ?_;refine aV ?_;refine gc gW ?_;refine aJ ?_;refine gc EB ?_;refine af ?_;refine ab (aT (bH (aL (ax (d:=.s (.bool _)) rfl ?_))));have e:gL f x=(dO x [97,98,116,101,104]&&(bq f x.a 105&&(bq f x.b 118&&(cr f x.to&&(cr f x.fS&&nj f x))))):=by rw[gL,if_neg h1,if_neg h2,if_neg h3,if_neg h4,if_neg h5,if_neg C,if_neg J,if_pos X]
  rw[e];simp only[gS,zn,Bool.and_assoc,aR,ib]
 have X:¬ x.kind=8:=by simpa using X
 refine ws ?_;refine af ?_;refine ab (av rfl (fun h9=>?_) fun h9=>?_)
 .have h9:x.kind=9:=by simpa using h9
  have eO:PCall prog 219 [.agg (bd x),S ⟨#[97,116]⟩] (B (dO x [97,116])):=eO oC;have hv:gL f x=(dO x [97,116]&&(f.iter&&(bq f x.a 118&&(aR (cD f.aj x.a) f.result&&cr f x.to)))):=by rw[gL,if_neg h1,if_neg h2,if_neg h3,if_neg h4,if_neg h5,if_neg C,if_neg J,if_neg X,if_pos h9]
  rw[hv];clear hv;obtain⟨xk,xa,xb,xt,xe,xn,xi,xs,xw,xo⟩:=x;dsimp only at*
  refine c8 Yp ?_;generalize dO _ [97,116]=bv at eO;have U:= @bW xa 118;have kb:= @gW xt;generalize cr f xt=bb at kb;have gW:=kb;cases bv with
  |false=>
   refine SS ?_;refine cl eO ?_;refine SS ?_;(iterate 2 refine z fun _ _=>?_);refine af ?_;(iterate 4 refine z fun _ _=>?_);refine af ?_;(iterate 9 refine z fun _ _=>?_);refine af ?_;(iterate 4 refine z fun _ _=>?_);refine af ?_;exact a8 bf (aT (bH (aL (ax rfl rfl))))
  |true=>
   obtain⟨fnm,fi,fa,fr,fg,fs,fz,fb⟩:=f;dsimp only at*
   cases fi with
   |false=>
    refine SS ?_;refine cl eO ?_;refine aV ?_;(iterate 4 refine z fun _ _=>?_);refine af ?_;(iterate 9 refine z fun _ _=>?_);refine af ?_;(iterate 4 refine z fun _ _=>?_);refine af ?_;exact a8 bf (aT (bH (aL (ax rfl rfl))))
   |true=>
    cases hv:bq ⟨fnm,true,fa,fr,fg,fs,fz,fb⟩ xa 118 with
    |false=>
     rw[hv] at U;have bW:=U;refine SS ?_;refine cl eO ?_;refine bI ?_;refine gc bW ?_;refine af ?_;(iterate 9 refine z fun _ _=>?_);refine af ?_;(iterate 4 refine z fun _ _=>?_);refine af ?_;exact a8 bf (aT (bH (aL (ax rfl rfl))))
    |true=>
     rw[hv] at U;have bW:=U;obtain⟨i,hi,rfl⟩:=lE (oX hv);have hx:fg[i]? =some fg[i]:=aG hi;have Fm:=tQ hx;rw[Fm];generalize fg[i]=y at hx;cases yN:decide (y=fr) with
     |false=>
      have cM:(y==fr)=false:=by simpa using yN
      refine SS ?_;refine cl eO ?_;refine bI ?_;refine gc bW ?_;refine aE ?_;refine aJ ?_;(iterate 4 refine z fun _ _=>?_);refine af ?_;refine a8 bf (aT (bH (aL (ax (d:=.s (.bool _)) rfl ?_))));simp[aR,yN]
     |true=>
      have cM:(y==fr)=true:=by simpa using yN
      refine SS ?_;refine cl eO ?_;refine bI ?_;refine gc bW ?_;refine aE ?_;refine dk ?_;refine gc gW ?_;refine af ?_;refine a8 bf (aT (bH (aL (ax (d:=.s (.bool _)) rfl ?_))));simp[aR,yN]
 have h9:¬ x.kind=9:=by simpa using h9
 refine lL (ao ?_);refine SS ?_;refine ab (ax (d:=.s (.bool _)) rfl ?_);rw[gL,if_neg h1,if_neg h2,if_neg h3,if_neg h4,if_neg h5,if_neg C,if_neg J,if_neg X,if_neg h9]
end
theorem gB{f:aA}{b:Nat}{x:Argus.bB}(hx:f.blocks[b]? =some x)(hw:x.fin.aH.length<=100):PCall prog 76 [.agg (aD f),I b] (aB (p9 x.fin)):=by
 have nE:=nE (x:=x.fin) oG;have U:=yW x.fin;refine bc aix (.cons (.agg (fu f)) (.cons (.s _) .nil)) (dg _) ?_;rw[aiy];refine aw ?_;refine af ?_;refine ab (aI (bw [(0,aD f,26)] eH (l:=[(1,I b),(2,.pt (aD f))]) eH) (aw ?_));refine SS ?_;refine ab ⟨_,(Ghost.nilrow _ _ _ 5 3 rfl).trans (bw [(1,[],3)] ⟨up_same _ _ _,trivial⟩ (l:=[(1,I b),(2,.pt (aD f)),(5,aB [])]) ⟨rfl,rfl,lb (sz:=1) c3 rfl,trivial⟩),ao ?_⟩;unfold p9;generalize dc x.fin=l at nE U;refine bK ?_;refine cl nE ?_;refine SS ?_;refine ab (aC (aw ?_));refine SS ?_
 refine ab (bV (fun s=>Ghost prog s ⟨az [(5,aB (sS l))],fun _=>none,2⟩) (cI (α:=Nat) (fun k=>⟨az [(5,aB (sS (l.take k))),(6,aB l),(7,I k)],fun _=>none,2⟩)
  (fun k=>k<=l.length) (fun k=>l.length - k) 0 (aq eH) oG ?_) ?_)
 .intro k hk;have J:=(CF (l:=l.take k) (z:=[]) .nil).2.2;have C:∀ t,l[k]? =some t->sS (l.take (k+1))=jT (sS (l.take k)) t:=fun t ht=>l7 ht;have X:k=l.length->sS (l.take k)=sS l:=fun e=>by rw[e,List.take_length]
  change (sS (l.take k)).length<=_ at J
  rw[List.length_take,List.length_nil] at J;generalize sS (l.take k)=c at J C X;refine aJ ?_;refine ab ⟨_,rfl,fun h=>?_,fun h=>?_⟩
  .have ap:k<l.length:=by simpa using h
   have hy:l[k]? =some l[k]:=aG ap;have C:=C _ hy;generalize l[k]=t at hy C;have Nc:=Nc (l:=c) (n:=t) oG;refine eZ ?_;refine aV ?_;refine cl Nc ?_;refine SS ?_;refine ab ?_;refine au ?_;refine ab (aK (k+1) (aq ⟨?_,rfl,rfl,trivial⟩) oG oG);rw[C];rfl
  .have bh:¬ k<l.length:=by simpa using h
   rw[<- X oG];exact aq eH
 .intro s hg;refine⟨_,hg,ao ?_⟩;refine af ?_;exact ab (ax rfl rfl)
set_option maxHeartbeats 1000000 in
theorem oK{f:aA}{n:Nat}(hn:f.blocks.length=n)(mO:n<=100000)(hw:∀ b∈f.blocks,b.fin.aH.length<=9)(ht:∀ b∈f.blocks,∀ t∈p9 b.fin,0<=t/\t<n):
 PCall prog 56 [.agg (aD f)] (bG (j6 f.blocks)):=by
 have aZ:∀ a∈[D.agg (aD f)],Tr a:=.cons (.agg (fu f)) .nil;refine bc aiz aZ (y4 _) ?_;rw[aiA];refine aw ?_;refine af ?_;refine ab (aI (bw [(0,aD f,26)] eH (l:=[(1,.pt (aD f))]) eH) (aw ?_));refine aV ?_;have dE:((f.blocks.length:Nat):Int).toNat=n:=hn;refine ab (aI (aP (l:=[(1,.pt (aD f)),(3,.rs 1 0 n)]) (ml:=[(1,.cells (List.replicate n .z) 27)]) ⟨rfl,congrArg (fun k=>D.rs 1 0 k) dE,trivial⟩ ⟨?_,trivial⟩) (aC (aw ?_)))
 .exact congrArg (fun c=>some (Row.cells c 27)) ((congrArg (fun k=>replD k [D.z]) dE).trans (Gi n))
 refine SS ?_
 refine ab (bV (fun s=>∃ m nx ρ,Ghost prog s ⟨az [(3,.rs 1 0 n)],m,nx⟩/\gQ m nx 1 n 27 3 ρ (fun i=>(lO f.blocks n i).map I)) (cI (α:=Nat×Mem×Nat)
  (fun k=>⟨az [(1,.pt (aD f)),(3,.rs 1 0 n),(4,I k.1)],k.2.1,k.2.2⟩)
  (fun k=>k.1<=n/\(∃ ρ,gQ k.2.1 k.2.2 1 n 27 3 ρ (fun i=>(lO f.blocks k.1 i).map I))/\∀ i,(lO f.blocks k.1 i).length<=12*k.1) (fun k=>n - k.1) (0,bm [(1,.cells (List.replicate n .z) 27)],2)
  (aq eH) ⟨Nat.zero_le _,⟨fun _=>0,Jr (show 1<2 by decide) rfl⟩,fun _=>bP _⟩ ?_) ?_)
 .rintro⟨k,m,nx⟩ ⟨hk,⟨ρ,C⟩,hlen⟩;dsimp only at hk C hlen ⊢;have ay:=C.row;have cF:=C.kJ;refine aV ?_;refine ab ⟨_,rfl,fun h=>?_,fun h=>?_⟩
  .have ap:k<n:=by simpa[hn] using h
   have hx:f.blocks[k]? =some f.blocks[k]:=aG oG;have bM:f.blocks[k]∈f.blocks:=bO _;have gB:=gB hx (by have:=hw _ bM;omega);generalize f.blocks[k]=x at hx bM gB
   have cq:lO f.blocks (k+1)=(p9 x.fin).foldl (dz k) (lO f.blocks k):=by
    rw[lO,List.range_succ,List.foldl_append];show C0 f.blocks _ k=_;rw[C0,hx];rfl
   generalize lO f.blocks k=L0 at C hlen ay cq;have dF:=ht x bM;have jA:=Zz x.fin;have Cb:=hw x bM;generalize p9 x.fin=l at gB dF jA cq;refine ws ?_;refine af ?_;refine cl gB ?_;refine SS ?_;refine ab (aw ?_);refine SS ?_
   refine ab (cI (α:=Nat×Mem×Nat)
    (fun j=>⟨az [(1,.pt (aD f)),(3,.rs 1 0 n),(4,I k),(5,aB l),(6,I j.1)],j.2.1,j.2.2⟩)
    (fun j=>j.1<=l.length/\(∃ ρ,gQ j.2.1 j.2.2 1 n 27 3 ρ (fun i=>((l.take j.1).foldl (dz k) L0 i).map I))/\∀ i,((l.take j.1).foldl (dz k) L0 i).length<=12*k+j.1) (fun j=>l.length - j.1) (0,m,nx)
    (aq eH) ⟨Nat.zero_le _,⟨ρ,C⟩,hlen⟩ ?_)
   clear C ay hlen;rintro⟨j,m,nx⟩ ⟨hj,⟨ρ,C⟩,hlen⟩;dsimp only at hj C hlen ⊢;have ay:=C.row;have cF:=C.kJ;have X:∀ t,l[j]? =some t->(l.take (j+1)).foldl (dz k) L0=dz k ((l.take j).foldl (dz k) L0) t:=fun t ht=>l7 ht;have pg:j=l.length->(l.take j).foldl (dz k) L0=lO f.blocks (k+1):=fun e=>by rw[cq,dn oG]
   generalize (l.take j).foldl (dz k) L0=L at C hlen ay X pg;refine aJ ?_;refine ab ⟨_,rfl,fun h=>?_,fun h=>?_⟩
   .have xU:j<l.length:=by simpa using h
    have wD:l[j]? =some l[j]:=aG xU;have oU:=dF _ (bO xU);generalize l[j]=t at wD oU;obtain⟨i,rfl⟩:=cN oU.1;have J:i<n:=by omega
    have hL:=hlen i;have X:(l.take (j+1)).foldl (dz k) L0=up L i (L i++[(k:Int)]):=X _ wD
    have sO:∀ i,((l.take (j+1)).foldl (dz k) L0 i).length<=12*k+(j+1):=fun a=>by
     rw[X];exact FG (t:=(i:Int)) hlen a
    have yC:(fun a=>((l.take (j+1)).foldl (dz k) L0 a).map I)=up (fun a=>(L a).map I) i ((L i++[(k:Int)]).map I):=by rw[X];exact Kl
    obtain⟨cs,kd⟩:=Jq (ρ:=ρ) (L:=fun i=>(L i).map I) J;refine kU aaJ ?_;by_cases hz:L i=[]
    .have tB:jc (ρ i) ((L i).map I)=.z:=by rw[hz];rfl
     rw[tB] at kd;refine aE ?_;refine bI ?_;refine a8 bf ?_;refine au ?_;refine ab (aK (j+1,up (up (up m nx (some (.cells [I k] 3))) (nx+1) (some (.cells [I k] 3))) 1 (some (.cells ((om ρ (fun i=>(L i).map I) n).set i (.rs (nx+1) 0 1)) 27)),nx+2) (aq eH) ⟨oM,⟨up ρ i (nx+1),?_⟩,sO⟩ oM);dsimp only;rw[yC];refine C.Cc J oS oG oG ?_ ?_ (fun q hq qK _=>?_)
     .rw[hz];exact up_same _ _ _
     .rw[hz];exact ag oG (up_same _ _ _)
     .exact ag oG (ag oG (ag oG rfl))
    .have U:(L i).map I≠[]:=by simpa using hz
     have tB:jc (ρ i) ((L i).map I)=.rs (ρ i) 0 (L i).length:=by rw[rD U,List.length_map]
     rw[tB] at kd;have cQ:=C.kA i J U;have Cg:=C.lt i J U;have Wp:=C.ne i J U;refine aE ?_;refine bI ?_;refine a8 bf ?_;refine au ?_;refine ab (aK (j+1,up (up (up (up m nx (some (.cells [I k] 3))) (ρ i) none) (nx+1) (some (.cells ((L i).map I++[I k]) 3))) 1 (some (.cells ((om ρ (fun i=>(L i).map I) n).set i (.rs (nx+1) 0 ((L i).length+1))) 27)),nx+2) (aq eH) ⟨oM,⟨up ρ i (nx+1),?_⟩,sO⟩ oM);dsimp only;rw[yC];refine C.Cc J oS oG oG ?_ ?_ (fun q hq qK oE=>?_)
     .rw[List.length_map,List.length_append];exact up_same _ _ _
     .rw[List.map_append];exact ag oG (up_same _ _ _)
     .have:=oE U;exact ag oG (ag oG (ag oG (ag oG rfl)))
   .have bh:¬ j<l.length:=by simpa using h
    have vl:=pg oG;subst vl;show AOps _ _ _ _ _ _ _ _ _;refine au ?_;refine ab (aK (k+1,m,nx) (aq eH) ⟨oM,⟨ρ,C⟩,fun i=>by have:=hlen i;dsimp only at this ⊢;omega⟩ oM)
  .have bh:¬ k<n:=by simpa[hn] using h
   have:k=n:=by omega
   subst this;exact⟨m,nx,ρ,aq eH,C⟩
 .rintro s ⟨m,nx,ρ,hg,C⟩;have tz:¬ ∃ i,i<n/\(lO f.blocks n i).map I≠[]/\ρ i=1:=fun⟨i,h1,h2,h3⟩=>C.ne i h1 h2 h3;refine⟨_,hg.trans (IQ (l:=[(3,.rs 1 0 n)]) (ml:=[]) (fun r=>∃ i,i<n/\(lO f.blocks n i).map I≠[]/\ρ i=r) C (fun _=>.map) c3 (fun i h1 h2=>⟨i,h1,h2,rfl⟩) tz ⟨rfl,trivial⟩ (fun x hx=>?_) trivial (fun x hx=>by cases hx)),aw ?_⟩
  .simp at hx;subst hx;exact .rs tz
  refine af ?_;refine ab (aI (bw [(1,_,27)] eH (l:=[(2,bG (j6 f.blocks))]) ⟨?_,trivial⟩) (ax rfl rfl));show sub (fz0 1 _ (prog.cellsOf 27)) (D.rs 1 0 n)=_;rw[j0 (by rw[Ch];simp),Js,j6,hn]
set_option maxHeartbeats 2000000 in
theorem BM{f:aA}(hs:uw f)(hw:∀ b∈f.blocks,b.fin.aH.length<=9):PCall prog 120 [.agg (aD f)] (B (vu f)):=by
 have BL:=BL hs;refine bc afz (.cons (.agg (fu f)) .nil) (Tr.s _) ?_;rw[afA];refine aw ?_;refine af ?_;refine ab (aI (bw [(0,aD f,26)] eH (l:=[(1,.pt (aD f))]) eH) (ao ?_));cases hh:rE f with
 |false=>
  rw[hh] at BL;refine SS ?_;refine cl BL ?_;refine SS ?_;refine ab (aC (ao ?_));refine af ?_;refine ab (gU ?_);refine aC (ao ?_);refine SS ?_;refine ab (cK (ax (d:=B false) rfl ?_));rw[vu,hh];rfl
 |true=>
  rw[hh] at BL;have hF:vu f=(Gn f&&(List.range f.blocks.length).all (rO f)):=by rw[vu,hh];rfl
  rw[hF];clear hF;unfold rE at hh;simp only[aO] at hh;obtain⟨h1,h2,_⟩:=hh;unfold nZ at h1;simp only[aO,Bool.not_eq_true',decide_eq_false_iff_not,kT] at h1;have hN:f.blocks.length<=1200:=by omega
  have hR:f.aj.length<=1200:=by omega
  have g':f.aW.length<=60:=by omega
  have yO:∀ k∈f.aW,k=1\/k=2:=fun k hk=>by
   unfold q8 at h2;simp only[aO] at h2;have h3:=h2.2.2.1;simp only[eR,Bool.not_eq_true',List.any_eq_false] at h3;have:=h3 k hk;simp[nh] at this;omega
  clear h1 h2;refine SS ?_;refine cl BL ?_;refine SS ?_;refine ab (aC (ao ?_));refine af ?_;refine ab (hP (b7 (aw ?_)));refine SS ?_;refine aF (Ja (cs:=bZ _ _) V.h V.h V.h rfl rfl) ak ⟨V.h,V.h⟩ ?_;refine SS ?_;refine cJ (gq (cs':=bZ _ _) rfl rfl rfl rfl) ak (dQ V.h V.h (by first|(simp;done)|exact⟨rfl,bA rfl⟩|(simp;omega)) (by rfl)) ?_;refine ab (aI (aP (l:=[(1,.pt (aD f)),(4,.rp 1 0)]) (ml:=[(1,.cells (bZ f .z) 208)]) eH eH) (aC (aw ?_)));refine SS ?_
  refine ab (bV (fun s=>Ghost prog s ⟨az [(1,.pt (aD f)),(4,.rp 1 0)],bm [(1,.cells (bZ f .z) 208)],2⟩/\∀ (j:Nat) x,f.blocks[j]? =some x->(dc x.fin).all (cr f)=true) (cI (α:=Nat) (fun k=>⟨az [(1,.pt (aD f)),(4,.rp 1 0),(5,I k)],bm [(1,.cells (bZ f .z) 208)],2⟩)
   (fun k=>k<=f.blocks.length/\∀ j x,j<k->f.blocks[j]? =some x->(dc x.fin).all (cr f)=true) (fun k=>f.blocks.length - k) 0 (aP eH eH) ⟨oG,fun j y hj=>by omega⟩ ?_) ?_)
  .rintro k ⟨hk,hinv⟩;refine aV ?_;refine ab ⟨_,rfl,fun h=>?_,fun h=>?_⟩
   .have ap:k<f.blocks.length:=by simpa using h
    have hx:f.blocks[k]? =some f.blocks[k]:=aG ap;have WU:=hw _ (bO ap);generalize f.blocks[k]=x at hx WU;have nE:=nE (x:=x.fin) oG;have hle:=yW x.fin;have iL:(dc x.fin).all (cr f)=false->Gn f=false:=fun h=>List.all_eq_false.2 ⟨x,cx hx,by simp[h]⟩
    have xE:(dc x.fin).all (cr f)=true->∀ j y,j<k+1->f.blocks[j]? =some y->(dc y.fin).all (cr f)=true:=fun hq j y hj hy=>by
     by_cases e:j=k
     .subst e;rw[hx] at hy;cases hy;exact hq
     .exact hinv j y oG hy
    generalize dc x.fin=l at nE hle iL xE;refine ws ?_;refine bK ?_;refine cl nE ?_;refine SS ?_;refine ab (aw ?_);refine SS ?_
    refine ab (cI (α:=Nat) (fun q=>⟨az [(1,.pt (aD f)),(4,.rp 1 0),(5,I k),(6,aB l),(7,I q)],bm [(1,.cells (bZ f .z) 208)],2⟩)
     (fun q=>q<=l.length/\∀ j y,j<q->l[j]? =some y->cr f y=true) (fun q=>l.length - q) 0 (aP eH eH) ⟨oG,fun j y hj=>by omega⟩ ?_)
    rintro q ⟨hq,oE⟩;refine aJ ?_;refine ab ⟨_,rfl,fun h=>?_,fun h=>?_⟩
    .have Cp:q<l.length:=by simpa using h
     have hy:l[q]? =some l[q]:=aG Cp;generalize l[q]=y at hy;have gW:PCall prog 170 [.agg (bZ f .z),I y] (B (cr f y)):=gW Ue rfl hN;refine c8 Yq ?_;refine aF (dx (vs:=bZ _ _) rfl rfl V.h V.h rfl) ak (dy V.h V.h (by first|(simp;done)|omega|exact bA rfl)) ?_;refine aJ ?_;refine cl gW ?_;refine SS ?_;refine a8 bf (ao ?_);refine af ?_;refine ab (av rfl (fun hp=>?_) fun hp=>?_)
     .refine ws ?_;refine SS ?_;refine ab (aT (bR (bR (aL (ax (d:=B false) rfl ?_)))));rw[iL (List.all_eq_false.2 ⟨y,cx hy,by simpa using hp⟩)];rfl
     .refine ct ?_;refine au ?_;refine ab (aK (q+1) (aP eH eH) ⟨oG,fun j z hj hz=>?_⟩ oG);by_cases e:j=q
      .subst e;rw[hy] at hz;cases hz;simpa using hp
      .exact oE j z oG hz
    .have bh:¬ q<l.length:=by simpa using h
     show AOps _ _ _ _ _ _ _ _ _;refine au ?_;refine ab (aK (k+1) (aP eH eH) ⟨oG,xE (bJ.2 fun y hy=>?_)⟩ oG);obtain⟨j,hj⟩:=dt hy;exact oE j y (by have:=(bL.1 hj).1;omega) hj
   .have bh:¬ k<f.blocks.length:=by simpa using h
    exact⟨aP eH eH,fun j y hy=>hinv j y (by have:=(bL.1 hy).1;omega) hy⟩
  rintro s ⟨hg,U⟩
  have hE:Gn f=true:=bJ.2 fun x hx=>by
   obtain⟨j,hj⟩:=dt hx;exact U j x hj
  rw[hE,Bool.true_and]
  have dF:∀ b∈f.blocks,∀ t∈p9 b.fin,0<=t/\t<f.blocks.length:=fun b hb t ht=>by
   have:=bJ.1 (bJ.1 hE b hb) t (OQ.1 ht);rw[cr,kT] at this;omega
  have oK:=oK (f:=f) rfl oG hw dF;have iS:∀ k,k<f.blocks.length->(j6 f.blocks)[k]? =some (lO f.blocks f.blocks.length k):=fun k hk=>by simp[j6,hk]
  have Ie:(j6 f.blocks).length<=100000:=by simp[j6];omega
  clear U hE dF;refine⟨_,hg,aw ?_⟩;generalize hL:j6 f.blocks=L at oK iS Ie;clear hL;refine SS ?_;refine cl oK ?_;refine SS ?_;refine cJ (iA (d:=.sl _ _) (cs':=_) rfl rfl rfl rfl rfl) ak (dQ V.h V.h (by first|(simp;done)|exact⟨rfl,bA rfl⟩|(simp;omega)) rfl) ?_;refine ab (aI (bw [(1,bZ f (bG L),208)] eH (l:=[(1,.pt (aD f)),(4,.pt (bZ f (bG L)))]) eH) (aw ?_));refine aV ?_;have dE:((f.aj.length:Nat):Int).toNat=f.aj.length:=bx _;refine ab (aI (aP (l:=[(1,.pt (aD f)),(4,.pt (bZ f (bG L))),(9,.rs 2 0 f.aj.length)]) (ml:=[(2,.cells ((List.replicate f.aj.length false).map B) 4)]) ⟨rfl,rfl,congrArg (fun k=>D.rs 2 0 k) dE,trivial⟩ ⟨?_,trivial⟩) (aC (aw ?_)))
  .exact congrArg (fun c=>some (Row.cells c 4)) ((congrArg (fun k=>replD k [B false]) dE).trans (q7 _ false))
  rw[<- ZA f.aj.length f.blocks];refine SS ?_
  refine ab (bV (fun s=>∃ N,Ghost prog s ⟨az [],fun _=>none,N⟩/\(List.range f.blocks.length).all (rO f)=true) (cI (α:=Nat×Nat) (fun q=>⟨az [(1,.pt (aD f)),(4,.pt (bZ f (bG L))),(9,.rs 2 0 f.aj.length),(10,I q.1)],bm [(2,.cells ((mB f.aj.length f.blocks q.1).map B) 4)],q.2⟩)
   (fun q=>q.1<=f.blocks.length/\3<=q.2/\(List.range q.1).all (rO f)=true) (fun q=>f.blocks.length - q.1) (0,3) (aP eH eH) ⟨Nat.zero_le _,bP _,rfl⟩ ?_) ?_)
  .rintro⟨k,N⟩ ⟨hk,WV,U⟩;dsimp only at hk WV U ⊢;refine aV ?_;refine ab ⟨_,rfl,fun h=>?_,fun h=>?_⟩
   .have ap:k<f.blocks.length:=by simpa using h
    have hx:f.blocks[k]? =some f.blocks[k]:=aG ap;have uT:=hs.en _ (bO ap)
    have C:rO f k=(!decide ((200:Int)<f.blocks[k].ins.length)&&((List.range f.blocks[k].ins.length).all (vP f k f.blocks[k].ins)&&(gL f f.blocks[k].fin&& !(f.blocks[k].fin.kind==7&&(lG f.blocks k).any (·==f.blocks[k].fin.a))))):=by
     unfold rO;simp only[getD_some hx]
    have iL:rO f k=false->(List.range f.blocks.length).all (rO f)=false:=fun hq=>kO ap hq;have Ig:=abU (R:=f.aj.length) hx;have s4:=fun(i:Nat)=>aaK (R:=f.aj.length) (i:=i) hx;have hA:=iS k ap;have tc:∀ {y:a7},PCall prog 171 [.agg (bZ f (bG L)),.agg (a9 y),I k] (B (dX f k (lO f.blocks f.blocks.length k).length y)):=fun {y}=>tc hA g' yO Ie;have J:∀ j,vP f k f.blocks[k].ins j=(dX f k (lO f.blocks f.blocks.length k).length (f.blocks[k].ins.getD j dT)&& !(bC (f.blocks[k].ins.getD j dT)&&(decide (0<j)&& !bC (f.blocks[k].ins.getD (j - 1) dT)))):=fun j=>rfl;generalize lO f.blocks f.blocks.length k=A at tc J hA;generalize f.blocks[k]=x at hx uT C Ig s4 J;have Hu:=Hu (f:=f) (y4 L) rfl uT.1 uT.2 hN;refine ws ?_;refine dk ?_;refine ab (aC (ao ?_));refine au ?_;refine ab (cH rfl (fun hp=>?_) fun hp=>b7 (aC (aw ?_)))
    .refine aC (ao ?_);refine SS ?_;refine ab (cK (bR (aL (ax (d:=B false) rfl ?_))));rw[iL (by rw[C,hp];rfl)]
    rw[hp,Bool.not_false,Bool.true_and] at C;have fB:x.ins.length<=200:=by have:=of_decide_eq_false hp;omega
    refine SS ?_
    refine ab (bV (fun s=>Ghost prog s ⟨az [(1,.pt (aD f)),(4,.pt (bZ f (bG L))),(9,.rs 2 0 f.aj.length),(10,I k)],bm [(2,.cells ((mB f.aj.length f.blocks k).map B) 4)],N⟩/\(List.range x.ins.length).all (vP f k x.ins)=true) (cI (α:=Nat) (fun j=>⟨az [(1,.pt (aD f)),(4,.pt (bZ f (bG L))),(9,.rs 2 0 f.aj.length),(10,I k),(11,dG x.ins),(12,I j)],bm [(2,.cells ((mB f.aj.length f.blocks k).map B) 4)],N⟩)
     (fun j=>j<=x.ins.length/\(List.range j).all (vP f k x.ins)=true) (fun j=>x.ins.length - j) 0 (aP eH eH) ⟨Nat.zero_le _,rfl⟩ ?_) ?_)
    .rintro j ⟨hj,vh⟩;refine aJ ?_;refine ab ⟨_,rfl,fun h=>?_,fun h=>?_⟩
     .have cF:j<x.ins.length:=by simpa using h
      have hy:x.ins[j]? =some x.ins[j]:=aG cF;have J:=J j;rw[getD_some hy] at J;have sT:vP f k x.ins j=false->(List.range f.blocks.length).all (rO f)=false:=fun hq=>iL (by rw[C,kO cF hq];rfl);have X:vP f k x.ins j=true->(List.range (j+1)).all (vP f k x.ins)=true:=fun hq=>jY vh hq;generalize x.ins[j]=y at hy J;have tc:= @tc y;generalize dX f k A.length y=v at tc J;rw[J] at sT X;clear J;refine c8 Yr ?_;cases v with
      |false=>
       refine bK ?_;refine cl tc ?_;refine aE ?_;refine dk ?_;(iterate 5 refine z fun _ _=>?_);refine SS ?_;refine a8 bf (av rfl (fun hp=>?_) fun hp=>(by cases hp));refine ws ?_;refine SS ?_;refine ab (aT (bR (aL (bR (aL (ax (d:=B false) rfl ?_))))));rw[sT rfl]
      |true=>
       rw[Bool.true_and] at sT X;by_cases cG:y.op=19
       .have gm:bC y=true:=by simp[bC,cG]
        rw[gm,Bool.true_and] at sT X;have cM:(y.op==19)=true:=by simp[cG]
        cases j with
        |zero=>
         have ja:decide ((0:Int)<((0:Nat):Int))=false:=rfl;refine bK ?_;refine cl tc ?_;refine aE ?_;refine aJ ?_;(iterate 7 refine z fun _ _=>?_);refine af ?_;refine a8 bf (av rfl (fun hp=>(by cases hp)) fun hp=>ct ?_);refine au ?_;refine ab (aK 1 (aP eH eH) ⟨oG,X rfl⟩ oG)
        |succ i=>
         have ja:decide ((0:Int)<((i+1:Nat):Int))=true:=decide_eq_true oG;have pw:((i+1:Nat):Int) - 1=(i:Int)/\ -9223372036854775808<=(i:Int)/\(i:Int)<=9223372036854775807:=by omega
         have hz:x.ins[i]? =some x.ins[i]:=aG oG;rw[show i+1 - 1=i from rfl,getD_some hz] at sT X;generalize x.ins[i]=z at hz sT X;refine bK ?_;refine cl tc ?_;refine aE ?_;refine aE ?_;refine aJ ?_;refine a8 bf (av rfl (fun hp=>?_) fun hp=>?_)
         .refine ws ?_;refine SS ?_;refine ab (aT (bR (aL (bR (aL (ax (d:=B false) rfl ?_))))));rw[sT (by revert hp;simp[bC])]
         .refine ct ?_;refine au ?_;refine ab (aK (i+1+1) (aP eH eH) ⟨oG,X (by revert hp;simp[bC])⟩ oG)
       .have gm:bC y=false:=by simp[bC,cG]
        rw[gm,Bool.false_and] at sT X;have cM:(y.op==19)=false:=by simp[cG]
        refine bK ?_;refine cl tc ?_;refine aE ?_;refine dk ?_;(iterate 4 refine z fun _ _=>?_);refine af ?_;refine a8 bf (av rfl (fun hp=>(by cases hp)) fun hp=>ct ?_);refine au ?_;refine ab (aK (j+1) (aP eH eH) ⟨oG,X rfl⟩ oG)
     .have bh:¬ j<x.ins.length:=by simpa using h
      have:j=x.ins.length:=by omega
      subst this;exact⟨aP eH eH,vh⟩
    rintro s ⟨hg,J⟩;rw[J,Bool.true_and] at C;refine⟨_,hg,aw ?_⟩;clear hg tc J hA;obtain⟨alI,xk,xa,xb,xt,xe,xn,Nm,xs,xw,xo⟩:=x;dsimp only at*
    refine dk ?_;refine cJ (gq (cs':=bd _) rfl rfl (up_same _ _ _) rfl) ak (dQ V.h V.h (by first|(simp;done)|exact⟨rfl,bA rfl⟩|(simp;omega)) (by rfl)) ?_;refine ab (aI (m9 (i:=N) (l:=[(1,.pt (aD f)),(4,.pt (bZ f (bG L))),(9,.rs 2 0 f.aj.length),(10,I k),(13,.pt (bd ⟨xk,xa,xb,xt,xe,xn,Nm,xs,xw,xo⟩))]) (ml:=[(2,.cells ((mB f.aj.length f.blocks k).map B) 4)]) (up_same _ _ _) ⟨rfl,rfl,AX oG,rfl,lP,trivial⟩ ⟨Gh oG (ag oG (ag oG rfl)) .map,trivial⟩) (ao ?_));have bl:= @J7 f ⟨xk,xa,xb,xt,xe,xn,Nm,xs,xw,xo⟩;generalize gL f ⟨xk,xa,xb,xt,xe,xn,Nm,xs,xw,xo⟩=v at Hu C bl;refine af ?_;refine cl Hu ?_;refine SS ?_;refine ab (aC (ao ?_));refine af ?_;refine ab (cH rfl (fun hp=>?_) fun hp=>b7 (ao ?_))
    .refine aC (ao ?_);refine SS ?_;refine ab (cK (bR (aL (ax (d:=B false) rfl ?_))));rw[iL (by rw[C];revert hp;cases v<;>simp)]
    have hv:v=true:=by simpa using hp
    subst hv;rw[Bool.true_and] at C;refine au ?_;refine ab (av rfl (fun h7=>?_) fun h7=>ct ?_)
    .have e7:xk=7:=by simpa using h7
     obtain⟨i,hi,e⟩:=(bl rfl).2.2 e7;dsimp only at e;subst e;have s4:=s4 i e7 rfl;have lV:(mB f.aj.length f.blocks k)[i]? =some ((lG f.blocks k).any (·==(i:Int))):=F8 hi;have jy:=CG f.aj.length f.blocks k;rw[e7] at C;generalize (lG f.blocks k).any (·==(i:Int))=o at lV C;generalize mB f.aj.length f.blocks k=O at lV jy s4 ⊢;have kd:=gu (f:=B) lV;refine aC (ao ?_);refine aV ?_;refine ab (cH rfl (fun hp=>?_) fun hp=>b7 ?_)
     .refine aC (ao ?_);refine SS ?_;refine ab (cK (bR (aL (ax (d:=B false) rfl ?_))));rw[iL (by rw[C,hp];rfl)]
     .refine eZ ?_;refine aV ?_;refine ab ?_;refine au ?_;refine ab (aK (k+1,N+1) (aP eH ⟨?_,trivial⟩) ⟨oM,oM,jY U (by rw[C,hp];rfl)⟩ oM);dsimp only;rw[s4,List.map_set];rfl
    .have h7:¬ xk=7:=by simpa using h7
     have Ig:=Ig h7;refine au ?_;refine ab (aK (k+1,N+1) (aP eH ⟨?_,trivial⟩) ⟨oM,oM,jY U (by rw[C];simp[h7])⟩ oM);dsimp only;rw[Ig];rfl
   .have bh:¬ k<f.blocks.length:=by simpa using h
    have:k=f.blocks.length:=by omega
    subst this;exact⟨N,fU (l:=[]) trivial,U⟩
  .rintro s ⟨N,hg,U⟩;refine⟨_,hg,ao ?_⟩;refine SS ?_;refine ab (ax (d:=B true) rfl ?_);rw[U]
theorem BN{a b:Cert}(hl:a.is.length=b.is.length)(hm:a.is.length<=100000):PCall prog 173 [.agg (cE a),.agg (cE b)] (.agg (cE (qa a b))):=by
 refine bc afE (.cons (.agg (uh a)) (.cons (.agg (uh b)) .nil)) (.agg (uh _)) ?_;rw[afF];obtain⟨aa,C⟩:=a;obtain⟨ba,J⟩:=b;dsimp only at hl hm;refine aw ?_;refine au ?_;refine ab (aI (aP (l:=[(2,.rp 0 0),(3,.rp 1 0),(4,.rp 2 0)]) (ml:=[(0,.cells (cE ⟨aa,C⟩) 158),(1,.cells (cE ⟨ba,J⟩) 158),(2,.cells [B false,.z] 158)]) eH eH) (aC (ao ?_)));refine af ?_;cases aa with
 |true=>
  refine ab (gU ?_);refine aC (ao ?_);refine af ?_;exact ab (cK (jH (jZ rfl rfl ta mI rfl t158 (bA rfl)) rfl))
 |false=>
 refine ab (hP (b7 (aC (ao ?_))));refine af ?_;cases ba with
 |true=>
  refine ab (gU ?_);refine aC (ao ?_);refine af ?_;exact ab (cK (jH (jZ rfl rfl ta mI rfl t158 (bA rfl)) rfl))
 |false=>
 refine ab (hP (b7 (aw ?_)));have hb:qa ⟨false,C⟩ ⟨false,J⟩=⟨false,List.zipWith (fun x y=>x&&y) C J⟩:=rfl;rw[hb];clear hb;have kF:({ any:=false,is:=C }:Cert).is.length<=100000:=hm;have dE:((C.length:Nat):Int).toNat=C.length:=bx _;have X:(List.zipWith (fun x y=>x&&y) C J).length=C.length:=by simp;omega
 have WW:∀ (k:Nat) x y,C[k]? =some x->J[k]? =some y->(List.zipWith (fun x y=>x&&y) C J)[k]? =some (x&&y):=fun k x y h1 h2=>by rw[List.getElem?_zipWith,h1,h2]
 generalize List.zipWith (fun x y=>x&&y) C J=zQ at X WW;refine dk ?_;refine ab (aI (aP (l:=[(2,.rp 0 0),(3,.rp 1 0),(4,.rp 2 0),(5,.rp 4 0)]) (ml:=[(0,.cells (cE ⟨false,C⟩) 158),(1,.cells (cE ⟨false,J⟩) 158),(2,.cells [B false,.z] 158),(3,.cells ((List.replicate C.length false).map B) 4),(4,.cells [B false,.rs 3 0 C.length] 158)]) eH ⟨rfl,rfl,rfl,?_,?_,trivial⟩) (aC (aw ?_)))
 .exact congrArg (fun c=>some (Row.cells c 4)) ((congrArg (fun k=>replD k [B false]) dE).trans (q7 _ false))
 .exact congrArg (fun k=>some (Row.cells [B false,.rs 3 0 k] 158)) dE
 refine SS ?_
 refine ab (bV (fun s=>Ghost prog s ⟨az [(4,.rp 2 0),(5,.rp 4 0)],bm [(2,.cells [B false,.z] 158),(3,.cells (zQ.map B) 4),(4,.cells [B false,.rs 3 0 C.length] 158)],5⟩) (cI (α:=Nat) (fun k=>⟨az [(2,.rp 0 0),(3,.rp 1 0),(4,.rp 2 0),(5,.rp 4 0),(6,I k)],bm [(0,.cells (cE ⟨false,C⟩) 158),(1,.cells (cE ⟨false,J⟩) 158),(2,.cells [B false,.z] 158),(3,.cells ((zQ.take k++List.replicate (C.length - k) false).map B) 4),(4,.cells [B false,.rs 3 0 C.length] 158)],5⟩)
  (fun k=>k<=C.length) (fun k=>C.length - k) 0 (aP eH eH) oG ?_) ?_)
 .intro k hk;refine aV ?_;refine ab ⟨_,rfl,fun h=>?_,fun h=>?_⟩
  .have ap:k<C.length:=by simpa using h
   have hx:C[k]? =some C[k]:=aG ap;have hy:J[k]? =some J[k]:=aG oG;have U:=WW k _ _ hx hy;generalize C[k]=x at hx U;generalize J[k]=y at hy U;have uG:=take_set U X;have oF:(zQ.take k++List.replicate (C.length - k) false).length=C.length:=by simp;omega
   refine kU ZB ?_;cases x with
   |false=>
    refine aE ?_;(iterate 5 refine z fun _ _=>?_);refine au ?_;refine a8 bf ?_;refine au ?_;refine ab (aK (k+1) (aP eH ⟨rfl,rfl,rfl,?_,rfl,trivial⟩) oG oG);rw[<- uG,List.map_set];rfl
   |true=>
    refine aE ?_;refine bI ?_;refine a8 bf ?_;refine au ?_;refine ab (aK (k+1) (aP eH ⟨rfl,rfl,rfl,?_,rfl,trivial⟩) oG oG);rw[<- uG,List.map_set];rfl
  .have bh:¬ k<C.length:=by simpa using h
   have:k=C.length:=by omega
   subst this;refine aP eH ⟨rfl,?_,rfl,trivial⟩;rw[Nat.sub_self,List.replicate_zero,List.append_nil,dn oG];rfl
 .intro s hg;refine⟨_,hg,aw ?_⟩;refine af ?_
  have e:sub (fz0 3 (zQ.map B) (prog.cellsOf 4)) (.rs 3 0 C.length)=.sl (zQ.map B) C.length:=by
   rw[c4,Bq,List.drop_zero,dn oP]
  refine ab (aI (bw [(3,zQ.map B,4),(2,[B false,.sl (zQ.map B) C.length],158)] ⟨rfl,?_,trivial⟩ (l:=[(4,.pt [B false,.sl (zQ.map B) C.length])]) eH) (aT (jH (QI rfl ta mI rfl t158 (bA rfl)) ?_)))
  .exact congrArg (fun d=>some (Row.cells [B false,d] 158)) e
  .rw[<- X];rfl
theorem wm{f:aA}{b:Nat}{x:Argus.bB}{c:Cert}(hx:f.blocks[b]? =some x)(hl:c.is.length=f.aj.length+f.aW.length)(hm:c.is.length<=2000)(hi:∀ y∈x.ins,zP f.aj.length (f.aj.length+f.aW.length) y)(WX:x.ins.length<=100000):
 PCall prog 127 [.agg (aD f),I b,.agg (cE c)] (.agg (cE (eV f.aj.length x.ins c))):=by
 have jU:∀ {d:Cert} {r:Int},d.is.length=f.aj.length+f.aW.length->EA (f.aj.length+f.aW.length) r->PCall prog 124 [.agg (cE d),I r] (.agg (cE (jt d r))):=fun {d r} h1 h2=>jU oG (by rw[h1];exact h2);refine bc afG (.cons (.agg (fu f)) (.cons (.s _) (.cons (.agg (uh c)) .nil))) (.agg (uh _)) ?_;rw[afH];refine aw ?_;refine au ?_;refine ab (aI (aP (l:=[(1,I b),(3,.rp 0 0),(5,.rp 1 0),(6,.rp 2 0)]) (ml:=[(0,.cells (aD f) 26),(1,.cells (cE c) 158),(2,.cells [B false,.z] 158)]) eH eH) (ao ?_));refine dk ?_;refine ab (aC (aw ?_));refine SS ?_
 refine ab (bV (fun s=>Ghost prog s ⟨az [(5,.rp 1 0),(6,.rp 2 0)],bm [(1,.cells (cE (eV f.aj.length x.ins c)) 158),(2,.cells [B false,.z] 158)],3⟩) (cI (α:=Nat) (fun k=>⟨az [(3,.rp 0 0),(5,.rp 1 0),(6,.rp 2 0),(7,dG x.ins),(8,I k)],bm [(0,.cells (aD f) 26),(1,.cells (cE (eV f.aj.length (x.ins.take k) c)) 158),(2,.cells [B false,.z] 158)],3⟩)
  (fun k=>k<=x.ins.length) (fun k=>x.ins.length - k) 0 (aP eH eH) oG ?_) ?_)
 .intro k hk;have C:∀ y,x.ins[k]? =some y->eV f.aj.length (x.ins.take (k+1)) c=wl f.aj.length (eV f.aj.length (x.ins.take k) c) y:=fun y hy=>l7 hy;have gd:k=x.ins.length->eV f.aj.length (x.ins.take k) c=eV f.aj.length x.ins c:=fun e=>by rw[e,List.take_length]
  have yP:=(CE f.aj.length (x.ins.take k) c).trans hl;generalize eV f.aj.length (x.ins.take k) c=d at C gd yP;refine aJ ?_;refine ab ⟨_,rfl,fun h=>?_,fun h=>?_⟩
  .have ap:k<x.ins.length:=by simpa using h
   have hy:x.ins[k]? =some x.ins[k]:=aG ap;have C:=C _ hy;have U:=hi _ (bO ap);generalize x.ins[k]=y at hy C U;have iq:=iq (x:=y)
   have hp:EA (f.aj.length+f.aW.length) (bT y):=by
    rcases U.w with e|⟨i,h1,h2⟩
    .exact .inl e
    .exact .inr ⟨i,oG,h2⟩
   have X:=jU yP hp;have pL:=(FU d (bT y)).trans yP
   have kv:y.op=18->PCall prog 124 [.agg (cE (jt d (bT y))),I ((f.aj.length:Int)+y.n)] (.agg (cE (jt (jt d (bT y)) ((f.aj.length:Int)+y.n)))):=fun e=>jU pL (by
    obtain⟨i,h1,h2⟩:=U.s e
    exact .inr ⟨f.aj.length+i,h1,by rw[h2];omega⟩)
   unfold wl at C;generalize jt d (bT y)=d1 at X pL kv C;generalize bT y=w at iq X;clear jU;have jU:=X;refine c8 ZC ?_;refine aV ?_;refine cl iq ?_;refine cl jU ?_;refine SS ?_;refine a8 bf (ao ?_);refine bK ?_;refine ab (av rfl (fun J=>?_) fun J=>?_)
   .have J:y.op=18:=by simpa using J
    rw[if_pos J] at C;have jU:=kv J;obtain⟨i,h1,h2⟩:=U.s J;have qF:0<=y.n/\y.n<=2000:=by omega
    refine kU ZD ?_;refine bI ?_;refine af ?_;refine cl jU ?_;refine SS ?_;refine a8 bf ?_;refine au ?_;refine ab (aK (k+1) (aP eH ⟨rfl,?_,rfl,trivial⟩) oG oG);rw[C];rfl
   .have J:¬ y.op=18:=by simpa using J
    rw[if_neg J] at C;refine ct ?_;refine au ?_;refine ab (aK (k+1) (aP eH ⟨rfl,?_,rfl,trivial⟩) oG oG);rw[C];rfl
  .have bh:¬ k<x.ins.length:=by simpa using h
   rw[<- gd oG];exact aP eH eH
 .intro s hg;refine⟨_,hg,ao ?_⟩;generalize eV f.aj.length x.ins c=d;refine af ?_;exact ab (aT (jH (jZ rfl rfl ta mI rfl t158 (bA rfl)) rfl))
theorem xY{f:aA}{b:Nat}{x:Argus.bB}{c:Cert}{to:Int}(hx:f.blocks[b]? =some x)(hw:x.fin.aH.length<=100)(hm:c.is.length<=2000)(fI:EA c.is.length (eg x.fin)):
 PCall prog 126 [.agg (aD f),I b,I to,.agg (cE c)] (.agg (cE (nw x.fin to c))):=by
 have jU:=jU (c:=c) oG fI;have nE:=nE (x:=x.fin) oG;have zO:=zO (x:=x.fin);have J:=yW x.fin;refine bc afI (.cons (.agg (fu f)) (.cons (.s _) (.cons (.s _) (.cons (.agg (uh c)) .nil)))) (.agg (uh _)) ?_;rw[afJ];refine ws ?_;refine au ?_;refine ab (aw ?_);refine bI ?_;refine ab (aI (aP (l:=[(2,I to),(7,.rp 1 0),(8,.rp 2 0),(9,.rp 3 0)]) (ml:=[(1,.cells (cE c) 158),(2,.cells [B false,.z] 158),(3,.cells (bd x.fin) 69)]) eH eH) (ao ?_));have X:nw x.fin to c=if x.fin.to≠to\/(dc x.fin).tail.any (·==to)=true\/x.fin.kind=3\/x.fin.kind=4 then c else jt c (eg x.fin):=rfl
 rw[X];clear X;generalize dc x.fin=l at nE J;refine SS ?_;refine cl nE ?_;refine SS ?_;refine er ?_;refine SS ?_;refine ab (aC (aw ?_));refine SS ?_
 refine ab (bV (fun s=>Ghost prog s ⟨az [(2,I to),(7,.rp 1 0),(8,.rp 2 0),(9,.rp 3 0),(11,B (l.tail.any (·==to)))],bm [(1,.cells (cE c) 158),(2,.cells [B false,.z] 158),(3,.cells (bd x.fin) 69)],4⟩) (cI (α:=Nat) (fun k=>⟨az [(2,I to),(7,.rp 1 0),(8,.rp 2 0),(9,.rp 3 0),(10,aB l),(11,B ((l.tail.take k).any (·==to))),(12,I ((k+1:Nat):Int))],bm [(1,.cells (cE c) 158),(2,.cells [B false,.z] 158),(3,.cells (bd x.fin) 69)],4⟩)
  (fun k=>k<=l.tail.length) (fun k=>l.tail.length - k) 0 (aP eH eH) oG ?_) ?_)
 .intro k hk;have htl:l.tail.length=l.length - 1:=List.length_tail ..;have C:∀ y,l.tail[k]? =some y->(l.tail.take (k+1)).any (·==to)=((l.tail.take k).any (·==to)||y==to):=fun y hy=>by rw[List.take_add_one,hy,List.any_append];simp
  have U:k=l.tail.length->(l.tail.take k).any (·==to)=l.tail.any (·==to):=fun e=>by rw[e,List.take_length]
  generalize (l.tail.take k).any (·==to)=ob at C U;refine aJ ?_;refine ab ⟨_,rfl,fun h=>?_,fun h=>?_⟩
  .have ap:k+1<l.length:=by
    have:=of_decide_eq_true h;omega
   have hy:l[k+1]? =some l[k+1]:=aG ap;have C:=C l[k+1] (by rw[List.getElem?_tail];exact hy);generalize l[k+1]=y at hy C;refine eZ ?_;cases ob with
   |false=>
    refine bI ?_;refine af ?_;refine ab ?_;refine au ?_;refine ab (aK (k+1) (aP ⟨rfl,rfl,rfl,rfl,rfl,?_,rfl,trivial⟩ eH) oG oG);rw[C];rfl
   |true=>
    refine af ?_;(iterate 6 refine z fun _ _=>?_);refine af ?_;refine ab ?_;refine au ?_;refine ab (aK (k+1) (aP ⟨rfl,rfl,rfl,rfl,rfl,?_,rfl,trivial⟩ eH) oG oG);rw[C];rfl
  .have bh:¬ k+1<l.length:=fun hh=>by
    have:=of_decide_eq_false h;omega
   rw[<- U oG];exact aP eH eH
 .intro s hg;refine⟨_,hg,aC (ao ?_)⟩;generalize l.tail.any (·==to)=ob;refine aE ?_;refine bI ?_;refine ab (cH rfl (fun h=>?_) fun h=>b7 (c8 Yu ?_))
  .refine aC (ao ?_);refine af ?_;refine ab (cK (jH (jZ rfl rfl ta mI rfl t158 (bA rfl)) ?_));rw[if_pos]
   .rfl
   .revert h;simp;grind
  .rw[if_neg (by revert h;simp;grind)];generalize jt c (eg x.fin)=d at jU;generalize eg x.fin=w at jU zO;refine af ?_;refine cl zO ?_;refine cl jU ?_;refine SS ?_;exact a8 bf (aT (jH (jZ rfl rfl ta mI rfl t158 (bA rfl)) rfl))
set_option maxHeartbeats 2000000 in
theorem BO{f:aA}(hF:vQ f)(hw:∀ b∈f.blocks,b.fin.aH.length<=9):PCall prog 121 [.agg (aD f)] (DR f (iB f.blocks f.args.toNat)):=by
 have hR:=hF.ok.aj;have hS:=hF.sl;have B6:=hF.ok.lC;have mR:=hF.ok.pos;obtain⟨a,ha,tl⟩:=hF.ar;have D':=OS (R:=f.aj.length) (n:=f.aj.length+f.aW.length) (N:=f.blocks.length) (args:=a) hR oG oG mR tl;rw[ha,bx];refine bc afK (.cons (.agg (fu f)) .nil) (aaL f _) ?_;rw[afL];refine aw ?_;refine af ?_;refine ab (aI (bw [(0,aD f,26)] eH (l:=[(1,.pt (aD f))]) eH) (aw ?_));refine bI ?_;refine ab (aI (aq (l:=[(1,.pt (aD f)),(3,I ((f.aj.length+f.aW.length:Nat):Int))]) eH) (aw ?_));have hnn:f.aj.length+f.aW.length<=1260:=by omega
 have Nn:f.aj.length<=f.aj.length+f.aW.length:=by omega
 unfold DR;generalize hn:f.aj.length+f.aW.length=n at D' hnn Nn ⊢;have dE:((f.blocks.length:Nat):Int).toNat=f.blocks.length:=bx _;refine au ?_;refine fP (AS rfl rfl V.h V.h) ak ⟨oG,rfl,oG,by rw[VK];omega,V.h⟩ ?_;refine SS ?_;refine ab (aI (aP (l:=[(1,.pt (aD f)),(3,I n),(4,.rs 1 0 f.blocks.length)]) (ml:=[(1,.cells (dm (iZ n f.blocks.length (.rs 2 0 n) 0)) 158)]) ⟨rfl,rfl,congrArg (fun k=>D.rs 1 0 k) dE,trivial⟩ ⟨?_,trivial⟩) (aC (aw ?_)))
 .exact congrArg (fun c=>some (Row.cells c 158)) ((congrArg (fun k=>replD k [B false,D.z]) dE).trans (PL _))
 refine SS ?_;have BT:((n:Nat):Int).toNat=n:=bx _
 refine ab (bV (fun s=>∃ N,Ghost prog s ⟨az [(1,.pt (aD f)),(3,I n),(4,.rs 1 0 f.blocks.length)],bm [(1,.cells (dm ((true,.rs 2 0 n)::po n f.blocks.length)) 158),(2,.cells ((List.replicate n false).map B) 4)],N⟩/\3<=N) (cI (α:=Nat) (K9 f n f.blocks.length)
  (fun k=>k<=f.blocks.length) (fun k=>f.blocks.length - k) 0 (aP eH eH) oG ?_) ?_)
 .intro k hk;have U:=(A3 (iZ n f.blocks.length (.rs 2 0 n) k)).trans (congrArg (·*2) (I0 (n:=n) (d:=.rs 2 0 n) hk));cases k with
  |zero=>
   show AOps _ _ _ _ _ _ _ _ _;unfold K9;refine aJ ?_;refine ab ⟨_,rfl,fun h=>?_,fun h=>?_⟩
   .refine eZ ?_;have oV:=IG (L:=iZ n f.blocks.length (.rs 2 0 n) 0) (t:=0) (true,.rs 2 0 n) (by rw[I0 hk];exact mR);rw[abV mR] at oV;refine bK ?_;refine cJ (gq (vs:=[B true,.rs 2 0 n]) rfl rfl rfl oV) dd (dQ t158 mI ⟨rfl,by rw[U];omega⟩ rfl) ?_;refine ab ?_;refine au ?_;refine ab (aK 1 (aP eH ⟨rfl,?_,trivial⟩) oG oG)
    .exact congrArg (fun c=>some (Row.cells c 4)) ((congrArg (fun k=>replD k [B false]) BT).trans (q7 _ false))
   .exact absurd (of_decide_eq_false h) oG
  |succ k=>
   show AOps _ _ _ _ _ _ _ _ _;unfold K9;refine aJ ?_;refine ab ⟨_,rfl,fun h=>?_,fun h=>?_⟩
   .have ap:k+1<f.blocks.length:=by have:=of_decide_eq_true h;omega
    refine eZ ?_;have oV:=IG (L:=iZ n f.blocks.length (.rs 2 0 n) (k+1)) (t:=k+1) (true,.rs (k+3) 0 n) (by rw[I0 hk];exact ap);refine bK ?_;refine cJ (gq (vs:=[B true,.rs (k+3) 0 n]) rfl rfl (ag oG rfl) oV) dd (dQ t158 mI ⟨rfl,by rw[U];omega⟩ rfl) ?_;refine ab ?_;refine au ?_;refine ab (aK (k+2) (m9 (i:=k+3) (e:=4) (cs:=(List.replicate n false).map B) (ag oG ?_) ⟨rfl,rfl,AX oG,rfl,trivial⟩ ⟨?_,Gh oG (ag oG (ag oG rfl)) .map,trivial⟩) oG oG)
    .exact(up_same _ _ _).trans (congrArg (fun c=>some (Row.cells c 4)) ((congrArg (fun k=>replD k [B false]) BT).trans (q7 _ false)))
    .rw[c4];refine(if_neg (show ¬ 1=k+3 by omega)).trans ?_;exact(congrArg (Option.map _) (up_same _ _ _)).trans (congrArg (fun c=>some (Row.cells c 158)) (abX oG ap))
   .have bh:¬ k+1<f.blocks.length:=by have:=of_decide_eq_false h;omega
    have hkN:k+1=f.blocks.length:=by omega
    refine⟨k+3,aP eH ⟨?_,rfl,trivial⟩,oG⟩;rw[<- abY mR, <- hkN];rfl
 rintro s ⟨N3,hg,WV⟩;have tu:=OR (n:=n) mR;have Aw:=XR D'.2.1 D'.2.2 mR;have No:∀ cs sz,(po n f.blocks.length).map (fun p=>(p.1,sub (fz0 2 cs sz) p.2))=po n f.blocks.length:=fun cs sz=>aiB;have U:=A3 (po n f.blocks.length);generalize po n f.blocks.length=T at hg tu Aw No U;refine⟨_,hg,aw ?_⟩;refine aJ ?_;refine ab (aI (aP (l:=[(1,.pt (aD f)),(3,I n),(4,.rs 1 0 f.blocks.length)]) (ml:=[(1,.cells (dm ((false,.rs 2 0 n)::T)) 158),(2,.cells ((List.replicate 0 true++List.replicate (n - 0) false).map B) 4)]) eH eH) (aC (aw ?_)));refine SS ?_
 refine ab (bV (fun s=>Ghost prog s ⟨az [(1,.pt (aD f)),(3,I n),(4,.rs 1 0 f.blocks.length)],bm [(1,.cells (dm ((false,.rs 2 0 n)::T)) 158),(2,.cells ((List.replicate a true++List.replicate (n - a) false).map B) 4)],N3⟩) (cI (α:=Nat) (fun r=>⟨az [(1,.pt (aD f)),(3,I n),(4,.rs 1 0 f.blocks.length),(6,I r)],bm [(1,.cells (dm ((false,.rs 2 0 n)::T)) 158),(2,.cells ((List.replicate r true++List.replicate (n - r) false).map B) 4)],N3⟩)
  (fun r=>r<=a) (fun r=>a - r) 0 (aP eH eH) oG ?_) ?_)
 .intro r hr;refine aJ ?_;refine ab ⟨_,rfl,fun h=>?_,fun h=>?_⟩
  .have ap:r<a:=by have:=of_decide_eq_true h;omega
   have uG:=JY (x:=true) (y:=false) (n:=n) (k:=r) oG;have oF:(List.replicate r true++List.replicate (n - r) false).length=n:=by simp;omega
   refine eZ ?_;refine dk ?_;refine ab ?_;refine au ?_;refine ab (aK (r+1) (aP eH ⟨rfl,?_,trivial⟩) oG oG);rw[<- uG,List.map_set];rfl
  .have bh:¬ r<a:=by have:=of_decide_eq_false h;omega
   have:r=a:=by omega
   subst this;exact aP eH eH
 clear hg;rintro s hg;refine⟨_,hg.trans (m9 (i:=2) (e:=4) (cs:=(List.replicate a true++List.replicate (n - a) false).map B) (l:=[(1,.pt (aD f)),(3,I n),(4,.rs 1 0 f.blocks.length)]) (ml:=[(1,.cells (dm (eT f.aj.length n f.blocks.length (j5 f.blocks.length a))) 158)]) rfl eH ⟨?_,trivial⟩),aC (aw ?_)⟩
 .rw[c4,Aw];refine congrArg (fun c=>some (Row.cells c 158)) ((Gp _ (fun _=>rfl) _).trans (congrArg dm ?_));rw[List.map_cons,No,Bq,List.drop_zero,dn oP];have:(List.replicate a true++List.replicate (n - a) false).length=n:=by simp;omega
  show(false,D.sl _ n)::T=(false,D.sl _ (List.length _))::T;rw[this]
 clear hg tu Aw No U T;refine SS ?_;have hG0:=D'.1;clear D';have WY:iB f.blocks a=ng f.blocks (qJ (j5 f.blocks.length a)+1) (j5 f.blocks.length a):=rfl;generalize iB f.blocks a=RR at WY ⊢
 refine ab (bV (fun s=>∃ N,Ghost prog s ⟨az [(4,.rs 1 0 f.blocks.length)],bm [(1,.cells (dm (eT f.aj.length n f.blocks.length RR)) 158)],N⟩) (y7 (α:=CS×Nat)
  (fun s=>⟨az [(1,.pt (aD f)),(3,I n),(4,.rs 1 0 f.blocks.length),(7,B s.1.ch)],bm [(1,.cells (dm (eT f.aj.length n f.blocks.length s.1)) 158)],s.2⟩)
  (fun s=>qc f.aj.length n f.blocks.length s.1/\2<=s.2/\(s.1.ch=true->∃ k,qJ s.1<k/\ng f.blocks k s.1=RR)/\(s.1.ch=false->s.1=RR)) (fun s=>2*qJ s.1+if s.1.ch=true then 1 else 0) (j5 f.blocks.length a,N3)
  (aP eH eH) ⟨hG0,oM,fun _=>⟨_,Nat.lt_succ_self _,WY.symm⟩,fun h=>by cases h⟩ ?_) ?_)
 .rintro⟨C,N0⟩ ⟨hG,VL,nM,xS⟩;dsimp only at hG VL nM xS ⊢;refine SS ?_;refine ab ⟨_,rfl,fun h0=>?_,fun h=>?_⟩
  .obtain⟨gz,Tv,xF⟩:=nM h0;obtain⟨gz,rfl⟩:∃ j,gz=j+1:=⟨gz - 1,oG⟩
   have xG:=Cw hF.ok.blk hG.ok;refine ws ?_;refine SS ?_;refine ab (aw ?_);refine SS ?_
   refine ab (cI (α:=Nat×Nat)
    (fun k=>⟨az [(1,.pt (aD f)),(3,I n),(4,.rs 1 0 f.blocks.length),(7,B ((List.range k.1).foldl (dH f.blocks) ⟨C.ws,C.re,false⟩).ch),(8,I k.1)],bm [(1,.cells (dm (eT f.aj.length n f.blocks.length ((List.range k.1).foldl (dH f.blocks) ⟨C.ws,C.re,false⟩))) 158)],k.2⟩)
    (fun k=>k.1<=f.blocks.length/\2<=k.2/\qc f.aj.length n f.blocks.length ((List.range k.1).foldl (dH f.blocks) ⟨C.ws,C.re,false⟩)) (fun k=>f.blocks.length - k.1) (0,N0) (aP eH eH) ⟨Nat.zero_le _,VL,QM hG false⟩ ?_)
   rintro⟨k,N⟩ ⟨hk,hN,Ax⟩;dsimp only at hk hN Ax ⊢;have cq:(List.range (k+1)).foldl (dH f.blocks) ⟨C.ws,C.re,false⟩=dH f.blocks ((List.range k).foldl (dH f.blocks) ⟨C.ws,C.re,false⟩) k:=by rw[List.range_succ,List.foldl_append];rfl
   have gd:k=f.blocks.length->(List.range k).foldl (dH f.blocks) ⟨C.ws,C.re,false⟩=j4 f.blocks C:=fun e=>by rw[e,j4]
   generalize (List.range k).foldl (dH f.blocks) ⟨C.ws,C.re,false⟩=u at Ax cq gd;refine aJ ?_;refine ab ⟨_,rfl,fun h=>?_,fun h=>?_⟩
   .have ap:k<f.blocks.length:=by simpa using h
    have hx:f.blocks[k]? =some f.blocks[k]:=aG ap;have X:f.blocks[k]∈f.blocks:=bO _;generalize f.blocks[k]=x at hx X;have J:dH f.blocks u k=if u.re.getD k false=true then(nextR x.fin).foldl (cO x.fin (je x (u.ws.getD k [])).1) u else u:=by rw[dH,hx]
    have Cq:=AI (R:=f.aj.length) (n:=n) (s:=u) ap;obtain⟨rr,kd⟩:=acX Cq;have qO:=QK Cq;have U:=(A3 (eT f.aj.length n f.blocks.length u)).trans (congrArg (·*2) (wV f.aj.length n f.blocks.length u));have Fv:cC f.aj.length n u k=if u.re.getD k false=true then⟨false,cz f.aj.length n (u.ws.getD k [])⟩ else⟨true,List.replicate n false⟩:=rfl
    have Ih:=Ax.yes k ap;have VM:=Ax.ok.VN ap;refine aC (ao ?_);cases lD:u.re.getD k false with
    |false=>
     rw[lD] at Fv J;rw[Fv] at kd;have J:dH f.blocks u k=u:=J;have kd:(dm (eT f.aj.length n f.blocks.length u)).drop (k*2+0)=B true::b9 (List.replicate n false)::rr:=kd;refine aV ?_;refine ab (cH rfl (fun h=>sk (xm ?_)) fun h=>oH);refine au ?_;refine ab (aK (k+1,N) (aP ⟨rfl,rfl,rfl,?_,rfl,trivial⟩ ⟨?_,trivial⟩) ⟨oM,hN,?_⟩ oM)
     .dsimp only;rw[cq,J];rfl
     .dsimp only;rw[cq,J];rfl
     .dsimp only;rw[cq,J];exact Ax
    |true=>
    rw[lD] at Fv J;rw[Fv] at kd qO;have J:dH f.blocks u k=(nextR x.fin).foldl (cO x.fin (je x (u.ws.getD k [])).1) u:=J;have Ih:=Ih lD;generalize u.ws.getD k []=w at Fv J kd qO Ih VM;have kd:(dm (eT f.aj.length n f.blocks.length u)).drop (k*2+0)=B false::b9 (cz f.aj.length n w)::rr:=kd;refine aV ?_;refine ab (cH rfl (fun h=>oH) fun h=>b7 (oW Yx ?_));have sb:(cz f.aj.length n w).length=n:=CQ ..;obtain⟨q1,q2,q3⟩:=CR (R:=f.aj.length) (n:=n) hR oG Nn (l:=x.ins) (ok:=true) (fun y hy=>hn▸(hF.ins x X y hy).1) VM Ih;have wm:PCall prog 127 [.agg (aD f),I k,.agg (cE ⟨false,cz f.aj.length n w⟩)] (.agg (cE (eV f.aj.length x.ins ⟨false,cz f.aj.length n w⟩))):=wm hx (by rw[hn];exact sb) (by show(cz f.aj.length n w).length<=_;omega) (fun y hy=>(hF.ins x X y hy).1) (by have:=(hF.ok.blk x X).len;omega);rw[q1] at wm;have E4:(je x w).1=(x.ins.foldl mw (w,true)).1:=rfl;rw[E4] at J;clear E4;generalize (x.ins.foldl mw (w,true)).1=w' at q1 q2 q3 wm J;refine aV ?_;refine aF (dx rfl rfl ta mI qO) dd (dy t158 mI (by rw[U];omega)) ?_;refine cl wm ?_;refine af ?_;have aiC:(cz f.aj.length n w').length=n:=CQ ..;refine a8 bf (aI (m9 (i:=N) (l:=[(1,.pt (aD f)),(3,I n),(4,.rs 1 0 f.blocks.length),(7,B u.ch),(8,I k),(9,.pt (cE ⟨false,cz f.aj.length n w'⟩))]) (ml:=[(1,.cells (dm (eT f.aj.length n f.blocks.length u)) 158)]) (up_same _ _ _) ⟨rfl,rfl,AX oG,rfl,rfl,lP,trivial⟩ ⟨wY oG (ag oG (ag oG rfl)) Jx,trivial⟩) (ao ?_));have gB:=gB hx (by have:=hw x X;omega);rw[(hF.ed x X).2] at gB;have dF:=(hF.ok.blk x X).to;have jA:=wW x.fin;have WU:=hw x X;have fI:=hF.wr x X;have uS:=(hF.ed x X).1;generalize nextR x.fin=l at gB dF jA J;refine af ?_;refine cl gB ?_;refine SS ?_;refine ab (aw ?_);refine SS ?_
    refine ab (cI (α:=Nat×Nat)
     (fun j=>⟨az [(1,.pt (aD f)),(3,I n),(4,.rs 1 0 f.blocks.length),(7,B ((l.take j.1).foldl (cO x.fin w') u).ch),(8,I k),(9,.pt (cE ⟨false,cz f.aj.length n w'⟩)),(10,aB l),(11,I j.1)],bm [(1,.cells (dm (eT f.aj.length n f.blocks.length ((l.take j.1).foldl (cO x.fin w') u))) 158)],j.2⟩)
     (fun j=>j.1<=l.length/\2<=j.2/\qc f.aj.length n f.blocks.length ((l.take j.1).foldl (cO x.fin w') u)) (fun j=>l.length - j.1) (0,N+1) (aP eH eH) ⟨Nat.zero_le _,oM,Ax⟩ ?_)
    clear qO U;rintro⟨j,N'⟩ ⟨hj,HY,Ii⟩;dsimp only at hj HY Ii ⊢;have ek:∀ t,l[j]? =some t->(l.take (j+1)).foldl (cO x.fin w') u=cO x.fin w' ((l.take j).foldl (cO x.fin w') u) t:=fun t ht=>l7 ht;have pg:j=l.length->(l.take j).foldl (cO x.fin w') u=dH f.blocks u k:=fun e=>by rw[J,dn oG]
    generalize (l.take j).foldl (cO x.fin w') u=v at Ii ek pg;refine aJ ?_;refine ab ⟨_,rfl,fun h=>?_,fun h=>?_⟩
    .have cF:j<l.length:=by simpa using h
     have ht:l[j]? =some l[j]:=aG cF;have oU:=dF _ (bO cF);generalize l[j]=t at ht oU;obtain⟨i,rfl⟩:=cN oU.1;have bl:i<f.blocks.length:=by omega
     have Cq:=AI (R:=f.aj.length) (n:=n) (s:=v) bl;have qO:=QK Cq;have U:=(A3 (eT f.aj.length n f.blocks.length v)).trans (congrArg (·*2) (wV f.aj.length n f.blocks.length v));have oV:=fun q=>IG (L:=eT f.aj.length n f.blocks.length v) (t:=i) q (by rw[wV];exact bl);obtain⟨Np,mX⟩:=QN (R:=f.aj.length) (n:=n) hR oG Nn Ii uS fI bl q2 q3;have ek:=ek _ ht
     have xY:PCall prog 126 [.agg (aD f),I k,I i,.agg (cE ⟨false,cz f.aj.length n w'⟩)] (.agg (cE (nw x.fin i ⟨false,cz f.aj.length n w'⟩))):=xY hx oG (by show(cz f.aj.length n w').length<=_;omega) (by
      rcases fI with e|⟨r,h1,h2⟩
      .exact .inl e
      .exact .inr ⟨r,by show r<(cz f.aj.length n w').length;omega,h2⟩)
     have jy:(nw x.fin i ⟨false,cz f.aj.length n w'⟩).is.length=n:=(OP ..).trans aiC;have cy:(cC f.aj.length n v i).is.length=n:=II;have BN:=BN (a:=cC f.aj.length n v i) (b:=nw x.fin i ⟨false,cz f.aj.length n w'⟩) (by rw[cy,jy]) oG;unfold BP at mX
     have B2:(qa (cC f.aj.length n v i) (nw x.fin i ⟨false,cz f.aj.length n w'⟩)).is.length=n:=by
      unfold qa;split
      .exact jy
      .split
       .exact cy
       .show(List.zipWith _ _ _).length=n;rw[List.length_zipWith];omega
     generalize qa (cC f.aj.length n v i) (nw x.fin i ⟨false,cz f.aj.length n w'⟩)=now at BN mX B2;generalize nw x.fin i ⟨false,cz f.aj.length n w'⟩=ov at xY BN jy;generalize alJ:cC f.aj.length n v i=l0 at BN mX cy qO;have qO:((dm (eT f.aj.length n f.blocks.length v)).drop (i*2)).take 2=cE l0:=qO;refine aw ?_;refine bK ?_;refine aF (dx rfl rfl ta mI qO) dd (dy t158 mI (by rw[U];omega)) ?_;refine af ?_;refine ab (aI (m9 (i:=N') (l:=[(1,.pt (aD f)),(3,I n),(4,.rs 1 0 f.blocks.length),(7,B v.ch),(8,I k),(9,.pt (cE ⟨false,cz f.aj.length n w'⟩)),(10,aB l),(11,I j),(12,.pt (cE l0))]) (ml:=[(1,.cells (dm (eT f.aj.length n f.blocks.length v)) 158)]) (up_same _ _ _) ⟨rfl,rfl,AX oG,rfl,rfl,rfl,rfl,rfl,lP,trivial⟩ ⟨wY oG (ag oG (ag oG rfl)) Jx,trivial⟩) (oW Yy ?_));refine bI ?_;refine cl xY ?_;refine cl BN ?_;refine af ?_;refine a8 bf (aI (m9 (i:=N'+1) (l:=[(1,.pt (aD f)),(3,I n),(4,.rs 1 0 f.blocks.length),(7,B v.ch),(8,I k),(9,.pt (cE ⟨false,cz f.aj.length n w'⟩)),(10,aB l),(11,I j),(12,.pt (cE l0)),(13,.pt (cE now))]) (ml:=[(1,.cells (dm (eT f.aj.length n f.blocks.length v)) 158)]) (up_same _ _ _) ⟨rfl,rfl,AX oG,rfl,rfl,rfl,rfl,rfl,rfl,lP,trivial⟩ ⟨wY oG (ag oG (ag oG rfl)) Jx,trivial⟩) (ao ?_));refine aJ ?_;refine aF (RD rfl rfl) ak V.h ?_;refine SS ?_;refine ab (aC (aw ?_));refine SS ?_
     refine ab (bV (fun s=>Ghost prog s ⟨az [(1,.pt (aD f)),(3,I n),(4,.rs 1 0 f.blocks.length),(7,B v.ch),(8,I k),(9,.pt (cE ⟨false,cz f.aj.length n w'⟩)),(10,aB l),(11,I j),(13,.pt (cE now)),(14,B (qb l0 now n))],bm [(1,.cells (dm (eT f.aj.length n f.blocks.length v)) 158)],N'+2⟩) (cI (α:=Nat) (fun q=>⟨az [(1,.pt (aD f)),(3,I n),(4,.rs 1 0 f.blocks.length),(7,B v.ch),(8,I k),(9,.pt (cE ⟨false,cz f.aj.length n w'⟩)),(10,aB l),(11,I j),(12,.pt (cE l0)),(13,.pt (cE now)),(14,B (qb l0 now q)),(15,I q)],bm [(1,.cells (dm (eT f.aj.length n f.blocks.length v)) 158)],N'+2⟩)
      (fun q=>q<=n) (fun q=>n - q) 0 (aP ⟨rfl,rfl,rfl,rfl,rfl,rfl,rfl,rfl,rfl,rfl,?_,rfl,trivial⟩ eH) oG ?_) ?_)
     .show B (l0.any==now.any)=B (qb l0 now 0);unfold qb;rw[List.range_zero,List.all_nil,Bool.and_true]
     .intro q hq;have yO:=Yw l0 now q;have WZ:q=n->qb l0 now q=qb l0 now n:=fun e=>by rw[e]
      generalize qb l0 now q=sq at yO WZ;refine au ?_;refine ab ⟨_,rfl,fun h=>?_,fun h=>?_⟩
      .have Cp:q<n:=by simpa using h
       have Ij:l0.is[q]? =some l0.is[q]:=aG oG;have W0:now.is[q]? =some now.is[q]:=aG oG;rw[getD_some Ij,getD_some W0] at yO;generalize l0.is[q]=b1 at Ij yO;generalize now.is[q]=b2 at W0 yO;refine kU Yz ?_;cases sq with
       |false=>
        refine af ?_;(iterate 11 refine z fun _ _=>?_);refine af ?_;refine a8 bf ?_;refine au ?_;refine ab (aK (q+1) (aP ⟨rfl,rfl,rfl,rfl,rfl,rfl,rfl,rfl,rfl,rfl,?_,rfl,trivial⟩ eH) oG oG);rw[yO];rfl
       |true=>
        refine aE ?_;refine au ?_;refine aiD ?_;refine af ?_;refine a8 bf ?_;refine au ?_;refine ab (aK (q+1) (aP ⟨rfl,rfl,rfl,rfl,rfl,rfl,rfl,rfl,rfl,rfl,?_,rfl,trivial⟩ eH) oG oG);rw[yO];rfl
      .have bh:¬ q<n:=by simpa using h
       rw[<- WZ oG];exact aP eH eH
     rintro s1 zX;have di:=ZE cy B2;generalize qb l0 now n=sq at zX di;refine⟨_,zX,ao ?_⟩;clear zX;refine af ?_;refine ab (av rfl (fun hp=>?_) fun hp=>ct ?_)
     .have hns:¬ (l0.any=now.any/\l0.is=now.is):=fun h=>by rw[di.2 h] at hp;cases hp
      have oV:=oV (EC now);rcases mX with⟨mX,_⟩|⟨_,tm,Nq⟩
      .exact absurd ⟨congrArg Cert.any mX.symm,congrArg Cert.is mX.symm⟩ hns
      rw[Yv Nq] at oV;refine c8 YA ?_;refine dk ?_;refine cJ (gq (vs:=cE now) rfl rfl rfl oV) dd (dQ t158 mI ⟨rfl,by rw[U];omega⟩ rfl) ?_;refine a8 bf (eZ ?_);refine SS ?_;refine ab ?_;refine au ?_;refine ab (aK (j+1,N'+2) (aP ⟨rfl,rfl,rfl,?_,rfl,rfl,rfl,rfl,trivial⟩ ⟨?_,trivial⟩) ⟨oM,oM,?_⟩ oM)
      .dsimp only;rw[ek,tm];rfl
      .dsimp only;rw[ek];rfl
      .dsimp only;rw[ek];exact Np
     .have hsq:sq=true:=by simpa using hp
      have W2:=di.1 hsq;rcases mX with⟨_,mX⟩|⟨aM,_,_⟩
      .rw[mX] at ek Np;refine au ?_;refine ab (aK (j+1,N'+2) (aP ⟨rfl,rfl,rfl,?_,rfl,rfl,rfl,rfl,trivial⟩ ⟨?_,trivial⟩) ⟨oM,oM,?_⟩ oM)
       .dsimp only;rw[ek];rfl
       .dsimp only;rw[ek];rfl
       .dsimp only;rw[ek];exact Np
      .exfalso;rcases aM with h|h
       .exact h W2.1.symm
       .exact h W2.2.symm
    .have bh:¬ j<l.length:=by simpa using h
     have vl:=pg oG;subst vl;show AOps _ _ _ _ _ _ _ _ _;refine au ?_;refine ab (aK (k+1,N') (aP ⟨rfl,rfl,rfl,?_,rfl,trivial⟩ ⟨?_,trivial⟩) ⟨oM,HY,?_⟩ oM)
     .dsimp only;rw[cq];rfl
     .dsimp only;rw[cq];rfl
     .dsimp only;rw[cq];exact Ii
   .have bh:¬ k<f.blocks.length:=by simpa using h
    have hl:=gd oG;subst hl;refine aK (j4 f.blocks C,N) (aP eH eH) ⟨Ax,hN,fun hc=>?_,fun hc=>?_⟩ ?_
    .refine⟨gz,?_,?_⟩
     .have:=xG.2;unfold oR at this;show qJ (j4 f.blocks C)<gz;rw[if_pos hc] at this;omega
     .dsimp only at hc ⊢;rw[<- xF,ng,if_pos hc]
    .dsimp only at hc ⊢;rw[<- xF,ng,if_neg (by simp[hc])]
    .have:=xG.2;unfold oR at this;dsimp only;rw[if_pos h0];split at this<;>rename_i hc
     .rw[if_pos hc];omega
     .rw[if_neg hc];omega
  .have E5:=xS h;subst E5;exact⟨N0,aP eH eH⟩
 .rintro s ⟨N4,hg⟩;refine⟨_,hg,aw ?_⟩;refine af ?_;refine ab (aI (bw [(1,dm (eT f.aj.length n f.blocks.length RR),158)] eH (l:=[(2,.sl (dm (eT f.aj.length n f.blocks.length RR)) f.blocks.length)]) ⟨?_,trivial⟩) (ax rfl rfl));show sub (fz0 1 _ (prog.cellsOf 158)) (D.rs 1 0 f.blocks.length)=_;rw[j0 (by rw[mI,A3,wV])]
end Go.Proofs.Tryz.K
namespace Go.Argus
open Go.Proofs.Tryz.K (nextR)
@[simp] theorem N8 (p : Bool × D) : (pk p).length = 2 := rfl
theorem NP{f:aA}(h:iV f=true):∀ b∈f.blocks,jI f b.fin=true:=fun b hb=>by
 unfold iV at h;simp only[aO] at h;obtain⟨_,_,_,h4,_⟩:=h;obtain⟨k,hk⟩:=dt hb;have:=bJ.1 h4 k (by simpa using(bL.1 hk).1);unfold jG at this;simp only[getD_some hk,aO] at this;exact this.1
theorem CL{f:aA}{k:Nat}{x:bB}(h:f.blocks[k]? =some x):fG f k=nextR x.fin:=by
 unfold fG bt bg;rw[bF,List.getElem?_map,h];rfl
theorem abZ{l:List Bool}{b:Nat}(hb:b<l.length)(h:l.getD b false=false):(l.set b true).count false<l.count false:=by
 have:=wT (wU h hb);omega
end Go.Argus
namespace Go.Proofs.Tryz.K
set_option maxRecDepth 10000
set_option maxHeartbeats 2000000 in
theorem Ik{f:aA}(hs:uw f)(hw:∀ b∈f.blocks,b.fin.aH.length<=9):PCall prog 55 [.agg (aD f)] (I (dS f)):=by
 rw[<- ZF];have BM:=BM hs hw;have HP:Ko f=if vu f=true then(if(List.range f.blocks.length).all (qd f (iB f.blocks f.args.toNat))=true then 0 else 81) else 80:=rfl
 refine bc aiE (.cons (.agg (fu f)) .nil) (Tr.s _) ?_;rw[aiF,HP];clear HP;refine aw ?_;refine af ?_;refine ab (aI (bw [(0,aD f,26)] eH (l:=[(1,.pt (aD f))]) eH) (ao ?_));cases hf:vu f with
 |false=>
  rw[hf] at BM;refine SS ?_;refine cl BM ?_;refine SS ?_;refine ab (aC (ao ?_));refine af ?_;refine ab (gU ?_);refine aC (ao ?_);refine SS ?_;exact ab (cK (ax rfl rfl))
 |true=>
 rw[hf] at BM;rw[if_pos rfl];rw[Of] at hf;have he:=NP hf;have hF:=Bo hf;have BO:=BO hF hw;have hR:=hF.ok.aj;have hS:=hF.sl;have B6:=hF.ok.lC;have oK:=oK (f:=f) rfl oG hw (fun b hb t ht=>by rw[(hF.ed b hb).2] at ht;exact(hF.ok.blk b hb).to t ht)
 have W3:∀ k,k<f.blocks.length->(j6 f.blocks)[k]? =some (bN f.blocks f.blocks.length k):=fun k hk=>by
  rw[<- I1 he];simp[j6,hk]
 have Ie:(j6 f.blocks).length=f.blocks.length:=by simp[j6]
 generalize j6 f.blocks=L at oK W3 Ie
 have W4:DR f (iB f.blocks f.args.toNat)=.sl ((eT f.aj.length (f.aj.length+f.aW.length) f.blocks.length (iB f.blocks f.args.toNat)).flatMap pk) (eT f.aj.length (f.aj.length+f.aW.length) f.blocks.length (iB f.blocks f.args.toNat)).length:=by
  unfold DR;rw[wV];rfl
 rw[W4] at BO;clear W4;generalize iB f.blocks f.args.toNat=RR at BO ⊢;have Nr:∀ k,k<f.blocks.length->(eT f.aj.length (f.aj.length+f.aW.length) f.blocks.length RR)[k]? =some (EC (cC f.aj.length (f.aj.length+f.aW.length) RR k)):=fun k hk=>AI hk;have hCl:=wV f.aj.length (f.aj.length+f.aW.length) f.blocks.length RR;generalize eT f.aj.length (f.aj.length+f.aW.length) f.blocks.length RR=CP at BO Nr hCl;refine SS ?_;refine cl BM ?_;refine SS ?_;refine ab (aC (ao ?_));refine af ?_;refine ab (hP (b7 (ao ?_)));refine SS ?_;refine cl BO ?_;refine SS ?_;refine er ?_;refine SS ?_;refine cl oK ?_;refine SS ?_;refine ab (aC (aw ?_));refine SS ?_
 refine ab (bV (fun s=>(∃ N,Ghost prog s ⟨az [],fun _=>none,N⟩)/\(List.range f.blocks.length).all (qd f RR)=true) (cI (α:=Nat×Nat) (fun q=>⟨az [(1,.pt (aD f)),(4,.sl (CP.flatMap pk) CP.length),(5,bG L),(6,I q.1)],fun _=>none,q.2⟩)
  (fun q=>q.1<=f.blocks.length/\(List.range q.1).all (qd f RR)=true) (fun q=>f.blocks.length - q.1) (0,1) (fU eH) ⟨Nat.zero_le _,rfl⟩ ?_) ?_)
 .rintro⟨k,N⟩ ⟨hk,bQ⟩;dsimp only at hk bQ ⊢;refine aV ?_;refine ab ⟨_,rfl,fun h=>?_,fun h=>?_⟩
  .have ap:k<f.blocks.length:=by simpa using h
   have hx:f.blocks[k]? =some f.blocks[k]:=aG ap;have bM:f.blocks[k]∈f.blocks:=bO _;have Cq:=Nr k ap;have iL:qd f RR k=false->(if(List.range f.blocks.length).all (qd f RR)=true then(0:Int) else 81)=81:=fun hq=>by rw[kO ap hq];rfl
   have yQ:qd f RR k=((cC f.aj.length (f.aj.length+f.aW.length) RR k).any||((List.range f.blocks[k].ins.length).all (zR f RR k f.blocks[k].ins (cC f.aj.length (f.aj.length+f.aW.length) RR k))&&sc (eV f.aj.length f.blocks[k].ins (cC f.aj.length (f.aj.length+f.aW.length) RR k)) (bS f.blocks[k].fin))):=by
    unfold qd;simp only[getD_some hx]
   have cy:(cC f.aj.length (f.aj.length+f.aW.length) RR k).is.length=f.aj.length+f.aW.length:=II;generalize f.blocks[k]=x at hx bM yQ;generalize cC f.aj.length (f.aj.length+f.aW.length) RR k=c at Cq yQ cy;obtain⟨ca,C⟩:=c;refine aC (ao ?_);cases ca with
   |true=>
    refine aV ?_;refine ab (cH rfl (fun h=>sk (xm ?_)) fun h=>oH);refine au ?_;exact ab (aK (k+1,N) (fU eH) ⟨oM,jY bQ yQ⟩ oM)
   |false=>
   refine aV ?_;refine ab (cH rfl (fun h=>oH) fun h=>b7 (aw ?_));rw[show({ any:=false,is:=C }:Cert).any=false from rfl,Bool.false_or] at yQ;refine bK ?_;refine ab (aI (aP (l:=[(1,.pt (aD f)),(4,.sl (CP.flatMap pk) CP.length),(5,bG L),(6,I k),(7,.rp N 0)]) (ml:=[(N,.cells (cE ⟨false,C⟩) 158)]) eH ⟨up_same _ _ _,trivial⟩) (ao ?_));refine dk ?_;have du:=(hF.ok.blk x bM).len;have aiG:=hF.ins x bM;have zG:=hF.Ck k x hx;have An:=W3 k ap;have BQ:=FJ (fun b hb t ht=>((hF.ok.blk b hb).to t ht).1) f.blocks.length k;have afM:=hF.ok.blk;have J:∀ y q,qe f RR k y q=qe f RR k y q:=fun _ _=>rfl;refine ab (aC (aw ?_));refine SS ?_
   refine ab (bV (fun s=>∃ N',Ghost prog s ⟨az [(1,.pt (aD f)),(4,.sl (CP.flatMap pk) CP.length),(5,bG L),(6,I k),(7,.rp N 0)],bm [(N,.cells (cE (eV f.aj.length x.ins ⟨false,C⟩)) 158)],N'⟩/\N<N'/\(List.range x.ins.length).all (zR f RR k x.ins ⟨false,C⟩)=true) (cI (α:=Nat×Nat) (fun j=>⟨az [(1,.pt (aD f)),(4,.sl (CP.flatMap pk) CP.length),(5,bG L),(6,I k),(7,.rp N 0),(8,dG x.ins),(9,I j.1)],bm [(N,.cells (cE (eV f.aj.length (x.ins.take j.1) ⟨false,C⟩)) 158)],j.2⟩)
    (fun j=>j.1<=x.ins.length/\N<j.2/\(List.range j.1).all (zR f RR k x.ins ⟨false,C⟩)=true) (fun j=>x.ins.length - j.1) (0,N+1) (aP eH ⟨up_same _ _ _,trivial⟩) ⟨Nat.zero_le _,Nat.lt_succ_self _,rfl⟩ ?_) ?_)
   .rintro⟨j,M⟩ ⟨hj,hM,vh⟩;dsimp only at hj hM vh ⊢;have aU:∀ y,x.ins[j]? =some y->eV f.aj.length (x.ins.take (j+1)) ⟨false,C⟩=wl f.aj.length (eV f.aj.length (x.ins.take j) ⟨false,C⟩) y:=fun y hy=>l7 hy;have gd:j=x.ins.length->eV f.aj.length (x.ins.take j) ⟨false,C⟩=eV f.aj.length x.ins ⟨false,C⟩:=fun e=>by rw[e,List.take_length]
    have yP:=(CE f.aj.length (x.ins.take j) ⟨false,C⟩).trans cy;have df:zR f RR k x.ins ⟨false,C⟩ j=(opsV f.aj.length (eV f.aj.length (x.ins.take j) ⟨false,C⟩) (x.ins.getD j dT)&&BR f RR k (x.ins.getD j dT)):=rfl;generalize eV f.aj.length (x.ins.take j) ⟨false,C⟩=d at aU gd yP df;refine aJ ?_;refine ab ⟨_,rfl,fun h=>?_,fun h=>?_⟩
    .have cF:j<x.ins.length:=by simpa using h
     have hy:x.ins[j]? =some x.ins[j]:=aG cF;have aU:=aU _ hy;rw[getD_some hy] at df;have wF:=aiG _ (bO cF);have gm:=zG j _ hy;have sT:zR f RR k x.ins ⟨false,C⟩ j=false->(if(List.range f.blocks.length).all (qd f RR)=true then(0:Int) else 81)=81:=fun hq=>iL (by rw[yQ,kO cF hq];rfl);generalize x.ins[j]=y at hy aU df wF gm;refine aw ?_;refine bK ?_;refine ab (aI (m9 (i:=M) (l:=[(1,.pt (aD f)),(4,.sl (CP.flatMap pk) CP.length),(5,bG L),(6,I k),(7,.rp N 0),(8,dG x.ins),(9,I j),(10,.pt (a9 y))]) (ml:=[(N,.cells (cE d) 158)]) (up_same _ _ _) ⟨rfl,rfl,rfl,rfl,F5 oG,rfl,rfl,lP,trivial⟩ ⟨wY oG (ag oG (ag oG (up_same _ _ _))) rfl,trivial⟩) (ew (fun s=>Ghost prog s ⟨az [(1,.pt (aD f)),(4,.sl (CP.flatMap pk) CP.length),(5,bG L),(6,I k),(7,.rp N 0),(8,dG x.ins),(9,I j),(10,.pt (a9 y))],bm [(N,.cells (cE d) 158)],M+1⟩/\opsV f.aj.length d y=true) ?_ ?_))
     .have aY:=(afM x bM).ins y (cx hy);clear aU gm;obtain⟨U,yt,ya,yb,yn,yl⟩:=y;have kK:opsV f.aj.length d ⟨U,yt,ya,yb,yn,yl⟩=((U !=17||d.is.getD ((f.aj.length:Int)+yn).toNat false)&&sc d (bU ⟨U,yt,ya,yb,yn,yl⟩)):=rfl;have lT:=lT (x:=⟨U,yt,ya,yb,yn,yl⟩) (fun ho=>by have:=aY.ar ho;dsimp only at this ⊢;omega)
      have s9:=s9 (c:=d) (rs:=bU ⟨U,yt,ya,yb,yn,yl⟩) (fun r hr=>by
       obtain⟨i,h1,h2⟩:=wF.2.r r hr
       exact⟨i,oG,h2⟩)
      generalize sc d (bU ⟨U,yt,ya,yb,yn,yl⟩)=v at s9 kK;generalize bU ⟨U,yt,ya,yb,yn,yl⟩=rs at s9 lT;have VO:opsV f.aj.length d ⟨U,yt,ya,yb,yn,yl⟩=false->I 81=I (if(List.range f.blocks.length).all (qd f RR)=true then 0 else 81):=fun hq=>by rw[sT (by rw[df,hq];rfl)]
      refine c8 ZG ?_;by_cases ix:U=17
      .obtain⟨i,hi,e⟩:=wF.2.s ix;dsimp only at e;subst e;have W5:d.is[f.aj.length+i]? =some d.is[f.aj.length+i]:=aG oG;have cM:(U==17)=true:=by simp[ix]
       rw[show((f.aj.length:Int)+(i:Int)).toNat=f.aj.length+i by omega,getD_some W5,show(U !=17)=false by simp[ix],Bool.false_or] at kK;generalize d.is[f.aj.length+i]=b at W5 kK;have nR:({ op:=U,to:=yt,a:=ya,b:=yb,n:=(i:Int),args:=yl }:a7).n=(i:Int):=rfl;refine aE ?_;refine bI ?_;refine bE rfl rfl (dx rfl (up_same _ _ _) V.h V.h rfl) (fun hc=>⟨ak,(dy V.h V.h (by first|(simp;done)|omega|exact bA rfl))⟩) ?_;refine SS ?_;refine gc lT ?_;refine gc s9 ?_;refine af ?_;refine a8 bf (av rfl (fun hp=>ao ?_) fun hp=>bj ⟨aP eH ⟨up_same _ _ _,trivial⟩,by rw[kK];revert hp;cases b<;>cases v<;>simp⟩);refine SS ?_;exact ab (aT (aL (bR (aL (bR (aL (ax rfl (VO (by rw[kK];revert hp;cases b<;>cases v<;>simp)))))))))
      .have cM:(U==17)=false:=by simp[ix]
       rw[show(U !=17)=true by simp[ix],Bool.true_or,Bool.true_and] at kK;refine aJ ?_;(iterate 11 refine z fun _ _=>?_);refine af ?_;refine bE rfl rfl (dx rfl (up_same _ _ _) V.h V.h rfl) (fun hc=>⟨ak,(dy V.h V.h (by first|(simp;done)|omega|exact bA rfl))⟩) ?_;refine SS ?_;refine gc lT ?_;refine gc s9 ?_;refine af ?_;refine a8 bf (av rfl (fun hp=>ao ?_) fun hp=>bj ⟨aP eH ⟨up_same _ _ _,trivial⟩,by rw[kK];revert hp;cases v<;>simp⟩);refine SS ?_;exact ab (aT (aL (bR (aL (bR (aL (ax rfl (VO (by rw[kK];revert hp;cases v<;>simp)))))))))
     rintro s ⟨hg,VP⟩;rw[VP,Bool.true_and] at df;clear VP;have iq:=iq (x:=y)
     have hp:EA d.is.length (bT y):=by
      rcases wF.1.w with e|⟨i,h1,h2⟩
      .exact .inl e
      .exact .inr ⟨i,oG,h2⟩
     have kw:=jU (c:=d) oG hp;have pL:=(FU d (bT y)).trans yP
     have kv:y.op=18->PCall prog 124 [.agg (cE (jt d (bT y))),I ((f.aj.length:Int)+y.n)] (.agg (cE (jt (jt d (bT y)) ((f.aj.length:Int)+y.n)))):=fun e=>jU oG (by
      obtain⟨i,h1,h2⟩:=wF.1.s e
      exact .inr ⟨f.aj.length+i,oG,by rw[h2];omega⟩)
     have g':y.op=18->0<=y.n/\y.n<=2000:=fun e=>by
      obtain⟨i,h1,h2⟩:=wF.1.s e;omega
     have sX:=aU;unfold wl at sX;generalize jt d (bT y)=d1 at kw pL kv sX;generalize bT y=w at iq kw;have jU:=kw;refine⟨_,hg,oW ZH ?_⟩;clear hg;refine af ?_;refine cl iq ?_;refine cl jU ?_;refine SS ?_;refine a8 bf (aI (aP (l:=[(1,.pt (aD f)),(4,.sl (CP.flatMap pk) CP.length),(5,bG L),(6,I k),(7,.rp N 0),(8,dG x.ins),(9,I j),(10,.pt (a9 y))]) (ml:=[(N,.cells (cE d1) 158)]) eH ⟨up_same _ _ _,trivial⟩) (ew (fun s=>Ghost prog s ⟨az [(1,.pt (aD f)),(4,.sl (CP.flatMap pk) CP.length),(5,bG L),(6,I k),(7,.rp N 0),(8,dG x.ins),(9,I j),(10,.pt (a9 y))],bm [(N,.cells (cE (eV f.aj.length (x.ins.take (j+1)) ⟨false,C⟩)) 158)],M+1⟩) (ao ?_) ?_))
     .refine au ?_;refine ab (av rfl (fun eB=>lM ?_) fun eB=>bj ?_)
      .have eB:y.op=18:=by simpa using eB
       rw[if_pos eB] at sX;have jU:=kv eB;have qF:=g' eB;refine dk ?_;refine cl jU ?_;refine SS ?_;refine ab (aP eH ⟨?_,trivial⟩);rw[sX];exact up_same _ _ _
      .have eB:¬ y.op=18:=by simpa using eB
       rw[if_neg eB] at sX;refine aP eH ⟨?_,trivial⟩;rw[sX];exact up_same _ _ _
     intro s hg;refine⟨_,hg,aw ?_⟩;clear hg sX kw kv pL jU iq hp g' aU;refine SS ?_;generalize W6:eV f.aj.length (x.ins.take (j+1)) ⟨false,C⟩=dj
     refine ab (cI (α:=Nat×Nat) (fun q=>⟨az [(1,.pt (aD f)),(4,.sl (CP.flatMap pk) CP.length),(5,bG L),(6,I k),(7,.rp N 0),(8,dG x.ins),(9,I j),(10,.pt (a9 y)),(11,I q.1)],bm [(N,.cells (cE dj) 158)],q.2⟩)
      (fun q=>q.1<=y.args.length/\N<q.2/\(q.1=0\/y.op=19)/\(List.range q.1).all (qe f RR k y)=true) (fun q=>y.args.length - q.1) (0,M+1) (aP eH ⟨up_same _ _ _,trivial⟩) ⟨Nat.zero_le _,oM,.inl rfl,rfl⟩ ?_)
     rintro⟨q,M2⟩ ⟨hq,mZ,aiH,Ay⟩;dsimp only at hq mZ aiH Ay ⊢;by_cases cG:y.op=19
     .have cM:(y.op==19)=true:=by simp[cG]
      have W7:bC y=true:=by simp[bC,cG]
      have gm:=(gm W7).1;have At:BR f RR k y=(List.range y.args.length).all (qe f RR k y):=by unfold BR;rw[W7];rfl
      have E7:∀ p∈bN f.blocks f.blocks.length k,∃ X:Nat,p=X/\X<f.blocks.length:=fun p hp=>by
       obtain⟨b,h1,h2,_⟩:=yU.1 hp;exact⟨b,h1,h2⟩
      have J:∀ q,qe f RR k y q=((cC f.aj.length (f.aj.length+f.aW.length) RR ((bN f.blocks f.blocks.length k).getD q 0).toNat).any||(nw (f.blocks.getD ((bN f.blocks f.blocks.length k).getD q 0).toNat jM).fin k (eV f.aj.length (f.blocks.getD ((bN f.blocks f.blocks.length k).getD q 0).toNat jM).ins (cC f.aj.length (f.aj.length+f.aW.length) RR ((bN f.blocks f.blocks.length k).getD q 0).toNat))).is.getD (y.args.getD q 0).toNat false):=fun q=>rfl;have aiI:=wF.2.p cG;have yD:=FH hw f.blocks.length k;generalize bN f.blocks f.blocks.length k=A at gm E7 J An yD;by_cases Cp:q<y.args.length
      .have nB:decide ((q:Int)<(y.args.length:Int))=true:=decide_eq_true oG;refine bI ?_;refine af ?_;refine ab ⟨_,rfl,fun h=>?_,fun h=>oH⟩;have J:=J q;have EX:A[q]? =some A[q]:=aG oG;obtain⟨X,e1,tx⟩:=E7 _ (bO (h:=by omega):A[q]∈A);rw[e1] at EX;clear e1;rw[getD_some EX,bx] at J;have Aw:=Nr X tx;have L7:(cC f.aj.length (f.aj.length+f.aW.length) RR X).is.length=f.aj.length+f.aW.length:=II;generalize cC f.aj.length (f.aj.length+f.aW.length) RR X=cp at Aw J L7;obtain⟨pa,pi⟩:=cp;refine ws ?_;refine bI ?_;refine ab (aC (ao ?_));cases pa with
       |true=>
        refine aV ?_;refine ab (cH rfl (fun h=>sk (xm ?_)) fun h=>oH);refine au ?_;exact ab (aK (q+1,M2) (aP eH ⟨up_same _ _ _,trivial⟩) ⟨oM,mZ,.inr cG,jY Ay J⟩ oM)
       |false=>
       refine aV ?_;refine ab (cH rfl (fun h=>oH) fun h=>b7 (oW ZI ?_));have u7:f.blocks[X]? =some f.blocks[X]:=aG tx;have ql:f.blocks[X]∈f.blocks:=bO _;rw[getD_some u7] at J;generalize f.blocks[X]=xp at u7 ql J;have wm:=wm (c:=⟨false,pi⟩) u7 L7 oG (fun y hy=>(hF.ins xp ql y hy).1) (by have:=(hF.ok.blk xp ql).len;omega);have g9:=(CE f.aj.length xp.ins ⟨false,pi⟩).trans L7;generalize eV f.aj.length xp.ins ⟨false,pi⟩=pc at wm J g9
       have xY:=xY (c:=pc) (to:=(k:Int)) u7 (by have:=hw xp ql;omega) oG (by
        rcases hF.wr xp ql with e|⟨r,h1,h2⟩
        .exact .inl e
        .exact .inr ⟨r,oG,h2⟩)
       have uX:=(OP xp.fin k pc).trans g9;generalize nw xp.fin k pc=zQ at xY J uX;have W8:y.args[q]? =some y.args[q]:=aG Cp;obtain⟨ri,Ai,e2⟩:=aiI _ (bO Cp);rw[e2] at W8;clear e2;have W9:zQ.is[ri]? =some zQ.is[ri]:=aG oG;rw[getD_some W8,bx,getD_some W9] at J;generalize zQ.is[ri]=bz at W9 J;have J:qe f RR k y q=bz:=J;refine aE ?_;refine cl wm ?_;refine cl xY ?_;refine af ?_;refine a8 bf (aI (m9 (i:=M2) (l:=[(1,.pt (aD f)),(4,.sl (CP.flatMap pk) CP.length),(5,bG L),(6,I k),(7,.rp N 0),(8,dG x.ins),(9,I j),(10,.pt (a9 y)),(11,I q),(13,.pt (cE zQ))]) (ml:=[(N,.cells (cE dj) 158)]) (up_same _ _ _) ⟨rfl,rfl,rfl,rfl,F5 oG,rfl,rfl,rfl,rfl,lP,trivial⟩ ⟨wY oG (ag oG (ag oG (up_same _ _ _))) rfl,trivial⟩) (c8 ZJ ?_));refine bI ?_;refine af ?_;refine a8 bf (av rfl (fun hp=>ao ?_) fun hp=>ct ?_)
       .have Ns:bz=false:=by simpa using hp
        refine SS ?_;refine ab (aT (bR (bR (aL (bR (aL (ax (d:=I 81) rfl ?_)))))));rw[sT (by rw[df,At,kO Cp (by rw[J,Ns])])]
       .have Ns:bz=true:=by simpa using hp
        refine au ?_;exact ab (aK (q+1,M2+1) (aP eH ⟨up_same _ _ _,trivial⟩) ⟨oM,oM,.inr cG,jY Ay (by rw[J,Ns])⟩ oM)
      .have nB:decide ((q:Int)<(y.args.length:Int))=false:=decide_eq_false oG;have:q=y.args.length:=by omega
       subst this;rw[<- At] at Ay;refine bI ?_;refine af ?_;refine ab ⟨_,rfl,fun h=>oH,fun h=>?_⟩;show AOps _ _ _ _ _ _ _ _ _;refine au ?_;refine ab (aK (j+1,M2) (aP eH ⟨?_,trivial⟩) ⟨oM,mZ,jY vh (by rw[df,Ay])⟩ oM);dsimp only;rw[W6];exact up_same _ _ _
     .have cM:(y.op==19)=false:=by simp[cG]
      have At:BR f RR k y=true:=by unfold BR bC;simp[cG]
      refine aJ ?_;(iterate 5 refine z fun _ _=>?_);refine SS ?_;refine ab ⟨_,rfl,fun h=>oH,fun h=>?_⟩;show AOps _ _ _ _ _ _ _ _ _;refine au ?_;refine ab (aK (j+1,M2) (aP eH ⟨?_,trivial⟩) ⟨oM,mZ,jY vh (by rw[df,At])⟩ oM);dsimp only;rw[W6];exact up_same _ _ _
    .have bh:¬ j<x.ins.length:=by simpa using h
     have:j=x.ins.length:=by omega
     subst this;rw[<- gd rfl];exact⟨M,aP eH ⟨up_same _ _ _,trivial⟩,hM,vh⟩
   .rintro s ⟨M,hg,hM,pN⟩;rw[pN,Bool.true_and] at yQ;have yP:=(CE f.aj.length x.ins ⟨false,C⟩).trans cy;refine⟨_,hg,c8 ZK ?_⟩;generalize eV f.aj.length x.ins ⟨false,C⟩=d at yQ yP;have rK:=rK (x:=x.fin) (fun h5 ho=>by have:=(hF.ok.Ly x bM h5).ar ho;omega) (fun h1=>by have:=(hF.ok.ends x bM).fin.a2 (by rcases h1 with e|e<;>simp[aN,e]);omega)
    have s9:=s9 (c:=d) (rs:=bS x.fin) (fun r hr=>by
     obtain⟨i,h1,h2⟩:=hF.rd x bM r hr
     exact⟨i,oG,h2⟩)
    rw[<- yQ] at s9;generalize bS x.fin=rs at rK s9;refine dk ?_;refine cl rK ?_;refine cl s9 ?_;refine SS ?_;refine a8 bf (av rfl (fun hp=>?_) fun hp=>ct ?_)
    .refine ws ?_;refine SS ?_;refine ab (aT (bR (aL (ax (d:=I 81) rfl ?_))));rw[iL (by simpa using hp)]
    .refine au ?_;exact ab (aK (k+1,M) (fU eH) ⟨oM,jY bQ (by simpa using hp)⟩ oM)
  .have bh:¬ k<f.blocks.length:=by simpa using h
   have:k=f.blocks.length:=by omega
   subst this;exact⟨⟨N,fU (l:=[]) trivial⟩,bQ⟩
 .rintro s ⟨⟨N,hg⟩,bQ⟩;refine⟨_,hg,ao ?_⟩;refine SS ?_;refine ab (ax (d:=I 0) rfl ?_);rw[bQ];rfl
end Go.Proofs.Tryz.K
end
namespace Go.Argus
open Go Go.Abs
section
variable{beh:Nat->List Int}{w:Int}{S:Nat->Prop}(hS:∀ x,S x->∀ c∈beh x,c≠w->S c.toNat)
include hS
theorem Rn:∀ (k:Nat) (s:List Bool×List Int) (b:Nat),S b->(∀ i,s.1.getD i false=true->S i)->∀ i,(eE beh w k s b).1.getD i false=true->S i
 |0,s,b,_,h,i,hi=>h i hi
 |k+1,s,b,hb,h,i,hi=>by
  rw[yX] at hi
  have h1:∀ i,(s.1.set b true).getD i false=true->S i:=fun i hi=>by
   rw[bF,List.getElem?_set] at hi;by_cases e:b=i
   .subst e;exact hb
   .rw[if_neg e, <- List.getD_eq_getElem?_getD] at hi;exact h i hi
  have key:∀ l:List Int,(∀ c∈l,c∈beh b)->∀ t:List Bool×List Int,(∀ i,t.1.getD i false=true->S i)->∀ i,(ep beh w k t l).1.getD i false=true->S i:=fun l=>by
   induction l with
   |nil=>exact fun _ t ht i hi=>ht i hi
   |cons c l ih=>
    intro hl t ht i hi;unfold ep at hi;rw[List.foldl_cons] at hi;refine ih (fun c hc=>hl c (by simp[hc])) _ ?_ i hi;split
    .rename_i hc;exact Rn k t c.toNat (hS b hb c (hl c oS) hc.2) ht
    .exact ht
  exact key (beh b) (fun _ h=>h) _ h1 i hi
theorem ZR{n:Nat}(h0:S 0):∀ i,(cS beh n w).getD i false=true->S i:=fun i hi=>by
 have C:∀ i,(List.replicate n false).getD i false=false:=fun i=>by
  rw[bF,List.getElem?_replicate];split<;>rfl
 unfold cS at hi;split at hi
 .rw[C] at hi;cases hi
 .exact Rn hS n _ 0 h0 (fun i hi=>by rw[C] at hi;cases hi) i hi
end
theorem YB{beh:Nat->List Int}{n:Nat}{w:Int}(hb:∀ b,∀ c∈beh b,0<=c/\c.toNat<n)(hn:0<n)(C:w≠0):(cS beh n w).getD 0 false=true/\∀ x,(cS beh n w).getD x false=true->∀ c∈beh x,c≠w->(cS beh n w).getD c.toNat false=true:=by
 obtain⟨_,h2,h3⟩:=HA hb hn w;unfold cS;rw[if_neg C];exact⟨h2,h3⟩
theorem aaN{beh:Nat->List Int}{n:Nat}{w:Int}(hb:∀ b,∀ c∈beh b,0<=c/\c.toNat<n)(hn:0<n){o:List Bool}(hl:o.length=n)(h0:o.getD 0 false=true)
 (hc:∀ x,o.getD x false=true->∀ c∈beh x,c≠w->o.getD c.toNat false=true) (C:∀ i,o.getD i false=true->(cS beh n w).getD i false=true):o=cS beh n w:=by
 have hr:=vn hb hn w;apply List.ext_getElem?;intro i;by_cases hi:i<n
 .have h1:o[i]? =some o[i]:=aG oG;have h2:(cS beh n w)[i]? =some (cS beh n w)[i]:=aG oG;have e1:o.getD i false=o[i]:=by simp[bF,h1]
  have e2:(cS beh n w).getD i false=(cS beh n w)[i]:=by simp[bF,h2]
  rw[h1,h2];congr 1;rw[Bool.eq_iff_iff, <- e1, <- e2];exact⟨C i,ZR (S:=fun i=>o.getD i false=true) hc h0 i⟩
 .rw[List.getElem?_eq_none oG,List.getElem?_eq_none oG]
section
variable{beh ahd:Nat->List Int}{n:Nat}(h:zL beh ahd n)
include h
end
section
variable{beh ahd:Nat->List Int}{n:Nat}(h:zL beh ahd n)
include h
end
end Go.Argus
section
open Go Go.Abs Go.Proofs Go.Argus
namespace Go.Proofs.Tryz.K
set_option maxRecDepth 10000
set_option maxHeartbeats 1000000 in
theorem aiJ{f:aA}(hF:vQ f)(hw:∀ b∈f.blocks,b.fin.aH.length<=9){w:Int}:OCall prog 75 [.agg (aD f),I w] ((cS (fG f) f.blocks.length w).map B) f.blocks.length 4:=by
 have hb:=beh_in hF.ok
 change ∀ b,∀ t∈fG f b,_ at hb
 have B6:=hF.ok.lC;have mR:=hF.ok.pos;have aZ:∀ a∈[D.agg (aD f),I w],Tr a:=.cons (.agg (fu f)) (.cons (.s _) .nil);refine Af aiK aZ (.map fun _=>.s _) ?_;rw[aiL];refine aw ?_;refine af ?_;refine ab (aI (bw [(0,aD f,26)] eH (l:=[(1,I w),(2,.pt (aD f))]) eH) (aw ?_));have dE:((f.blocks.length:Nat):Int).toNat=f.blocks.length:=bx _;refine aV ?_;refine ab (aI (aP (l:=[(1,I w),(2,.pt (aD f)),(5,.rs 1 0 f.blocks.length)]) (ml:=[(1,.cells ((List.replicate f.blocks.length false).map B) 4)]) ⟨rfl,rfl,congrArg (fun k=>D.rs 1 0 k) dE,trivial⟩ ⟨?_,trivial⟩) (aC (ao ?_)))
 .exact congrArg (fun c=>some (Row.cells c 4)) ((congrArg (fun k=>replD k [B false]) dE).trans (q7 _ false))
 by_cases rY:w=0
 .have cM:(w==0)=true:=by simp[rY]
  have hr:cS (fG f) f.blocks.length w=List.replicate f.blocks.length false:=by unfold cS;rw[if_pos rY]
  rw[hr];refine af ?_;refine ab (gU ?_);refine aC (ao ?_);refine af ?_;exact ab (cK (ax rfl ⟨1,rfl,rfl⟩))
 have cM:(w==0)=false:=by simp[rY]
 refine af ?_;refine ab (hP (b7 (aw ?_)));clear cM;obtain⟨zT,Xa⟩:=YB hb mR rY;have oF:=vn hb mR w;have wy:=fun(o:List Bool)=> @aaN (fG f) f.blocks.length w hb mR o;generalize cS (fG f) f.blocks.length w=RR at zT Xa oF wy ⊢;have hlz:((List.replicate f.blocks.length false).map B).length=f.blocks.length:=by simp
 refine au ?_;refine ab (aI (aP (l:=[(1,I w),(2,.pt (aD f)),(5,.rs 1 0 f.blocks.length)]) (ml:=[(1,.cells (((List.replicate f.blocks.length false).set 0 true).map B) 4)]) eH ⟨by rw[List.map_set];rfl,trivial⟩) (aw ?_));refine SS ?_
 refine ab (bV (fun s=>Ghost prog s ⟨az [(5,.rs 1 0 f.blocks.length)],bm [(1,.cells (RR.map B) 4)],2⟩) (y7 (α:=List Bool×Bool) (fun s=>⟨az [(1,I w),(2,.pt (aD f)),(5,.rs 1 0 f.blocks.length),(6,B s.2)],bm [(1,.cells (s.1.map B) 4)],2⟩)
  (fun s=>s.1.length=f.blocks.length/\s.1.getD 0 false=true/\(∀ i,s.1.getD i false=true->RR.getD i false=true)/\(s.2=false->∀ x,s.1.getD x false=true->∀ c∈fG f x,c≠w->s.1.getD c.toNat false=true)) (fun s=>2*s.1.count false+if s.2=true then 1 else 0) ((List.replicate f.blocks.length false).set 0 true,true)
  (aP eH eH) ⟨oS,?_,fun i hi=>?_,fun h=>by cases h⟩ ?_) ?_)
 .rw[y0 oP,if_pos rfl]
 .dsimp only at hi;rw[y0 oP] at hi;by_cases e:i=0
  .rw[e];exact zT
  .rw[if_neg e,bF,List.getElem?_replicate] at hi;split at hi<;>cases hi
 .rintro⟨U,t0⟩ ⟨ly,Nt,yj,Cr⟩;dsimp only at ly Nt yj Cr ⊢;refine SS ?_;refine ab ⟨_,rfl,fun ht=>?_,fun ht=>?_⟩
  .refine ws ?_;refine SS ?_;refine ab (aw ?_);refine SS ?_
   refine ab (cI (α:=Nat×List Bool×Bool) (fun s=>⟨az [(1,I w),(2,.pt (aD f)),(5,.rs 1 0 f.blocks.length),(6,B s.2.2),(7,I s.1)],bm [(1,.cells (s.2.1.map B) 4)],2⟩)
    (fun s=>s.1<=f.blocks.length/\s.2.1.length=f.blocks.length/\s.2.1.getD 0 false=true/\(∀ i,s.2.1.getD i false=true->RR.getD i false=true)/\(s.2.2=false->s.2.1=U/\∀ x,x<s.1->U.getD x false=true->∀ c∈fG f x,c≠w->U.getD c.toNat false=true)/\(s.2.2=true->s.2.1.count false<U.count false)) (fun s=>f.blocks.length - s.1) (0,U,false)
    (aP eH eH) ⟨Nat.zero_le _,ly,Nt,yj,fun _=>⟨rfl,fun x hx=>by dsimp only at hx;omega⟩,fun h=>by cases h⟩ ?_)
   rintro⟨k,o,t⟩ ⟨hk,hl,h0,C,hf,J⟩;dsimp only at hk hl h0 C hf J ⊢;have mL:(o.map B).length=f.blocks.length:=by simp[hl]
   refine aV ?_;refine ab ⟨_,rfl,fun h=>?_,fun h=>?_⟩
   .have ap:k<f.blocks.length:=by simpa using h
    have hx:f.blocks[k]? =some f.blocks[k]:=aG ap;have bM:f.blocks[k]∈f.blocks:=bO _;have gB:=gB hx (by have:=hw _ bM;omega);rw[(hF.ed _ bM).2, <- CL hx] at gB;have fT:=hb k;have VQ:=Xa k
    have aY:o[k]? =some (o.getD k false):=by
     rw[aG (show k<o.length by omega),getD_some (aG (show k<o.length by omega))]
    have wv:∀ b,o.getD k false=b->o.getD k false=b:=fun _ h=>h
    have jA:(fG f k).length<=100000:=by
     rw[CL hx];have:=wW f.blocks[k].fin;have:=hw _ bM;omega
    have kd:=gu (f:=B) aY;refine aC (ao ?_);generalize aiM:fG f k=l at gB fT VQ jA;cases X:o.getD k false with
    |false=>
     rw[X] at kd;refine aV ?_;refine ab (cH rfl (fun h=>sk (xm ?_)) fun h=>oH);refine au ?_;refine ab (aK (k+1,o,t) (aP eH eH) ⟨oM,hl,h0,C,fun h=>⟨(hf h).1,fun x hx tJ=>?_⟩,J⟩ oM);dsimp only at hx;by_cases e:x=k
     .subst e;rw[<- (hf h).1,X] at tJ;cases tJ
     .exact(hf h).2 x oG tJ
    |true=>
    rw[X] at kd;refine aV ?_;refine ab (cH rfl (fun h=>oH) fun h=>b7 (ao ?_));refine af ?_;refine cl gB ?_;refine SS ?_;refine ab (aw ?_);refine SS ?_
    refine ab (cI (α:=Nat×List Bool×Bool) (fun s=>⟨az [(1,I w),(2,.pt (aD f)),(5,.rs 1 0 f.blocks.length),(6,B s.2.2),(7,I k),(8,aB l),(9,I s.1)],bm [(1,.cells (s.2.1.map B) 4)],2⟩)
     (fun s=>s.1<=l.length/\s.2.1.length=f.blocks.length/\s.2.1.getD 0 false=true/\s.2.1.getD k false=true/\(∀ i,s.2.1.getD i false=true->RR.getD i false=true)/\(s.2.2=false->s.2.1=U/\(∀ x,x<k->U.getD x false=true->∀ c∈fG f x,c≠w->U.getD c.toNat false=true)/\∀ c∈l.take s.1,c≠w->U.getD c.toNat false=true)/\(s.2.2=true->s.2.1.count false<U.count false)) (fun s=>l.length - s.1) (0,o,t)
     (aP eH eH) ⟨Nat.zero_le _,hl,h0,X,C,fun h=>⟨(hf h).1,(hf h).2,fun c hc=>by simp at hc⟩,J⟩ ?_)
    clear hl h0 C hf J mL aY wv kd X;rintro⟨j,o,t⟩ ⟨hj,hl,h0,X,C,hf,J⟩;dsimp only at hj hl h0 X C hf J ⊢;have mL:(o.map B).length=f.blocks.length:=by simp[hl]
    refine aJ ?_;refine ab ⟨_,rfl,fun h=>?_,fun h=>?_⟩
    .have cF:j<l.length:=by simpa using h
     have hy:l[j]? =some l[j]:=aG cF;have iy:=fT _ (bO cF);have yN:=VQ (C k X) _ (bO cF);have eY:l.take (j+1)=l.take j++[l[j]]:=by rw[List.take_add_one,hy];rfl
     generalize l[j]=c at hy iy yN eY;obtain⟨i,rfl⟩:=cN iy.1;rw[bx] at iy yN
     have lV:o[i]? =some (o.getD i false):=by
      rw[aG (show i<o.length by omega),getD_some (aG (show i<o.length by omega))]
     have kd:=gu (f:=B) lV;refine ws ?_;by_cases r5:(i:Int)=w
     .have fQ:((i:Int) !=w)=false:=by simp[r5]
      refine dk ?_;(iterate 8 refine z fun _ _=>?_);refine SS ?_;refine ab (av rfl (fun h=>oH) fun h=>ct ?_);refine au ?_;refine ab (aK (j+1,o,t) (aP eH eH) ⟨oM,hl,h0,X,C,fun h=>⟨(hf h).1,(hf h).2.1,fun c hc aM=>?_⟩,J⟩ oM);dsimp only at hc;rw[eY] at hc;rcases List.mem_append.1 hc with hc|hc
      .exact(hf h).2.2 c hc aM
      .rw[List.mem_singleton.1 hc] at aM;exact absurd r5 aM
     .have fQ:((i:Int) !=w)=true:=by simp[r5]
      cases fJ:o.getD i false with
      |true=>
       rw[fJ] at kd;refine aE ?_;refine au ?_;refine bE rfl rfl (kV rfl rfl rfl V.h V.h) (fun hc=>⟨ak,⟨V.h,oG⟩⟩) ?_;refine bE rfl rfl (fV rfl rfl kd V.h) (fun hc=>⟨ak,(fW V.h V.h kd)⟩) ?_;refine af ?_;refine ab (av rfl (fun h=>oH) fun h=>ct ?_);refine au ?_;refine ab (aK (j+1,o,t) (aP eH eH) ⟨oM,hl,h0,X,C,fun h=>⟨(hf h).1,(hf h).2.1,fun c hc aM=>?_⟩,J⟩ oM);dsimp only at hc;rw[eY] at hc;rcases List.mem_append.1 hc with hc|hc
       .exact(hf h).2.2 c hc aM
       .rw[List.mem_singleton.1 hc,bx, <- (hf h).1];exact fJ
      |false=>
       rw[fJ] at kd;have nI:=abZ (show i<o.length by omega) fJ;have uG:∀ q,(o.set i true).getD q false=if q=i then true else o.getD q false:=fun q=>y0 oG
       refine aE ?_;refine au ?_;refine bE rfl rfl (kV rfl rfl rfl V.h V.h) (fun hc=>⟨ak,⟨V.h,oG⟩⟩) ?_;refine bE rfl rfl (fV rfl rfl kd V.h) (fun hc=>⟨ak,(fW V.h V.h kd)⟩) ?_;refine af ?_;refine ab (av rfl (fun h=>ao ?_) fun h=>oH);refine dk ?_;refine ab (eZ ?_);refine SS ?_;refine ab ?_;refine au ?_;refine ab (aK (j+1,o.set i true,true) (aP eH ⟨by rw[List.map_set];rfl,trivial⟩) ⟨oM,by dsimp only;rw[List.length_set];exact hl,?_,?_,fun q hq=>?_,fun h=>oH,fun _=>?_⟩ oM)
       .dsimp only;rw[uG];split
        .rfl
        .exact h0
       .dsimp only;rw[uG];split
        .rfl
        .exact X
       .dsimp only at hq;rw[uG] at hq;split at hq
        .rename_i e;rw[e];exact yN r5
        .exact C q hq
       .dsimp only;cases t with
        |false=>rw[(hf rfl).1] at nI ⊢;exact nI
        |true=>exact Nat.lt_trans nI (J rfl)
    .have bh:¬ j<l.length:=by simpa using h
     rw[dn oG] at hf;show AOps _ _ _ _ _ _ _ _ _;refine au ?_;refine ab (aK (k+1,o,t) (aP eH eH) ⟨oM,hl,h0,C,fun h=>⟨(hf h).1,fun x hx tJ=>?_⟩,J⟩ oM);dsimp only at hx;by_cases e:x=k
     .rw[e,aiM];exact(hf h).2.2
     .exact(hf h).2.1 x oG tJ
   .have bh:¬ k<f.blocks.length:=by simpa using h
    refine aK (o,t) (aP eH eH) ⟨hl,h0,C,fun h x tJ=>?_⟩ ?_
    .dsimp only at h tJ ⊢;have hh:=hf h;rw[hh.1] at tJ ⊢;by_cases hxk:x<k
     .exact hh.2 x hxk tJ
     .exfalso;rw[bF,List.getElem?_eq_none oG] at tJ;cases tJ
    .dsimp only;rw[if_pos ht];cases t with
     |false=>rw[(hf rfl).1];simp
     |true=>have:=J rfl;simp;omega
  .have ho:=wy U ly Nt (Cr ht) yj;rw[<- ho];exact aP eH eH
 .intro s hg;refine⟨_,hg,ao ?_⟩;refine af ?_;exact ab (ax rfl ⟨1,rfl,rfl⟩)
theorem wA{f:aA}(hF:vQ f)(C:∀ b∈f.blocks,b.fin.aH.length<=9){w:Int}:PCall prog 75 [.agg (aD f),I w] (b9 (cS (fG f) f.blocks.length w)):=by
 have hb:=beh_in hF.ok
 change ∀ b,∀ t∈fG f b,_ at hb
 have hl:=vn (w:=w) hb hF.ok.pos
 have h:=(aiJ hF C (w:=w)).adq (fun d hd=>by obtain⟨x,_,rfl⟩:=List.mem_map.1 hd;rfl) (.sl fun d hd=>by
  obtain⟨x,_,rfl⟩:=List.mem_map.1 (List.mem_of_mem_take hd)
  exact .s _)
 rw[c4,dn (by simp[hl])] at h;unfold b9;rw[hl];exact h
end Go.Proofs.Tryz.K
namespace Go.Argus
def Bc(f:aA)(l:List Int):Int:=if dS f=0 then(if l.all (fun x=>decide (0<=x)&&decide (x<(f.blocks.length:Int)))=true then 0 else 1) else dS f
theorem Cu{f:aA}(h:dS f=0):iV f=true:=by
 unfold dS at h;split at h
 .assumption
 .cases h
theorem Qx{l:List Bool}{i:Nat}(h:i<l.length):l[i]? =some (l.getD i false):=by
 rw[aG h,getD_some (aG h)]
theorem Y3{f:aA}(h:pA f=true):∀ b∈f.blocks,b.fin.aH.length<=9:=fun b hb=>by
 unfold pA at h;rw[aO,aO] at h;have:=bJ.1 h.2.2 b hb;rw[aO,Bool.not_eq_true'] at this;have:=this.1;unfold sK at this;simp only[Bool.or_eq_false_iff,decide_eq_false_iff_not] at this;omega
theorem Ou{f:aA}(h:iV f=true){k:Nat}(hk:k<f.blocks.length):(j6 f.blocks)[k]? =some (jP f k):=by
 have he:=NP h;rw[w7 hk, <- I1 he];simp[j6,hk]
end Go.Argus
namespace Go.Proofs.Tryz.K
set_option maxRecDepth 10000
theorem HU{f:aA}{l:List Int}(J:uw f)(U:∀ b∈f.blocks,b.fin.aH.length<=9)(hl:l.length<=1000):PCall prog 88 [.agg (aD f),aB l] (I (Bc f l)):=by
 have Ik:=Ik J U;refine bc aiN (.cons (.agg (fu f)) (.cons (dg _) .nil)) (Tr.s _) ?_;rw[aiO];unfold Bc;refine aw ?_;refine af ?_;refine ab (aI (bw [(0,aD f,26)] eH (l:=[(1,aB l),(2,.pt (aD f))]) eH) (ao ?_));generalize C:dS f=ce at Ik ⊢;refine SS ?_;refine cl Ik ?_;refine SS ?_;refine ab (aC (ao ?_));by_cases h0:ce=0
 .have fQ:(ce !=0)=false:=by simp[h0]
  refine af ?_;refine ab (hP (b7 (aC (aw ?_))));rw[if_pos h0];have B6:f.blocks.length<=1200:=(vC (Cu (C.trans h0))).lC;refine SS ?_
  refine ab (bV (fun s=>Ghost prog s ⟨az [],fun _=>none,1⟩/\l.all (fun x=>decide (0<=x)&&decide (x<(f.blocks.length:Int)))=true) (cI (α:=Nat) (fun k=>⟨az [(1,aB l),(2,.pt (aD f)),(6,I k)],fun _=>none,1⟩)
   (fun k=>k<=l.length/\∀ (j:Nat) y,j<k->l[j]? =some y->(decide (0<=y)&&decide (y<(f.blocks.length:Int)))=true) (fun k=>l.length - k) 0 (aq eH) ⟨oG,fun j y hj=>by omega⟩ ?_) ?_)
  .rintro k ⟨hk,hinv⟩;refine aJ ?_;refine ab ⟨_,rfl,fun h=>?_,fun h=>?_⟩
   .have ap:k<l.length:=by simpa using h
    have hx:l[k]? =some l[k]:=aG ap;generalize l[k]=x at hx;refine c8 aaO ?_;refine aE ?_;refine bK ?_;refine a8 bf (av rfl (fun hp=>?_) fun hp=>?_)
    .refine ws ?_;refine SS ?_;refine ab (aT (bR (aL (ax (d:=I 1) rfl ?_))));have:l.all (fun x=>decide (0<=x)&&decide (x<(f.blocks.length:Int)))=false:=List.all_eq_false.2 ⟨x,cx hx,by revert hp;simp;grind⟩;rw[this];rfl
    .refine ct ?_;refine au ?_;refine ab (aK (k+1) (aq eH) ⟨oG,fun j y hj hy=>?_⟩ oG);by_cases e:j=k
     .subst e;rw[hx] at hy;cases hy;revert hp;simp
     .exact hinv j y oG hy
   .have bh:¬ k<l.length:=by simpa using h
    exact⟨fU (l:=[]) trivial,bJ.2 fun y hy=>by
     obtain⟨j,hj⟩:=dt hy
     exact hinv j y (by have:=(bL.1 hj).1;omega) hj⟩
  .rintro s ⟨hg,X⟩;refine⟨_,hg,ao ?_⟩;refine SS ?_;refine ab (ax (d:=I 0) rfl ?_);rw[X];rfl
 .have fQ:(ce !=0)=true:=by simp[h0]
  refine af ?_;refine ab (gU ?_);refine aC (ao ?_);refine af ?_;refine ab (cK (ax rfl ?_));rw[if_neg h0];rfl
end Go.Proofs.Tryz.K
end
namespace Go.Argus
open Go Go.Abs
open Go.Proofs.Tryz.K (nextR lg_ok beh_in ord_in)
def Bf(x:End)(t:Int):Bool:=decide (iM t (dc x)=1)&&(x.to==t&&(x.kind !=3&&x.kind !=4))
def lZ(x:End)(t r:Int):Bool:=eg x==r&&Bf x t
def nL(y:bB)(A:List Int)(a r:Int):Bool:=(cg y).any fun z=>(List.range A.length).any fun k=>A.getD k 0==a&&z.args.getD k 0==r
def ux(r:Int)(s:Bool)(l:List a7):Bool:=l.foldr (fun y s=>(if bT y==r then false else s)||dJ (bU y) r) s
def se(f:aA)(M:Nat->Nat->Bool)(b r:Nat)(c:Int):Bool:= !(lZ (bu f b).fin c r)&&(M c.toNat r||nL (bu f c.toNat) (jP f c.toNat) b r)
def nT(f:aA)(M:Nat->Nat->Bool)(b r:Nat):Bool:=dJ (bS (bu f b).fin) r||(fG f b).any (se f M b r)
def l5(f:aA)(M:Nat->Nat->Bool)(b r:Nat):Bool:=ux r (nT f M b r) (bu f b).ins
def iO(M:Nat->Nat->Bool)(b r:Nat)(v:Bool):Nat->Nat->Bool:=fun x y=>if x=b/\y=r then v else M x y
theorem acb{l:List Int}{a:Int}(h:a∈l):∃ p:Nat,jO (fun y=>a==y) l=p/\l[p]? =some a:=by
 unfold jO;cases e:l.findIdx? (fun y=>a==y) with
 |none=>rw[List.findIdx?_eq_none_iff] at e;have:=e a h;simp at this
 |some p=>
  obtain⟨h1,h2,_⟩:=List.findIdx?_eq_some_iff_getElem.1 e;have:a=l[p]:=by simpa using h2
  exact⟨p,rfl,by rw[aG h1, <- this]⟩
theorem Oh{r:Nat}{s:Bool}:∀ {l:List a7},ux r s l=true↔qn r (s=true) l
 |[]=>Iff.rfl
 |y::l=>by
  have ih:=Oh (r:=r) (s:=s) (l:=l);unfold ux at ih ⊢;rw[List.foldr_cons,Bool.or_eq_true,jD];unfold qn;rw[<- ih];by_cases C:(bT y==(r:Int))=true
  .rw[if_pos C];have:bT y=r:=by simpa using C
   constructor
   .rintro(h|h)
    .cases h
    .exact .inl h
   .rintro(h|h)
    .exact .inr h
    .exact absurd this h.1
  .rw[if_neg C];have:bT y≠r:=by simpa using C
   constructor
   .rintro(h|h)
    .exact .inr ⟨this,h⟩
    .exact .inl h
   .rintro(h|h)
    .exact .inr h
    .exact .inl h.2
section
variable{f:aA}(hF:vQ f)
include hF
theorem aa7(c:Nat):(eN f c).Pairwise (·<·):=(FJ (fun b hb t ht=>by
 obtain⟨k,hk⟩:=dt hb;have:=beh_in hF.ok k t (by rw[qX hk];exact ht)
 exact this.1) _ _).1
omit hF in
theorem SC{b r:Nat}{c:Int}(hc:c∈fG f b):lZ (bu f b).fin c r=(gR (bu f b).fin c==(r:Int)):=by
 have hc:c∈bt (bg f) b:=hc
 have hb:b<f.blocks.length:=by
  rcases Nat.lt_or_ge b f.blocks.length with g|g
  .exact g
  .rw[CC g] at hc;simp at hc
 have hx:=aG hb;rw[qX hx] at hc;rw[iU hx];generalize f.blocks[b]=x at hc
 have hk:x.fin.kind≠3/\x.fin.kind≠4:=by
  have:¬ aN [3,4] x.fin.kind=true:=fun h=>by
   unfold nextR cX at hc;rw[if_pos h,Cx] at hc;simp at hc
  simp only[aN,List.any_cons,List.any_nil,Bool.or_false,Bool.or_eq_true,beq_iff_eq,not_or] at this;exact⟨fun e=>this.1 e,fun e=>this.2 e⟩
 have e:Bf x.fin c=zm x.fin c:=by
  unfold Bf zm;by_cases h1:iM c (dc x.fin)=1
  .simp[h1,hk.1,hk.2]
  .have:¬ ((iM c (dc x.fin):Int)==1)=true:=by simp;omega
   rw[if_neg this,decide_eq_false h1];rfl
 unfold lZ gR;rw[e];by_cases ha:zm x.fin c=true
 .rw[if_pos ha,ha,Bool.and_true]
 .have ha:zm x.fin c=false:=by simpa using ha
  rw[ha,if_neg oS,Bool.and_false];exact(beq_eq_false_iff_ne.2 oG).symm
theorem SD{b:Nat}{c r:Int}(hc:c∈fG f b):nL (bu f c.toNat) (jP f c.toNat) b r=true↔r∈jn (eN f c.toNat) b (bu f c.toNat):=by
 have h:=Lw hF.ok;have eK:=h.to b c hc;have hx:=aG eK.2
 have hm:(b:Int)∈eN f c.toNat:=by
  have:(b:Int)∈jP f c.toNat:=(h.fro _ _).2 ⟨oG,?_,?_⟩
  .rw[w7 eK.2] at this;exact this
  .rw[bx];rcases Nat.lt_or_ge b f.blocks.length with g|g
   .exact g
   .have hc:c∈bt (bg f) b:=hc;rw[CC g] at hc;simp at hc
  .rw[bx,Int.toNat_of_nonneg eK.1];exact hc
 have U:=aa7 hF c.toNat;have eA:jP f c.toNat=eN f c.toNat:=w7 eK.2;rw[eA]
 have gm:∀ z∈cg (bu f c.toNat),z.args.length=(eN f c.toNat).length:=fun z J=>by
  rw[iU hx] at J;exact(hF.ok.xQ hx J).1
 obtain⟨p,hp,X⟩:=acb hm;have C:=(bL.1 X).1;generalize eN f c.toNat=A at U gm hp C X;unfold nL jn;rw[hp,List.any_eq_true,List.mem_map]
 have key:∀ k,k<A.length->(A.getD k 0=(b:Int)↔k=p):=fun k hk=>by
  rw[bF,aG hk];show A[k]=_↔_
  have hq:A[p]=(b:Int):=by
   rw[aG C] at X;exact Option.some.inj X
  constructor
  .intro e;rw[List.pairwise_iff_getElem] at U;rcases Nat.lt_trichotomy k p with g|g|g
   .have:=U k p hk C g;omega
   .exact g
   .have:=U p k C hk g;omega
  .rintro rfl;exact hq
 constructor
 .rintro⟨z,J,hk⟩;obtain⟨k,hk,e⟩:=List.any_eq_true.1 hk;rw[List.mem_range] at hk;rw[aO,beq_iff_eq,beq_iff_eq] at e;have:=(key k hk).1 e.1;subst this;exact⟨z,J,by rw[bx];exact e.2⟩
 .rintro⟨z,J,e⟩;rw[bx] at e;refine⟨z,J,List.any_eq_true.2 ⟨p,List.mem_range.2 C,?_⟩⟩;rw[aO,beq_iff_eq,beq_iff_eq];exact⟨(key p C).2 rfl,e⟩
theorem Rq{M:Nat->Nat->Bool}{b r:Nat}{c:Int}(hc:c∈fG f b):se f M b r c=true↔Bu (cB f) (fun c=>M c r=true) b r c:=by
 unfold se Bu;rw[aO,Bool.or_eq_true,Bool.not_eq_true',SC hc,SD hF hc,beq_eq_false_iff_ne];exact and_congr_right fun _=>or_comm
theorem DF{M:Nat->Nat->Bool}{b r:Nat}:nT f M b r=true↔qo (cB f) (fun c=>M c r=true) b r:=by
 unfold nT qo;rw[Bool.or_eq_true,jD,List.any_eq_true];refine or_congr_right ⟨fun⟨c,hc,h⟩=>⟨c,hc,(Rq hF hc).1 h⟩,fun⟨c,hc,h⟩=>⟨c,hc,(Rq hF hc).2 h⟩⟩
theorem Gt{M:Nat->Nat->Bool}{b r:Nat}:l5 f M b r=true↔qp (cB f) (fun c=>M c r=true) b r:=by
 unfold l5 qp;rw[Oh];exact⟨AP (DF hF).1,AP (DF hF).2⟩
structure tK(f:aA)(M O:Nat->Nat->Bool):Prop where
 mi:∀ b r,M b r=true->ky f b=true/\lB f r b/\l5 f M b r=true
 mo:∀ b r,O b r=true->ky f b=true/\nT f M b r=true
omit hF in
theorem ZM:tK f (fun _ _=>false) (fun _ _=>false):=⟨fun _ _ h=>(Bool.noConfusion h),fun _ _ h=>(Bool.noConfusion h)⟩
theorem aaQ{M O:Nat->Nat->Bool}(h:tK f M O){b r:Nat}(hb:ky f b=true):
 tK f (iO M b r (l5 f M b r)) (iO O b r (nT f M b r))/\(M b r=true->l5 f M b r=true)/\(O b r=true->nT f M b r=true):=by
 have C:M b r=true->l5 f M b r=true:=fun e=>(h.mi b r e).2.2;have J:O b r=true->nT f M b r=true:=fun e=>(h.mo b r e).2
 have zS:∀ c q,M c q=true->iO M b r (l5 f M b r) c q=true:=fun c q e=>by
  unfold iO;split
  .rename_i hc;obtain⟨rfl,rfl⟩:=hc;exact C e
  .exact e
 have mi:∀ c q,l5 f M c q=true->l5 f (iO M b r (l5 f M b r)) c q=true:=fun c q e=>(Gt hF).2 (CH (fun c=>zS c q) ((Gt hF).1 e));have mo:∀ c q,nT f M c q=true->nT f (iO M b r (l5 f M b r)) c q=true:=fun c q e=>(DF hF).2 (AQ (fun c=>zS c q) ((DF hF).1 e));have U:l5 f M b r=true->lB f r b:=fun e=>O8 hF.ok r b (CH (fun c hc=>(h.mi c r hc).2.1) ((Gt hF).1 e));refine⟨⟨fun c q e=>?_,fun c q e=>?_⟩,C,J⟩
 .have X:=e;unfold iO at e;split at e
  .rename_i hc;obtain⟨rfl,rfl⟩:=hc;exact⟨hb,U e,mi _ _ e⟩
  .obtain⟨a1,a2,a3⟩:=h.mi c q e;exact⟨a1,a2,mi _ _ a3⟩
 .unfold iO at e;split at e
  .rename_i hc;obtain⟨rfl,rfl⟩:=hc;exact⟨hb,mo _ _ e⟩
  .obtain⟨a1,a2⟩:=h.mo c q e;exact⟨a1,mo _ _ a2⟩
theorem ab2{M O:Nat->Nat->Bool}(h:tK f M O){R:Nat}(hR:R=f.aj.length)(hc:∀ b r,ky f b=true->r<R->l5 f M b r=M b r/\nT f M b r=O b r):
 (∀ b r,r<R->(M b r=true↔bk ((lQ (cB f) f.blocks.length (gI f)).aX.getD b []) r=true))/\∀ b r,r<R->(O b r=true↔bk ((lQ (cB f) f.blocks.length (gI f)).out.getD b []) r=true):=by
 have J:=hF.ok
 have X:∀ b r,r<R->(M b r=true↔bk ((lQ (cB f) f.blocks.length (gI f)).aX.getD b []) r=true):=fun b r hr=>by
  rw[JS J r b];show _↔ky f b=true/\_;constructor
  .exact fun e=>⟨(h.mi b r e).1,(h.mi b r e).2.1⟩
  .rintro⟨C,hl⟩
   have U:∀ b,ky f b=true->qp (cB f) (fun c=>M c r=true) b r->M b r=true:=fun b C hb=>by
    rw[<- (hc b r C hr).1];exact(Gt hF).2 hb
   clear h
   induction hl with
   |here h1=>exact U _ C (A9 J (.inl h1))
   |read h1 h2 h3=>exact U _ C (A9 J (.inr ⟨h1,_,h2,.inl h3⟩))
   |@on b c h1 h2 h3 _ ih=>
    have:=Iu (beh_in J) J.pos C c h2;exact U _ C (A9 J (.inr ⟨h1,c,h2,.inr ⟨h3,ih this⟩⟩))
 refine⟨X,fun b r hr=>?_⟩;obtain⟨hI,_,ho⟩:=IY (lg_ok J) (ord_in J)
 have gV:∀ c:Nat,(c:Int)∈gI f↔ky f c=true:=fun c=>by
  rw[Qd J];simp[ky]
 by_cases C:ky f b=true
 .rw[ho b r ((gV b).2 C), <- (hc b r C hr).2,DF hF];exact⟨AQ fun c e=>(X c r hr).1 e,AQ fun c e=>(X c r hr).2 e⟩
 .constructor
  .intro e;exact absurd (h.mo b r e).1 C
  .intro e;exact absurd ((gV b).1 (hI.so b r e)) C
end
end Go.Argus
namespace Go.Proofs.Tryz.K
open Go.Abs
theorem ahy:xr=(S1 (G1 xr 0) (S1 (G1 xr 1) (S1 (S1 (G1 xr 2) (C1 15 (S1 (G1 xr 3) .ret) K1)) (S1 (G1 xr 4) (S1 (G1 xr 5) .ret))))):=kr
theorem sk5:od=(S1 (G1 od 0) (S1 (S1 (G1 od 1) (C1 37 (S1 (G1 od 2) .ret) K1)) (S1 (G1 od 3) (S1 (G1 od 4) (S1 (G1 od 5) (S1 (G1 od 6) (S1 (S1 (G1 od 7) (C1 87 (S1 (G1 od 8) .ret) K1)) (S1 (S1 (G1 od 9) (C1 89 (S1 (G1 od 10) .ret) K1)) (S1 (G1 od 11) (S1 (G1 od 12) .ret)))))))))):=kr
theorem YZ:drawInfo (Z fZ 11)=some []:=kr
theorem Y0:drawInfo (Z fZ 17)=some [(5,9),(5,10)]:=kr
theorem Y1:drawInfo (Z fZ 19)=some []:=kr
theorem Y2:drawInfo (Z fZ 20)=some []:=kr
theorem Ov:drawInfo (Z fZ 22)=some []:=kr
theorem ahz:fZ=(S1 (G1 fZ 0) (S1 (G1 fZ 1) (S1 (S1 (G1 fZ 2) (C1 23 (S1 (G1 fZ 3) .ret) K1)) (S1 (G1 fZ 4) (S1 (G1 fZ 5) (S1 (S1 (G1 fZ 6) (C1 43 (S1 (G1 fZ 7) .ret) K1)) (S1 (S1 (G1 fZ 8) (B1 0 (.loop (S1 (S1 (G1 fZ 9) (C1 47 K1 (X1 0))) (S1 (B1 1 (S1 (G2 fZ 11) (C1 74 (S1 (G1 fZ 12) .ret) K1))) (G1 fZ 10)))))) (S1 (G1 fZ 13) (S1 (S1 (G1 fZ 14) (B1 2 (.loop (S1 (S1 (G1 fZ 15) (C1 80 K1 (X1 2))) (S1 (B1 3 (S1 (G2 fZ 17) (C1 128 (S1 (G1 fZ 18) .ret) K1))) (G1 fZ 16)))))) (S1 (G2 fZ 19) (S1 (S1 (G2 fZ 20) (C1 149 (S1 (G1 fZ 21) .ret) K1)) (S1 (G2 fZ 22) .ret)))))))))))):=kr
theorem aiP:vG=(S1 (G1 vG 0) (S1 (S1 (G1 vG 1) (B1 0 (.loop (S1 (S1 (G1 vG 2) (C1 9 K1 (X1 0))) (S1 (B1 1 (S1 (G1 vG 4) (C1 17 (S1 (G1 vG 5) .ret) K1))) (G1 vG 3)))))) (S1 (G1 vG 6) .ret))):=kr
theorem PO:drawInfo (Z dU 6)=some []:=kr
theorem PQ:drawInfo (Z dU 7)=some []:=kr
theorem ZN:drawInfo (Z dU 24)=some []:=kr
theorem aiV:dU=(S1 (G1 dU 0) (S1 (G1 dU 1) (S1 (G1 dU 2) (S1 (S1 (G1 dU 3) (B1 0 (.loop (S1 (S1 (G1 dU 4) (C1 22 K1 (X1 0))) (S1 (B1 1 (S1 (G2 dU 6) (G2 dU 7))) (G1 dU 5)))))) (S1 (G1 dU 8) (S1 (G1 dU 9) (S1 (S1 (G1 dU 10) (B1 2 (.loop (S1 (S1 (G1 dU 11) (C1 47 K1 (X1 2))) (B1 3 (S1 (G1 dU 12) (S1 (G1 dU 13) (B1 4 (.loop (S1 (S1 (G1 dU 14) (C1 50 K1 (X1 4))) (S1 (B1 5 (S1 (G1 dU 16) (B1 6 (.loop (S1 (S1 (G1 dU 17) (C1 63 K1 (X1 6))) (S1 (B1 7 (S1 (G1 dU 19) (S1 (G1 dU 20) (S1 (S1 (G1 dU 21) (B1 8 (.loop (S1 (S1 (G1 dU 22) (C1 81 K1 (X1 8))) (S1 (B1 9 (G2 dU 24)) (G1 dU 23)))))) (S1 (G1 dU 25) (S1 (S1 (G1 dU 26) (B1 10 (.loop (S1 (S1 (G1 dU 27) (C1 130 K1 (X1 10))) (S1 (B1 11 (S1 (G1 dU 29) (S1 (S1 (G1 dU 30) (C1 145 (G1 dU 31) K1)) (G1 dU 32)))) (G1 dU 28)))))) (S1 (G1 dU 33) (S1 (G1 dU 34) (G1 dU 35))))))))) (G1 dU 18))))))) (G1 dU 15)))))))))))) (S1 (G1 dU 36) .ret)))))))):=kr
theorem ahq:zp=(S1 (G1 zp 0) (S1 (G1 zp 1) (S1 (S1 (G1 zp 2) (C1 24 (G1 zp 3) K1)) (S1 (G1 zp 4) .ret)))):=kr
theorem aiR:DY=(S1 (G1 DY 0) (S1 (G1 DY 1) (S1 (G1 DY 2) .ret))):=kr
theorem ahs:vH=(S1 (G1 vH 0) (S1 (S1 (G1 vH 1) (B1 0 (.loop (S1 (S1 (G1 vH 2) (C1 12 K1 (X1 0))) (S1 (B1 1 (S1 (G1 vH 4) (C1 26 (S1 (G1 vH 5) .ret) K1))) (G1 vH 3)))))) (S1 (G1 vH 6) .ret))):=kr
theorem ahu:vI=(S1 (G1 vI 0) (S1 (S1 (G1 vI 1) (B1 0 (.loop (S1 (S1 (G1 vI 2) (C1 19 K1 (X1 0))) (S1 (B1 1 (S1 (G1 vI 4) (C1 33 (S1 (G1 vI 5) .ret) K1))) (G1 vI 3)))))) (S1 (G1 vI 6) .ret))):=kr
theorem ahw:rv=(S1 (G1 rv 0) (S1 (S1 (G1 rv 1) (B1 0 (.loop (S1 (S1 (G1 rv 2) (C1 21 K1 (X1 0))) (S1 (B1 1 (S1 (G1 rv 4) (S1 (S1 (G1 rv 5) (C1 36 (S1 (G1 rv 6) .ret) K1)) (S1 (G1 rv 7) (C1 40 (S1 (G1 rv 8) .ret) K1))))) (G1 rv 3)))))) (S1 (G1 rv 9) .ret))):=kr
theorem aiT:rA=(S1 (G1 rA 0) (S1 (S1 (G1 rA 1) (B1 0 (.loop (S1 (S1 (G1 rA 2) (C1 17 K1 (X1 0))) (S1 (B1 1 (S1 (G1 rA 4) (B1 2 (.loop (S1 (S1 (G1 rA 5) (C1 26 K1 (X1 2))) (S1 (B1 3 (S1 (G1 rA 7) (C1 54 (S1 (G1 rA 8) .ret) K1))) (G1 rA 6))))))) (G1 rA 3)))))) (S1 (G1 rA 9) .ret))):=kr
theorem afW:sA=(S1 (G1 sA 0) (S1 (G1 sA 1) (S1 (G1 sA 2) (S1 (S1 (G1 sA 3) (B1 0 (.loop (S1 (S1 (G1 sA 4) (C1 13 K1 (X1 0))) (S1 (B1 1 (S1 (G1 sA 6) (C1 21 (G1 sA 7) K1))) (G1 sA 5)))))) (S1 (G1 sA 8) .ret))))):=kr
theorem afU:ze=(S1 (G1 ze 0) (S1 (G1 ze 1) (S1 (B1 0 (.loop (S1 (S1 (G1 ze 2) (C1 27 K1 (X1 0))) (B1 1 (G1 ze 3))))) (S1 (G1 ze 4) .ret)))):=kr
end Go.Proofs.Tryz.K
section
open Go Go.Abs Go.Proofs Go.Argus
namespace Go.Abs
theorem gQ.nil{m:Mem}{nx j:Nat}{e et:TypeId}{ρ:Nat->Nat}{L:Nat->List D}(hm:m j=some (.cells [] e))(hj:j<nx):gQ m nx j 0 e et ρ L:=
 ⟨hm,hj,fun _ h=>absurd h (Nat.not_lt_zero _),fun _ h=>absurd h (Nat.not_lt_zero _),fun _ h=>absurd h (Nat.not_lt_zero _),fun _ _ h=>absurd h (Nat.not_lt_zero _)⟩
theorem gQ.put{m:Mem}{nx j n i:Nat}{e et:TypeId}{ρ:Nat->Nat}{L:Nat->List D}{l:List D}(h:gQ m nx j n e et ρ L)(hi:i<n)(hl:l.length=(L i).length)(U:L i≠[]):gQ (up m (ρ i) (some (.cells l et))) nx j n e et ρ (up L i l):=by
 have ly:l≠[]:=fun e=>by
  subst e;exact U (List.eq_nil_of_length_eq_zero hl.symm)
 have J:∀ k,up L i l k≠[]->L k≠[]:=fun k hk=>by
  by_cases e:k=i
  .subst e;exact U
  .rwa[up_ne _ _ e] at hk
 refine⟨?_,h.kJ,fun k hk C=>?_,fun k hk C=>h.lt k hk (J k C),fun k hk C=>h.ne k hk (J k C),fun a b ha hb X Ce=>h.inj a b ha hb (J a X) (J b Ce)⟩
 .rw[up_ne _ _ (fun e=>h.ne i hi U e.symm),h.row];congr 2;refine List.map_congr_left fun k hk=>?_;by_cases e:k=i
  .subst e;rw[up_same,rD ly,rD U,hl]
  .rw[up_ne _ _ e]
 .by_cases e:k=i
  .subst e;rw[up_same,up_same]
  .rw[up_ne _ _ e,up_ne _ _ fun e'=>e (h.inj k i hk hi (J k C) U e')];exact h.kA k hk (J k C)
structure l6(m:Mem)(nx j n w:Nat)(e et:TypeId)(ρ:Nat->Nat)(L:Nat->List D):Prop where
 row:m j=some (.cells ((List.range n).map fun i=>D.rs (ρ i) 0 w) e)
 kJ:j<nx
 kA:∀ i,i<n->m (ρ i)=some (.cells (L i) et)
 len:∀ i,i<n->(L i).length=w
 lt:∀ i,i<n->ρ i<nx
 ne:∀ i,i<n->ρ i≠j
 inj:∀ a b,a<n->b<n->ρ a=ρ b->a=b
section
variable{m m':Mem}{nx nx' j n w:Nat}{e et:TypeId}{ρ:Nat->Nat}{L:Nat->List D}
theorem l6.ext(h:l6 m nx j n w e et ρ L)(hm:∀ q,(q=j\/∃ i,i<n/\ρ i=q)->m' q=m q)(hn:nx<=nx'):l6 m' nx' j n w e et ρ L:=
 ⟨(hm j (.inl rfl)).trans h.row,Nat.lt_of_lt_of_le h.kJ hn,fun i hi=>(hm _ (.inr ⟨i,hi,rfl⟩)).trans (h.kA i hi),h.len,fun i hi=>Nat.lt_of_lt_of_le (h.lt i hi) hn,h.ne,h.inj⟩
theorem l6.one{r:Nat}{l:List D}(hr:m j=some (.cells [.rs r 0 w] e))(hl:m r=some (.cells l et))(J:l.length=w)(hj:j<nx)(U:r<nx)(C:r≠j):l6 m nx j 1 w e et (fun _=>r) (fun _=>l):=
 ⟨hr,hj,fun _ _=>hl,fun _ _=>J,fun _ _=>U,fun _ _=>C,fun a b ha hb _=>by omega⟩
theorem l6.push{j' r:Nat}{l:List D}(h:l6 m nx j n w e et ρ L)(hw:l.length=w)(hr:nx<=r)(gN:r<nx')(hj:nx<=j')(oB:j'<nx')(aM:r≠j')
 (ay:m' j'=some (.cells ((List.range n).map (fun i=>D.rs (ρ i) 0 w)++[.rs r 0 w]) e)) (X:m' r=some (.cells l et)) (hk:∀ i,i<n->m' (ρ i)=m (ρ i)):l6 m' nx' j' (n+1) w e et (up ρ n r) (up L n l):=by
 refine⟨?_,oB,fun i hi=>?_,fun i hi=>?_,fun i hi=>?_,fun i hi=>?_,fun a b ha hb J=>?_⟩
 .rw[ay,List.range_succ,List.map_append];congr 3
  .exact List.map_congr_left fun i hi=>by rw[up_ne _ _ (by have:=List.mem_range.1 hi;omega)]
  .show [_]=[D.rs (up ρ n r n) 0 w]
   rw[up_same]
 .by_cases e:i=n
  .subst e;rw[up_same,up_same];exact X
  .rw[up_ne _ _ e,up_ne _ _ e,hk i oG];exact h.kA i oG
 .by_cases e:i=n
  .subst e;rw[up_same];exact hw
  .rw[up_ne _ _ e];exact h.len i oG
 .by_cases e:i=n
  .subst e;rw[up_same];exact gN
  .rw[up_ne _ _ e];have:=h.lt i oG;omega
 .by_cases e:i=n
  .subst e;rw[up_same];exact aM
  .rw[up_ne _ _ e];have:=h.lt i oG;omega
 .by_cases U:a=n
  .by_cases C:b=n
   .omega
   .subst U;rw[up_same,up_ne _ _ C] at J;have:=h.lt b oG;omega
  .by_cases C:b=n
   .subst C;rw[up_same,up_ne _ _ U] at J;have:=h.lt a oG;omega
   .rw[up_ne _ _ U,up_ne _ _ C] at J;exact h.inj a b oG oG J
theorem l6.put{i:Nat}{l:List D}(h:l6 m nx j n w e et ρ L)(hi:i<n)(hl:l.length=w):l6 (up m (ρ i) (some (.cells l et))) nx j n w e et ρ (up L i l):=by
 refine⟨?_,h.kJ,fun k hk=>?_,fun k hk=>?_,h.lt,h.ne,h.inj⟩
 .rw[up_ne _ _ (fun e=>h.ne i hi e.symm)];exact h.row
 .by_cases e:k=i
  .subst e;rw[up_same,up_same]
  .rw[up_ne _ _ fun C=>e (h.inj k i hk hi C),up_ne _ _ e];exact h.kA k hk
 .by_cases e:k=i
  .subst e;rw[up_same];exact hl
  .rw[up_ne _ _ e];exact h.len k hk
theorem JA{i:Nat}(h:i<n):∃ cs,((List.range n).map fun i=>D.rs (ρ i) 0 w).drop i=D.rs (ρ i) 0 w::cs:=⟨_,gu (f:=fun i=>D.rs (ρ i) 0 w) (by simp[h])⟩
end
section
variable{P:Program}
open Classical in
noncomputable def mJ(mm:Mem)(j n w k:Nat)(e et:TypeId)(ρ:Nat->Nat)(L:Nat->List D):Mem:=fun q=>
 if q=j then some (.cells ((List.range n).map fun i=>if i<k then .sl (L i) w else .rs (ρ i) 0 w) e)
 else if h:∃ i,k<=i/\i<n/\ρ i=q then some (.cells (L (Classical.choose h)) et)
 else mm q
theorem aa8{m:Mem}{nx j n w k:Nat}{e et:TypeId}{ρ:Nat->Nat}{L:Nat->List D}{l:List (Nat×D)}{mm:Mem}{X:Nat->Prop}(h:l6 m nx j n w e et ρ L)(hs:∀ i,pC (L i))(J:P.cellsOf et=1)
 (C:∀ i,i<n->X (ρ i)) (hl:∀ x∈l,lc X x.2) (qE:∀ q r,mm q=some r->j8 X r/\¬ X q) (hk:k<n):
 Ghost P ⟨az l,mJ mm j n w k e et ρ L,nx⟩ ⟨az l,mJ mm j n w (k+1) e et ρ L,nx⟩:=by
 have E6:ρ k≠j:=h.ne k hk
 have ay:mJ mm j n w k e et ρ L (ρ k)=some (.cells (L k) et):=by
  have hc:∃ i,k<=i/\i<n/\ρ i=ρ k:=⟨k,bP _,hk,rfl⟩
  simp only[mJ,if_neg E6,dif_pos hc];have e1:=Classical.choose_spec hc;have:Classical.choose hc=k:=h.inj _ _ e1.2.1 hk e1.2.2;rw[this]
 have hg:=Ghost.freeze (P:=P) (az l) (mJ mm j n w k e et ρ L) nx (ρ k) (L k) et ay;have e1:(fun t=>sub (fz0 (ρ k) (L k) (P.cellsOf et)) (az l t))=az l:=funext fun t=>Oa hl t _ _ _ (C k hk)
 have e2:(fun q=>if q=ρ k then none else(mJ mm j n w k e et ρ L q).map (Row.sub (fz0 (ρ k) (L k) (P.cellsOf et))))=mJ mm j n w (k+1) e et ρ L:=by
  funext q;by_cases U:q=ρ k
  .subst U;rw[if_pos rfl]
   have hc:¬ ∃ i,k+1<=i/\i<n/\ρ i=ρ k:=by
    rintro⟨i,g1,g2,g4⟩;have:=h.inj _ _ g2 hk g4;omega
   simp only[mJ,if_neg E6,dif_neg hc];cases hm:mm (ρ k) with
   |none=>rfl
   |some r=>exact absurd (C k hk) (qE _ r hm).2
  .rw[if_neg U];by_cases qK:q=j
   .subst qK;simp only[mJ,if_true,Option.map_some];congr 1;show Row.cells (List.map _ (List.map _ _)) e=_;rw[List.map_map];congr 1;refine List.map_congr_left fun i hi=>?_;have bl:i<n:=by simpa using hi
    simp only[Function.comp_apply];by_cases h1:i<k
    .rw[if_pos h1,if_pos oG];rfl
    .rw[if_neg h1];by_cases h2:i=k
     .subst h2;rw[if_pos oG,J];exact j0 (by have:=h.len i hk;omega)
     .rw[if_neg oG];exact vo fun e=>h2 (h.inj _ _ bl hk e)
   .simp only[mJ,if_neg qK]
    have this:(∃ i,k+1<=i/\i<n/\ρ i=q)↔(∃ i,k<=i/\i<n/\ρ i=q):=by
     constructor
     .rintro⟨i,h1,h2⟩;exact⟨i,oG,h2⟩
     .rintro⟨i,h1,h2,h4⟩
      exact⟨i,by
       rcases Nat.lt_or_ge k i with g|g
       .exact g
       .have:i=k:=by omega
        subst this;exact absurd h4.symm U,h2,h4⟩
    by_cases hc:∃ i,k<=i/\i<n/\ρ i=q
    .rw[dif_pos (this.2 hc),dif_pos hc];have e1:=Classical.choose_spec hc;have e2:=Classical.choose_spec (this.2 hc);have:Classical.choose (this.2 hc)=Classical.choose hc:=h.inj _ _ e2.2.1 e1.2.1 (e2.2.2.trans e1.2.2.symm);rw[this];exact congrArg some (j8.Ep (X:=X) (hs _) _ _ _ (C k hk))
    .rw[dif_neg (fun h=>hc (this.1 h)),dif_neg hc];cases hm:mm q with
     |none=>rfl
     |some r=>exact congrArg some ((qE q r hm).1 _ _ _ (C k hk))
 rw[e1,e2] at hg;exact hg
theorem O9{env:Env}{m:Mem}{nx j n w:Nat}{e et:TypeId}{ρ:Nat->Nat}{L:Nat->List D}{l:List (Nat×D)}{mm:Mem}(h:l6 m nx j n w e et ρ L)(J:∀ i,pC (L i))(C:P.cellsOf et=1)
 (he:jk l env) (hl:∀ x∈l,lc (fun q=>∃ i,i<n/\ρ i=q) x.2) (hm:∀ q,mm q=m q\/mm q=none) (U:∀ q r,mm q=some r->j8 (fun q=>∃ i,i<n/\ρ i=q) r/\¬ ∃ i,i<n/\ρ i=q):
 Ghost P ⟨env,m,nx⟩ ⟨az l,up mm j (some (.cells ((List.range n).map fun i=>.sl (L i) w) e)),nx⟩:=by
 have key:∀ k,k<=n->Ghost P ⟨az l,mJ mm j n w 0 e et ρ L,nx⟩ ⟨az l,mJ mm j n w k e et ρ L,nx⟩:=fun k=>by
  induction k with
  |zero=>exact fun _=>.refl _
  |succ k ih=>exact fun hk=>(ih oG).trans (aa8 h J C (fun i hi=>⟨i,hi,rfl⟩) hl U oG)
 have h0:Ghost P ⟨env,m,nx⟩ ⟨az l,mJ mm j n w 0 e et ρ L,nx⟩:=by
  refine(Ghost.forget env _ m nx (nX he)).trans (.drop _ _ _ _ fun q=>?_);by_cases hq:q=j
  .subst hq;left;simp only[mJ,if_true,Nat.not_lt_zero,if_false];exact h.row.symm
  .simp only[mJ,if_neg hq];by_cases hc:∃ i,0<=i/\i<n/\ρ i=q
   .rw[dif_pos hc];have e1:=Classical.choose_spec hc;left;have:=h.kA _ e1.2.1;rw[e1.2.2] at this;exact this.symm
   .rw[dif_neg hc];exact hm q
 refine h0.trans ((key n (bP _)).trans (.drop _ _ _ _ fun q=>.inl ?_));by_cases hq:q=j
 .subst hq;simp only[up,mJ,if_true];congr 2;exact List.map_congr_left fun i hi=>by rw[if_pos (by simpa using hi)]
 .simp only[up,if_neg hq,mJ];rw[dif_neg];rintro⟨i,X,g2,_⟩;omega
end
structure kE(m:Mem)(nx ji jo n w:Nat)(ρi ρo:Nat->Nat)(Li Lo:Nat->List D):Prop where
 i:l6 m nx ji n w 52 4 ρi Li
 o:l6 m nx jo n w 52 4 ρo Lo
 c1:m 1=some (.cells [.z,.z] 104)
 c2:m 2=some (.cells [.rs ji 0 n,.rs jo 0 n] 104)
 jj:ji≠jo
 ij:∀ k,k<n->ρi k≠jo
 oj:∀ k,k<n->ρo k≠ji
 io:∀ a b,a<n->b<n->ρi a≠ρo b
 gi:3<=ji
 go:3<=jo
 sd:∀ k,k<n->3<=ρi k
 qQ:∀ k,k<n->3<=ρo k
section
variable{m m':Mem}{nx nx' ji jo n w:Nat}{ρi ρo:Nat->Nat}{Li Lo:Nat->List D}
theorem kE.ext(h:kE m nx ji jo n w ρi ρo Li Lo)(hm:∀ q,q<nx->m' q=m q)(hn:nx<=nx'):kE m' nx' ji jo n w ρi ρo Li Lo:=
 ⟨h.i.ext (fun q hq=>hm q (by rcases hq with rfl|⟨i,hi,rfl⟩;exact h.i.kJ;exact h.i.lt i hi)) hn,h.o.ext (fun q hq=>hm q (by rcases hq with rfl|⟨i,hi,rfl⟩;exact h.o.kJ;exact h.o.lt i hi)) hn,
  (hm 1 (by have:=h.i.kJ;have:=h.gi;omega)).trans h.c1,(hm 2 (by have:=h.i.kJ;have:=h.gi;omega)).trans h.c2,h.jj,h.ij,h.oj,h.io,h.gi,h.go,h.sd,h.qQ⟩
theorem kE.aiZ{k:Nat}{l:List D}(h:kE m nx ji jo n w ρi ρo Li Lo)(hk:k<n)(hl:l.length=w):kE (up m (ρi k) (some (.cells l 4))) nx ji jo n w ρi ρo (up Li k l) Lo:=
 ⟨h.i.put hk hl,h.o.ext (fun q hq=>up_ne _ _ (by rcases hq with rfl|⟨i,hi,rfl⟩;exact fun e=>h.ij k hk e.symm;exact fun e=>h.io k i hk hi e.symm)) (bP _),
  (up_ne _ _ (by have:=h.sd k hk;omega)).trans h.c1,(up_ne _ _ (by have:=h.sd k hk;omega)).trans h.c2,h.jj,h.ij,h.oj,h.io,h.gi,h.go,h.sd,h.qQ⟩
theorem kE.aiY{k:Nat}{l:List D}(h:kE m nx ji jo n w ρi ρo Li Lo)(hk:k<n)(hl:l.length=w):kE (up m (ρo k) (some (.cells l 4))) nx ji jo n w ρi ρo Li (up Lo k l):=
 ⟨h.i.ext (fun q hq=>up_ne _ _ (by rcases hq with rfl|⟨i,hi,rfl⟩;exact fun e=>h.oj k hk e.symm;exact h.io i k hi hk)) (bP _),h.o.put hk hl,
  (up_ne _ _ (by have:=h.qQ k hk;omega)).trans h.c1,(up_ne _ _ (by have:=h.qQ k hk;omega)).trans h.c2,h.jj,h.ij,h.oj,h.io,h.gi,h.go,h.sd,h.qQ⟩
def iP(L:Nat->List D)(n w:Nat):List D:=(List.range n).map fun i=>.sl (L i) w
theorem aa9{i sz n w:Nat}{cs:List D}{L:Nat->List D}:(iP L n w).map (sub (fz0 i cs sz))=iP L n w:=by
 unfold iP;rw[List.map_map];rfl
theorem YD{P:Program}{env:Env}(h:kE m nx ji jo n w ρi ρo Li Lo)(hi:∀ k,pC (Li k))(ho:∀ k,pC (Lo k))(h4:P.cellsOf 4=1)(Xn:P.cellsOf 52=1)(he:jk [(2,.rp 1 0),(4,.rp 2 0)] env):
 Ghost P ⟨env,m,nx⟩ ⟨az [(2,.rp 1 0),(4,.rp 2 0)],bm [(1,.cells [.z,.z] 104),(2,.cells [.sl (iP Li n w) n,.sl (iP Lo n w) n] 104)],nx⟩:=by
 have g1:=O9 (P:=P) (l:=[(2,.rp 1 0),(4,.rp 2 0)]) (mm:=fun q=>if q=jo\/(∃ k,k<n/\ρo k=q)\/q=2\/q=1 then m q else none) h.i hi h4 he (fun x hx=>by
  simp only[List.mem_cons,List.not_mem_nil,or_false] at hx;rcases hx with rfl|rfl
  .exact .rp fun⟨k,hk,e⟩=>by have:=h.sd k hk;omega
  .exact .rp fun⟨k,hk,e⟩=>by have:=h.sd k hk;omega)
  (fun q=>by split;exact .inl rfl;exact .inr rfl) (fun q r hq=>by
   split at hq
   .rename_i hc;rcases hc with rfl|⟨k,hk,rfl⟩|rfl|rfl
    .rw[h.o.row] at hq;cases hq;refine⟨.cells fun d hd=>?_,fun⟨k,hk,e⟩=>h.ij k hk e⟩;obtain⟨a,ha,rfl⟩:=List.mem_map.1 hd;exact .rs fun⟨k,hk,e⟩=>h.io k a hk (List.mem_range.1 ha) e
    .rw[h.o.kA k hk] at hq;cases hq;exact⟨.Ep (ho k),fun⟨a,ha,e⟩=>h.io a k ha hk e⟩
    .rw[h.c2] at hq;cases hq;refine⟨.cells fun d hd=>?_,fun⟨k,hk,e⟩=>by have:=h.sd k hk;omega⟩;simp only[List.mem_cons,List.not_mem_nil,or_false] at hd;rcases hd with rfl|rfl
     .exact .rs fun⟨k,hk,e⟩=>h.i.ne k hk e
     .exact .rs fun⟨k,hk,e⟩=>h.ij k hk e
    .rw[h.c1] at hq;cases hq;refine⟨.cells fun d hd=>?_,fun⟨k,hk,e⟩=>by have:=h.sd k hk;omega⟩;simp only[List.mem_cons,List.not_mem_nil,or_false,or_self] at hd;subst hd;exact .z
   .cases hq)
 refine g1.trans ?_
 have MA:l6 (up (fun q=>if q=jo\/(∃ k,k<n/\ρo k=q)\/q=2\/q=1 then m q else none) ji (some (.cells (iP Li n w) 52))) nx jo n w 52 4 ρo Lo:=h.o.ext (fun q hq=>by
  rcases hq with rfl|⟨k,hk,rfl⟩
  .rw[up_ne _ _ (fun e=>h.jj e.symm),if_pos (.inl rfl)]
  .rw[up_ne _ _ (h.oj k hk),if_pos (.inr (.inl ⟨k,hk,rfl⟩))]) (bP _)
 have J:(1:Nat)≠ji:=by have:=h.gi;omega
 have U:(2:Nat)≠ji:=by have:=h.gi;omega
 have X:(1:Nat)≠jo:=by have:=h.go;omega
 have o2:(2:Nat)≠jo:=by have:=h.go;omega
 have g2:=O9 (P:=P) (l:=[(2,.rp 1 0),(4,.rp 2 0)]) (mm:=bm [(ji,.cells (iP Li n w) 52),(1,.cells [.z,.z] 104),(2,.cells [.rs ji 0 n,.rs jo 0 n] 104)]) MA ho h4 (env:=az [(2,.rp 1 0),(4,.rp 2 0)]) ⟨rfl,rfl,trivial⟩ (fun x hx=>by
  simp only[List.mem_cons,List.not_mem_nil,or_false] at hx;rcases hx with rfl|rfl
  .exact .rp fun⟨k,hk,e⟩=>by have:=h.qQ k hk;omega
  .exact .rp fun⟨k,hk,e⟩=>by have:=h.qQ k hk;omega)
  (Gg (l:=[(ji,.cells (iP Li n w) 52),(1,.cells [.z,.z] 104),(2,.cells [.rs ji 0 n,.rs jo 0 n] 104)]) ⟨up_same _ _ _,by rw[up_ne _ _ J,if_pos (.inr (.inr (.inr rfl)))];exact h.c1,by rw[up_ne _ _ U,if_pos (.inr (.inr (.inl rfl)))];exact h.c2,trivial⟩)
  (fun q r hq=>by
   simp only[bm] at hq;split at hq
   .rename_i e;subst e;cases hq;refine⟨.cells fun d hd=>?_,fun⟨k,hk,e⟩=>h.oj k hk e⟩;unfold iP at hd;obtain⟨a,_,rfl⟩:=List.mem_map.1 hd;exact .sl _ _
   .split at hq
    .rename_i e;subst e;cases hq;refine⟨.cells fun d hd=>?_,fun⟨k,hk,e⟩=>by have:=h.qQ k hk;omega⟩;simp only[List.mem_cons,List.not_mem_nil,or_false,or_self] at hd;subst hd;exact .z
    .split at hq
     .rename_i e;subst e;cases hq;refine⟨.cells fun d hd=>?_,fun⟨k,hk,e⟩=>by have:=h.qQ k hk;omega⟩;simp only[List.mem_cons,List.not_mem_nil,or_false] at hd;rcases hd with rfl|rfl
      .exact .rs fun⟨k,hk,e⟩=>h.oj k hk e
      .exact .rs fun⟨k,hk,e⟩=>h.o.ne k hk e
     .cases hq)
 refine g2.trans ?_
 have C:∀ {i j:Nat} {cs:List D} {sz:Nat},j≠i->sub (fz0 i cs sz) (.rp j 0)=.rp j 0:=fun {i j cs sz} aM=>by
  show(if j=i then _ else D.rp j 0)=_;exact if_neg aM
 have hmL:(List.range n).map (fun i=>D.sl (Lo i) w)=iP Lo n w:=rfl;rw[hmL]
 have g3:=m9 (P:=P) (i:=ji) (cs:=iP Li n w) (e:=52) (nx:=nx) (env:=az [(2,.rp 1 0),(4,.rp 2 0)]) (m:=up (bm [(ji,.cells (iP Li n w) 52),(1,.cells [.z,.z] 104),(2,.cells [.rs ji 0 n,.rs jo 0 n] 104)]) jo (some (.cells (iP Lo n w) 52)))
  (l:=[(2,.rp 1 0),(4,.rp 2 0)]) (ml:=[(jo,.cells (iP Lo n w) 52),(1,.cells [.z,.z] 104),(2,.cells [.sl (iP Li n w) n,.rs jo 0 n] 104)]) (by rw[up_ne _ _ h.jj];exact if_pos rfl) ⟨C J,C U,trivial⟩
  ⟨by dsimp only;rw[if_neg (fun e=>h.jj e.symm),up_same];exact congrArg (fun c=>some (Row.cells c 52)) aa9,
   by dsimp only;rw[if_neg J,up_ne _ _ X];simp only[bm,if_neg J,if_true];rfl,
   by
    dsimp only;rw[if_neg U,up_ne _ _ o2];simp only[bm,if_neg U,if_true];rw[if_neg oC];show some (Row.cells [sub _ (.rs ji 0 n),sub _ (.rs jo 0 n)] 104)=_
    rw[vo (fun e=>h.jj e.symm),Xn,j0 (by simp[iP])],trivial⟩
 refine g3.trans ?_
 exact m9 (i:=jo) (cs:=iP Lo n w) (e:=52) (if_pos rfl) ⟨C X,C o2,trivial⟩
  ⟨by dsimp only;rw[if_neg X];simp only[bm,if_neg X,if_true];rfl,
   by
    dsimp only;rw[if_neg o2];simp only[bm,if_neg o2,if_true];rw[if_neg oC];show some (Row.cells [_,sub _ (.rs jo 0 n)] 104)=_
    rw[Xn,j0 (by simp[iP])];rfl,trivial⟩
end
end Go.Abs
namespace Go.Proofs.Tryz.K
set_option maxRecDepth 10000
theorem gk{l:List Int}{v:Int}:PCall prog 59 [aB l,I v] (B (zF l v)):=by
 refine m8 VR.he (.cons (dg _) (.cons (.s _) .nil)) fun C=>?_;have hlen:=(C (aB l) oS).sl.1;unfold maxLen at hlen;refine bc VR (.cons (dg _) (.cons (.s _) .nil)) (Tr.s _) ?_;rw[aiP];refine ws ?_;refine SS ?_;refine ab (aC (aw ?_));refine SS ?_
 refine ab (bV (fun s=>Ghost prog s ⟨az [],fun _=>none,0⟩/\∀ (j:Nat) y,l[j]? =some y->(y==v)=false) (cI (α:=Nat) (fun k=>⟨az [(0,aB l),(1,I v),(5,I k)],fun _=>none,0⟩)
  (fun k=>k<=l.length/\∀ j y,j<k->l[j]? =some y->(y==v)=false) (fun k=>l.length - k) 0 (aq eH) ⟨oG,fun j y hj=>by omega⟩ ?_) ?_)
 .rintro k ⟨hk,hinv⟩;refine aJ ?_;refine ab ⟨_,rfl,fun h=>?_,fun h=>?_⟩
  .have ap:k<l.length:=by simpa using h
   have hx:l[k]? =some l[k]:=by simp[ap]
   generalize l[k]=x at hx;refine ws ?_;refine bK ?_;refine ab (av rfl (fun hp=>?_) fun hp=>?_)
   .refine ws ?_;refine SS ?_;refine ab (aT (bR (aL (ax (d:=B true) rfl ?_))));have:zF l v=true:=List.any_eq_true.2 ⟨x,cx hx,hp⟩;rw[this]
   .refine ct ?_;refine au ?_;refine ab (aK (k+1) (aq eH) ⟨oG,fun j y hj hy=>?_⟩ oG);by_cases e:j=k
    .subst e;rw[hx] at hy;cases hy;exact hp
    .exact hinv j y oG hy
  .have U:¬ k<l.length:=by simpa using h
   exact⟨.forget _ _ _ _ fun _=>.inr rfl,fun j y hy=>hinv j y (by have:=(bL.1 hy).1;omega) hy⟩
 .rintro s ⟨hg,J⟩;refine⟨_,hg,ao ?_⟩;refine SS ?_;refine ab (ax (d:=B false) rfl ?_)
  have:zF l v=false:=List.any_eq_false.2 fun x hx=>by
   obtain⟨j,hj⟩:=dt hx;rw[J j x hj];simp
  rw[this]
theorem UP{f:aA}(hf:iV f=true)(C:∀ b∈f.blocks,b.fin.aH.length<=9):PCall prog 56 [.agg (aD f)] (bG (j6 f.blocks)):=
 oK (f:=f) rfl (by have:=(vC hf).lC;omega) C (fun b hb t ht=>by rw[((Bo hf).ed b hb).2] at ht;exact((vC hf).blk b hb).to t ht)
end Go.Proofs.Tryz.K
namespace Go.Argus
theorem Uu{α:Type}{p:α->Bool}:∀ {l:List α} {y:α},l[(l.takeWhile p).length]? =some y->p y=false
 |[],y,h=>by simp at h
 |a::l,y,h=>by
  rw[List.takeWhile_cons] at h;by_cases ha:p a=true
  .rw[if_pos ha,List.length_cons,List.getElem?_cons_succ] at h;exact Uu h
  .rw[if_neg ha,List.length_nil,List.getElem?_cons_zero] at h;cases h;simpa using ha
theorem GS{α:Type}{p:α->Bool}:∀ {l:List α} {k:Nat},k<(l.takeWhile p).length->∃ y,l[k]? =some y/\(l.takeWhile p)[k]? =some y/\p y=true
 |[],k,h=>by simp at h
 |a::l,k,h=>by
  rw[List.takeWhile_cons] at h ⊢;by_cases ha:p a=true
  .rw[if_pos ha] at h ⊢;cases k with
   |zero=>exact⟨a,rfl,rfl,ha⟩
   |succ k=>
    rw[List.getElem?_cons_succ,List.getElem?_cons_succ];exact GS (by simpa using h)
  .rw[if_neg ha] at h;simp at h
theorem CK(x:bB):(cg x).length<=x.ins.length:=(List.takeWhile_prefix bC).length_le
def yR(C:a7)(A:List Int)(a r:Int)(k:Nat):Bool:=(List.range k).any fun k=>A.getD k 0==a&&C.args.getD k 0==r
theorem aaP(C:a7)(A:List Int)(a r:Int)(k:Nat):yR C A a r (k+1)=(yR C A a r k||(A.getD k 0==a&&C.args.getD k 0==r)):=by
 unfold yR;rw[List.range_succ,List.any_append];simp
theorem QO(y:bB)(A:List Int)(a r:Int):nL y A a r=(cg y).any fun C=>yR C A a r A.length:=rfl
theorem Uv(l:List Int)(x:Int):zF l x=dJ l x:=by rw[Bool.eq_iff_iff,Py,jD]
def eP(R:Nat)(M:Nat->Nat->Bool)(b:Nat):List D:=(List.range R).map fun r=>B (M b r)
theorem Jy(R:Nat)(M:Nat->Nat->Bool)(b:Nat):(eP R M b).length=R:=by simp[eP]
theorem I2{R:Nat}{M:Nat->Nat->Bool}{b r:Nat}(h:r<R):∃ cs,(eP R M b).drop r=B (M b r)::cs:=⟨_,gu (f:=fun r=>B (M b r)) (by simp[h])⟩
theorem Jz{R:Nat}{M:Nat->Nat->Bool}{b r:Nat}{v:Bool}:up (eP R M) b ((eP R M b).set r (B v))=eP R (iO M b r v):=by
 funext x;by_cases h:x=b
 .subst h;rw[up_same];unfold eP;rw[IP];refine List.map_congr_left fun q _=>?_;by_cases e:q=r
  .subst e;rw[up_same];simp[iO]
  .rw[up_ne _ _ e];simp[iO,e]
 .rw[up_ne _ _ h];unfold eP iO;refine List.map_congr_left fun q _=>?_;simp[h]
theorem ZL(R:Nat):eP R (fun _ _=>false)=fun _=>(List.replicate R false).map B:=by
 funext x;unfold eP;rw[List.map_replicate,List.map_const',List.length_range]
def lR(n R:Nat)(M:Nat->Nat->Bool):Nat:=((List.range n).map fun b=>(List.range R).countP fun r=> !M b r).sum
theorem Og{l:List Nat}{f g:Nat->Nat}(h:∀ x∈l,f x<=g x):(l.map f).sum<=(l.map g).sum/\((∃ x∈l,f x<g x)->(l.map f).sum<(l.map g).sum):=by
 induction l with
 |nil=>exact⟨bP _,fun⟨x,hx,_⟩=>by simp at hx⟩
 |cons a l ih=>
  obtain⟨i1,i2⟩:=ih fun x hx=>h x (by simp[hx]);have ha:=h a oS;simp only[List.map_cons,List.sum_cons];refine⟨oG,fun⟨x,hx,ap⟩=>?_⟩;rcases List.mem_cons.1 hx with e|e
  .subst e;omega
  .have:=i2 ⟨x,e,ap⟩;omega
theorem PM{n R b r:Nat}{M:Nat->Nat->Bool}{v:Bool}(hv:M b r=true->v=true):lR n R (iO M b r v)<=lR n R M/\(b<n->r<R->M b r=false->v=true->lR n R (iO M b r v)<lR n R M):=by
 have J:∀ x q,M x q=true->iO M b r v x q=true:=fun x q h=>by
  unfold iO;split
  .rename_i hc;obtain⟨rfl,rfl⟩:=hc;exact hv h
  .exact h
 have h1:∀ x∈List.range n,((List.range R).countP fun r'=> !iO M b r v x r')<=((List.range R).countP fun r'=> !M x r'):=fun x _=>List.countP_mono_left fun q _ hq=>by
  cases e:M x q with
  |false=>rfl
  |true=>rw[J x q e] at hq;cases hq
 refine⟨(Og h1).1,fun hb hr hm C=>(Og h1).2 ⟨b,List.mem_range.2 hb,?_⟩⟩;refine OT (fun q hq=>?_) (List.mem_range.2 hr) (by simp[hm]) (by simp[iO,C]);cases e:M b q with
 |false=>rfl
 |true=>rw[J b q e] at hq;cases hq
theorem YC{r:Int}{s:Bool}{l:List a7}{k:Nat}{y:a7}(h:l[k]? =some y):ux r s (l.drop k)=((if bT y==r then false else ux r s (l.drop (k+1)))||dJ (bU y) r):=by
 have hk:=(bL.1 h).1;rw[List.drop_eq_getElem_cons hk];have:l[k]=y:=by rw[aG hk] at h;exact Option.some.inj h
 rw[this];rfl
def zy(f:aA)(M O:Nat->Nat->Bool)(b r:Nat):Prop:=ky f b=true->l5 f M b r=M b r/\nT f M b r=O b r
theorem OU(M:Nat->Nat->Bool)(b r:Nat):iO M b r (M b r)=M:=by
 funext x y;unfold iO;split
 .rename_i h;rw[h.1,h.2]
 .rfl
def zs(n R:Nat)(M O:Nat->Nat->Bool):D:=.agg [.sl (iP (eP R M) n R) n,.sl (iP (eP R O) n R) n]
def afX(k R:Nat)(m:Mem)(nx:Nat):Prop:=(k=0/\m 1=some (.cells [.z,.z] 104)/\m 2=some (.cells [.z,.z] 104)/\3<=nx)\/
 ∃ ji jo ρi ρo,kE m nx ji jo k R ρi ρo (fun _=>(List.replicate R false).map B) (fun _=>(List.replicate R false).map B)
def rX(f:aA)(b r:Nat):Bool:=bk ((lQ (cB f) f.blocks.length (gI f)).aX.getD b []) r
def MM(f:aA)(b r:Nat):Bool:=bk ((lQ (cB f) f.blocks.length (gI f)).out.getD b []) r
theorem ab0{n R:Nat}{M O C J:Nat->Nat->Bool}(h1:∀ b r,r<R->M b r=C b r)(h2:∀ b r,r<R->O b r=J b r):zs n R M O=zs n R C J:=by
 have key:∀ {M C:Nat->Nat->Bool},(∀ b r,r<R->M b r=C b r)->eP R M=eP R C:=fun {M C} h=>funext fun b=>List.map_congr_left fun r hr=>by rw[h b r (List.mem_range.1 hr)]
 unfold zs;rw[key h1,key h2]
theorem ab1(n R:Nat)(M O:Nat->Nat->Bool):∀ d∈[D.sl (iP (eP R M) n R) n,D.sl (iP (eP R O) n R) n],Tr d:=
 .cons (.sl (.map fun _=>.sl (.map fun _=>.s _))) (.cons (.sl (.map fun _=>.sl (.map fun _=>.s _))) .nil)
theorem abC{R n b:Nat}{M:Nat->Nat->Bool}(h:b<n):((List.range n).map fun b=>(List.range R).map (M b))[b]? =some ((List.range R).map (M b)):=by simp[h]
theorem Qw(R n:Nat)(M:Nat->Nat->Bool):D.sl (iP (eP R M) n R) n=.sl (((List.range n).map fun b=>(List.range R).map (M b)).map b9) ((List.range n).map fun b=>(List.range R).map (M b)).length:=by
 rw[List.length_map,List.length_range];unfold iP eP;rw[List.map_map];congr 1;refine List.map_congr_left fun b _=>?_;show D.sl _ R=b9 _;unfold b9;rw[List.map_map,List.length_map,List.length_range];rfl
end Go.Argus
namespace Go.Proofs.Tryz.K
set_option maxRecDepth 10000
theorem py{f:aA}{b:Nat}{x:Argus.bB}(hx:f.blocks[b]? =some x)(hl:x.ins.length<=100000):PCall prog 148 [.agg (aD f),I b] (I (cg x).length):=by
 refine bc afT (.cons (.agg (fu f)) (.cons (.s _) .nil)) (Tr.s _) ?_;rw[afU];have U:=CK x;refine aw ?_;refine af ?_;refine ab (aI (bw [(0,aD f,26)] eH (l:=[(1,I b),(2,.pt (aD f))]) eH) (aw ?_));refine SS ?_
 refine ab (bV (fun s=>Ghost prog s ⟨az [(5,I (cg x).length)],fun _=>none,1⟩) (y7 (α:=Nat) (fun k=>⟨az [(1,I b),(2,.pt (aD f)),(5,I k)],fun _=>none,1⟩)
  (fun k=>k<=(cg x).length) (fun k=>(cg x).length - k) 0 (aq eH) (Nat.zero_le _) ?_) ?_)
 .intro k hk;by_cases C:k<(cg x).length
  .obtain⟨y,hy,_,hp⟩:=GS C;have cM:(y.op==19)=true:=hp;have nB:decide ((k:Int)<(x.ins.length:Int))=true:=decide_eq_true oG;refine aE ?_;refine aE ?_;refine aJ ?_;refine ab ⟨_,rfl,fun _=>?_,fun h=>oH⟩;refine eZ ?_;refine au ?_;refine ab (aK (k+1) (aq eH) oG oG)
  .have J:k=(cg x).length:=by omega
   subst J;by_cases C:(cg x).length<x.ins.length
   .have hy:x.ins[(cg x).length]? =some x.ins[(cg x).length]:=aG C;have hp:=Uu (p:=bC) hy;generalize x.ins[(cg x).length]=y at hy hp;have cM:(y.op==19)=false:=hp;have nB:decide (((cg x).length:Int)<(x.ins.length:Int))=true:=decide_eq_true oG;refine aE ?_;refine aE ?_;refine aJ ?_;refine ab ⟨_,rfl,fun h=>oH,fun _=>?_⟩;exact aq eH
   .have nB:decide (((cg x).length:Int)<(x.ins.length:Int))=false:=decide_eq_false oG;refine bI ?_;refine af ?_;(iterate 11 refine z fun _ _=>?_);refine SS ?_;refine ab ⟨_,rfl,fun h=>oH,fun _=>?_⟩;exact aq eH
 .intro s hg;refine⟨_,hg,ao ?_⟩;refine af ?_;exact ab (ax rfl rfl)
theorem Hv{x:Argus.End}{b:Int}(hlen:x.aH.length<=1000):PCall prog 147 [.agg (bd x),I b] (B (Bf x b)):=by
 have nE:=nE (x:=x) oG;have hl:=yW x;refine bc afV (.cons (.agg (jF x)) (.cons (.s _) .nil)) (Tr.s _) ?_;rw[afW];refine aw ?_;refine af ?_;refine ab (aI (bw [(0,bd x,69)] eH (l:=[(1,I b),(2,.pt (bd x))]) eH) (ao ?_));have U:Bf x b=(decide (iM b (dc x)=1)&&(x.to==b&&(x.kind !=3&&x.kind !=4))):=rfl;generalize dc x=l at nE hl U;refine SS ?_;refine cl nE ?_;refine SS ?_;refine er ?_;refine SS ?_;refine ab (aC (aw ?_));refine SS ?_
 refine ab (bV (fun s=>Ghost prog s ⟨az [(1,I b),(2,.pt (bd x)),(6,I (iM b l))],fun _=>none,1⟩) (cI (α:=Nat) (fun k=>⟨az [(1,I b),(2,.pt (bd x)),(5,aB l),(6,I (iM b (l.take k))),(7,I k)],fun _=>none,1⟩)
  (fun k=>k<=l.length) (fun k=>l.length - k) 0 (aq eH) (Nat.zero_le _) ?_) ?_)
 .intro k hk;refine aJ ?_;refine ab ⟨_,rfl,fun h=>?_,fun h=>?_⟩
  .have ap:k<l.length:=by simpa using h
   have hx:l[k]? =some l[k]:=by simp[ap]
   have C:iM b (l.take (k+1))=iM b (l.take k)+(if l[k]=b then 1 else 0):=by
    unfold iM;rw[List.take_add_one,hx,List.countP_append];by_cases e:l[k]=b<;>simp[e]
   have J:iM b (l.take k)<=k:=Nat.le_trans List.countP_le_length oP;generalize iM b (l.take k)=q at C J;generalize l[k]=y at hx C;refine ws ?_;refine bK ?_;refine ab (av rfl (fun hp=>?_) fun hp=>?_)
   .have hp:y=b:=by simpa using hp
    refine eZ ?_;refine au ?_;refine ab ?_;refine au ?_;refine ab (aK (k+1) (aq ⟨rfl,rfl,rfl,?_,rfl,trivial⟩) oG oG);rw[C,if_pos hp];rfl
   .have hp:¬ y=b:=by simpa using hp
    refine ct ?_;refine au ?_;refine ab (aK (k+1) (aq ⟨rfl,rfl,rfl,?_,rfl,trivial⟩) oG oG);rw[C,if_neg hp];rfl
  .have X:¬ k<l.length:=by simpa using h
   have:k=l.length:=by omega
   subst this;rw[List.take_length];exact aq eH
 .intro s hg;refine⟨_,hg,ao ?_⟩;refine aE ?_;refine bI ?_;refine af ?_;refine ab (ax (d:=.s (.bool _)) rfl ?_);rw[U]
  have e1:((iM b l:Int)==1)=decide (iM b l=1):=by
   by_cases h:iM b l=1
   .simp[h]
   .rw[decide_eq_false h];simp;omega
  show B _=_;rw[e1];cases decide (iM b l=1)<;>cases (x.to==b)<;>cases (x.kind !=3)<;>rfl
theorem oL{f:aA}{a:Nat}{b r:Int}{x:Argus.bB}(hx:f.blocks[a]? =some x)(hlen:x.fin.aH.length<=1000):PCall prog 77 [.agg (aD f),I a,I b,I r] (B (lZ x.fin b r)):=by
 have zO:=zO (x:=x.fin);have Hv:=Hv (x:=x.fin) (b:=b) hlen;refine bc aiQ (.cons (.agg (fu f)) (.cons (.s _) (.cons (.s _) (.cons (.s _) .nil)))) (Tr.s _) ?_;rw[aiR];refine aw ?_;refine af ?_;refine ab (aI (bw [(0,aD f,26)] eH (l:=[(1,I a),(2,I b),(3,I r),(4,.pt (aD f))]) eH) (aw ?_));refine bI ?_;refine ab (aI (bw [(1,bd x.fin,69)] eH (l:=[(2,I b),(3,I r),(9,.pt (bd x.fin))]) eH) (ao ?_));unfold lZ;generalize Bf x.fin b=al at Hv ⊢;generalize C:(eg x.fin==r)=wr;have cM:=C;refine SS ?_;refine cl zO ?_;refine aV ?_;refine gc Hv ?_;refine af ?_;refine ab (ax (d:=.s (.bool _)) rfl ?_);show B _=_;cases wr<;>rfl
theorem oO{f:aA}{U:List (List Int)}{b:Nat}{a r:Int}{y:Argus.bB}{A:List Int}(hx:f.blocks[b]? =some y)(hA:U[b]? =some A)(hl:y.ins.length<=100000)(yD:A.length<=100000)(hz:∀ C∈cg y,C.args.length=A.length):
 PCall prog 81 [.agg (aD f),bG U,I a,I b,I r] (B (nL y A a r)):=by
 have py:=py hx hl;refine bc aiS (.cons (.agg (fu f)) (.cons (y4 _) (.cons (.s _) (.cons (.s _) (.cons (.s _) .nil))))) (Tr.s _) ?_;rw[aiT];have xO:=CK y;refine aw ?_;refine af ?_;refine ab (aI (bw [(0,aD f,26)] eH (l:=[(1,bG U),(2,I a),(3,I b),(4,I r),(5,.pt (aD f))]) eH) (aC (aw ?_)));refine SS ?_
 refine ab (bV (fun s=>Ghost prog s ⟨az [],fun _=>none,1⟩/\nL y A a r=false) (cI (α:=Nat) (fun i=>⟨az [(1,bG U),(2,I a),(3,I b),(4,I r),(5,.pt (aD f)),(11,I i)],fun _=>none,1⟩)
  (fun i=>i<=(cg y).length/\∀ j C,j<i->(cg y)[j]? =some C->yR C A a r A.length=false) (fun i=>(cg y).length - i) 0 (aq eH) ⟨Nat.zero_le _,fun j C hj=>absurd hj (Nat.not_lt_zero _)⟩ ?_) ?_)
 .rintro i ⟨hi,hinv⟩;refine au ?_;refine cl py ?_;refine SS ?_;refine ab ⟨_,rfl,fun h=>?_,fun h=>?_⟩
  .have fB:i<(cg y).length:=by simpa using h
   obtain⟨C,HV,X,_⟩:=GS fB;have X:(cg y)[i]? =some C:=X;have uX:=hz C (cx X);refine aw ?_;refine SS ?_
   refine ab (cI (α:=Nat) (fun k=>⟨az [(1,bG U),(2,I a),(3,I b),(4,I r),(5,.pt (aD f)),(11,I i),(12,I k)],fun _=>none,1⟩)
    (fun k=>k<=A.length/\yR C A a r k=false) (fun k=>A.length - k) 0 (aq eH) ⟨Nat.zero_le _,rfl⟩ ?_)
   rintro k ⟨hk,eY⟩;refine dk ?_;refine ab ⟨_,rfl,fun h=>?_,fun h=>?_⟩
   .have qA:k<A.length:=by simpa using h
    have Xb:A[k]? =some A[k]:=aG qA;have Xc:C.args[k]? =some C.args[k]:=aG oG;have J:=aaP C A a r k;rw[eY,Bool.false_or,bF,Xb,bF,Xc,Option.getD_some,Option.getD_some] at J;generalize A[k]=c at Xb J;generalize C.args[k]=d at Xc J
    have s4:yR C A a r (k+1)=true->nL y A a r=true:=fun h=>by
     rw[QO];refine List.any_eq_true.2 ⟨C,cx X,?_⟩;unfold yR at h ⊢;obtain⟨q,hq,e⟩:=List.any_eq_true.1 h;exact List.any_eq_true.2 ⟨q,by simp at hq ⊢;omega,e⟩
    refine ws ?_;by_cases B0:c=a
    .have cM:(c==a)=true:=by simp[B0]
     by_cases rV:d=r
     .have xC:(d==r)=true:=by simp[rV]
      refine aE ?_;refine aE ?_;refine bI ?_;refine ab (av rfl (fun h=>ao ?_) fun h=>(by revert h;simp[rV]));refine SS ?_;refine ab (aT (bR (bR (aL (ax (d:=B true) rfl ?_)))));rw[s4 (by rw[J,cM,xC];rfl)]
     .have xC:(d==r)=false:=by simp[rV]
      refine aE ?_;refine aE ?_;refine bI ?_;refine ab (av rfl (fun h=>(by revert h;simp[rV])) fun h=>ct ?_);refine au ?_;refine ab (aK (k+1) (aq eH) ⟨oG,by rw[J,cM,xC];rfl⟩ oG)
    .have cM:(c==a)=false:=by simp[B0]
     refine bI ?_;refine af ?_;(iterate 15 refine z fun _ _=>?_);refine SS ?_;refine ab (av rfl (fun h=>oH) fun h=>ct ?_);refine au ?_;refine ab (aK (k+1) (aq eH) ⟨oG,by rw[J,cM];rfl⟩ oG)
   .have bh:¬ k<A.length:=by simpa using h
    have:k=A.length:=by omega
    subst this;show AOps _ _ _ _ _ _ _ _ _;refine au ?_;refine ab (aK (i+1) (aq eH) ⟨oG,fun j w hj hw=>?_⟩ oG);by_cases e:j=i
    .subst e;rw[X] at hw;cases hw;exact eY
    .exact hinv j w oG hw
  .have bh:¬ i<(cg y).length:=by simpa using h
   refine⟨fU (l:=[]) trivial,?_⟩;rw[QO,List.any_eq_false];intro C hz;obtain⟨j,hj⟩:=dt hz;rw[hinv j C (by have:=(bL.1 hj).1;omega) hj];simp
 .rintro s ⟨hg,ht⟩;refine⟨_,hg,ao ?_⟩;refine SS ?_;refine ab (ax (d:=B false) rfl ?_);rw[ht]
theorem PN{P:Program}{α:Type}{S:α->St}{J:α->Prop}{μ:α->Nat}{x:α}{env:Env}{m:Mem}{nx:Nat}{l:List (Nat×D)}(he:jk l env)(K:∀ M,M=m->ur P S J μ x ⟨az l,M,nx⟩):ur P S J μ x ⟨env,m,nx⟩:=by
 obtain⟨C,h1,h2,h3⟩:=K m rfl;exact⟨C,(aq he).trans h1,h2,h3⟩
set_option maxHeartbeats 2000000 in
theorem Aa{f:aA}(cW:iV f=true)(hw:∀ b∈f.blocks,b.fin.aH.length<=9):PCall prog 67 [.agg (aD f)] (zs f.blocks.length f.aj.length (rX f) (MM f)):=by
 have hF:=Bo cW;have aY:=hF.ok;have B6:=aY.lC;have mR:=aY.pos;have Wh:=aY.aj;have hg:=Lw aY;have oK:=UP cW hw;have Hd:=fun(l:List Int) (v:Int)=>gk (l:=l) (v:=v);have BD:=fun {k:Nat} (h:k<f.blocks.length)=>Ou cW h;have yD:(j6 f.blocks).length=f.blocks.length:=by simp[j6]
 have wA:=wA hF hw (w:= -1);have cy:=vn (w:= -1) hg.to hg.pos;have qi:∀ b,ky f b=(cS (fG f) f.blocks.length (-1)).getD b false:=fun _=>rfl;have afY:=fun {M O:Nat->Nat->Bool} (h:tK f M O)=>ab2 hF h (R:=f.aj.length) rfl;have ac0:=fun {M O:Nat->Nat->Bool} (h:tK f M O) {b r:Nat}=>aaQ hF h (b:=b) (r:=r);refine bc aiU (.cons (.agg (fu f)) .nil) (.agg (ab1 _ _ _ _)) ?_;generalize j6 f.blocks=AL at oK BD yD;generalize cS (fG f) f.blocks.length (-1)=CN at wA cy qi;rw[aiV];refine aw ?_;refine af ?_;refine ab (aI (m9 (i:=0) (l:=[(1,.pt (aD f)),(2,.rp 1 0)]) (ml:=[(1,.cells [.z,.z] 104)]) rfl eH eH) (ao ?_));refine aJ ?_;refine er ?_;refine SS ?_;refine ab (aC (aw ?_));refine SS ?_
 refine ab (bV (fun s=>∃ ji jo ρi ρo m nx,Ghost prog s ⟨az [(1,.pt (aD f)),(2,.rp 1 0),(3,I f.blocks.length),(4,.rp 2 0)],m,nx⟩/\kE m nx ji jo f.blocks.length f.aj.length ρi ρo (fun _=>(List.replicate f.aj.length false).map B) (fun _=>(List.replicate f.aj.length false).map B)) (cI (α:=Nat×Mem×Nat)
  (fun s=>⟨az [(1,.pt (aD f)),(2,.rp 1 0),(3,I f.blocks.length),(4,.rp 2 0),(5,I s.1)],s.2.1,s.2.2⟩)
  (fun s=>s.1<=f.blocks.length/\afX s.1 f.aj.length s.2.1 s.2.2) (fun s=>f.blocks.length - s.1) (0,_,3)
  (aq eH) ⟨Nat.zero_le _,.inl ⟨rfl,rfl,rfl,oC⟩⟩ ?_) ?_)
 .rintro⟨k,m,nx⟩ ⟨hk,EH⟩;dsimp only at hk EH ⊢;refine au ?_;refine ab ⟨_,rfl,fun h=>?_,fun h=>?_⟩
  .have ap:k<f.blocks.length:=by simpa using h
   have ly:((List.replicate f.aj.length false).map B).length=f.aj.length:=by simp
   rcases EH with⟨rfl,eQ,ay,gh⟩|⟨ji,jo,ρi,ρo,C⟩
   .refine oW PO ?_;refine dk ?_;refine fP (Kd rfl rfl V.h V.h (pP (up_same _ _ _) rfl)) ak ⟨V.h,(by first|omega|exact bA rfl|(simp;done)|(simp;omega)),oC,(by unfold maxLen;first|omega|(simp;omega)),(by rw[Fw];first|omega|(simp;omega))⟩ ?_;refine VS ?_;refine SS ?_;refine a8 bf (Kn (l:=[(1,.pt (aD f)),(2,.rp 1 0),(3,I f.blocks.length),(4,.rp 2 0),(5,I ((0:Nat):Int))]) ⟨rfl,rfl,rfl,rfl,rfl,trivial⟩ fun J nU=>?_);have f2:J 2=some (.cells [.rs (nx+2) 0 1,.z] 104):=(by rw[nU];first|exact up_same _ _ _|exact ag oG (up_same _ _ _)|exact ag oG (ag oG (up_same _ _ _))|exact ag oG (ag oG (ag oG (up_same _ _ _)))|exact ag oG (ag oG (ag oG (ag oG (up_same _ _ _))))|exact ag oG (ag oG (ag oG (ag oG (ag oG (up_same _ _ _)))))|exact ag oG (ag oG (ag oG (ag oG (ag oG (ag oG (up_same _ _ _))))))|exact ag oG (ag oG (ag oG (ag oG (ag oG (ag oG (ag oG (up_same _ _ _))))))))
    have fj:J (nx+2)=some (.cells [.rs nx 0 f.aj.length] 52):=(by rw[nU];first|exact up_same _ _ _|exact ag oG (up_same _ _ _)|exact ag oG (ag oG (up_same _ _ _))|exact ag oG (ag oG (ag oG (up_same _ _ _)))|exact ag oG (ag oG (ag oG (ag oG (up_same _ _ _))))|exact ag oG (ag oG (ag oG (ag oG (ag oG (up_same _ _ _)))))|exact ag oG (ag oG (ag oG (ag oG (ag oG (ag oG (up_same _ _ _))))))|exact ag oG (ag oG (ag oG (ag oG (ag oG (ag oG (ag oG (up_same _ _ _))))))))
    have fr:J nx=some (.cells ((List.replicate f.aj.length false).map B) 4):=by
     rw[<- q7];exact(by rw[nU];first|exact up_same _ _ _|exact ag oG (up_same _ _ _)|exact ag oG (ag oG (up_same _ _ _))|exact ag oG (ag oG (ag oG (up_same _ _ _)))|exact ag oG (ag oG (ag oG (ag oG (up_same _ _ _))))|exact ag oG (ag oG (ag oG (ag oG (ag oG (up_same _ _ _)))))|exact ag oG (ag oG (ag oG (ag oG (ag oG (ag oG (up_same _ _ _))))))|exact ag oG (ag oG (ag oG (ag oG (ag oG (ag oG (ag oG (up_same _ _ _))))))))
    have f1:J 1=some (.cells [.z,.z] 104):=by
     rw[<- eQ];exact(by rw[nU];first|exact rfl|exact ag oG (rfl)|exact ag oG (ag oG (rfl))|exact ag oG (ag oG (ag oG (rfl)))|exact ag oG (ag oG (ag oG (ag oG (rfl))))|exact ag oG (ag oG (ag oG (ag oG (ag oG (rfl)))))|exact ag oG (ag oG (ag oG (ag oG (ag oG (ag oG (rfl))))))|exact ag oG (ag oG (ag oG (ag oG (ag oG (ag oG (ag oG (rfl))))))))
    clear nU eQ ay;have ay:=f2;refine kU PQ ?_;refine dk ?_;refine fP (Kd rfl rfl V.h V.h (pP (up_same _ _ _) rfl)) ak ⟨V.h,(by first|omega|exact bA rfl|(simp;done)|(simp;omega)),oC,(by unfold maxLen;first|omega|(simp;omega)),(by rw[Fw];first|omega|(simp;omega))⟩ ?_;refine SS ?_;refine cJ (iA (d:=.rs _ _ _) (cs':=_) rfl rfl ay rfl rfl) ak (dQ V.h V.h (by first|(simp;done)|exact⟨rfl,bA rfl⟩|(simp;omega)) rfl) ?_;refine a8 bf ?_;refine au ?_;refine ab (PN (l:=[(1,.pt (aD f)),(2,.rp 1 0),(3,I f.blocks.length),(4,.rp 2 0),(5,I ((0+1:Nat):Int))]) ⟨rfl,rfl,rfl,rfl,rfl,trivial⟩ fun M2 mZ=>?_);have g2:M2 2=some (.cells [.rs (nx+2) 0 1,.rs (nx+5) 0 1] 104):=(by rw[mZ];first|exact up_same _ _ _|exact ag oG (up_same _ _ _)|exact ag oG (ag oG (up_same _ _ _))|exact ag oG (ag oG (ag oG (up_same _ _ _)))|exact ag oG (ag oG (ag oG (ag oG (up_same _ _ _))))|exact ag oG (ag oG (ag oG (ag oG (ag oG (up_same _ _ _)))))|exact ag oG (ag oG (ag oG (ag oG (ag oG (ag oG (up_same _ _ _))))))|exact ag oG (ag oG (ag oG (ag oG (ag oG (ag oG (ag oG (up_same _ _ _))))))))
    have gj:M2 (nx+5)=some (.cells [.rs (nx+3) 0 f.aj.length] 52):=(by rw[mZ];first|exact up_same _ _ _|exact ag oG (up_same _ _ _)|exact ag oG (ag oG (up_same _ _ _))|exact ag oG (ag oG (ag oG (up_same _ _ _)))|exact ag oG (ag oG (ag oG (ag oG (up_same _ _ _))))|exact ag oG (ag oG (ag oG (ag oG (ag oG (up_same _ _ _)))))|exact ag oG (ag oG (ag oG (ag oG (ag oG (ag oG (up_same _ _ _))))))|exact ag oG (ag oG (ag oG (ag oG (ag oG (ag oG (ag oG (up_same _ _ _))))))))
    have gr:M2 (nx+3)=some (.cells ((List.replicate f.aj.length false).map B) 4):=by
     rw[<- q7];exact(by rw[mZ];first|exact up_same _ _ _|exact ag oG (up_same _ _ _)|exact ag oG (ag oG (up_same _ _ _))|exact ag oG (ag oG (ag oG (up_same _ _ _)))|exact ag oG (ag oG (ag oG (ag oG (up_same _ _ _))))|exact ag oG (ag oG (ag oG (ag oG (ag oG (up_same _ _ _)))))|exact ag oG (ag oG (ag oG (ag oG (ag oG (ag oG (up_same _ _ _))))))|exact ag oG (ag oG (ag oG (ag oG (ag oG (ag oG (ag oG (up_same _ _ _))))))))
    have lp:∀ q,q<nx+3->q≠2->M2 q=J q:=fun q hq Ap=>(by rw[mZ];first|exact rfl|exact ag oG (rfl)|exact ag oG (ag oG (rfl))|exact ag oG (ag oG (ag oG (rfl)))|exact ag oG (ag oG (ag oG (ag oG (rfl))))|exact ag oG (ag oG (ag oG (ag oG (ag oG (rfl)))))|exact ag oG (ag oG (ag oG (ag oG (ag oG (ag oG (rfl))))))|exact ag oG (ag oG (ag oG (ag oG (ag oG (ag oG (ag oG (rfl))))))))
    refine aK (0+1,M2,nx+6) (.refl _) ⟨oM,.inr ⟨nx+2,nx+5,_,_,⟨l6.one ((lp _ oG oG).trans fj) ((lp _ oG oG).trans fr) ly oM oM oG,l6.one gj gr ly oM oM oG,
     (lp _ oG oG).trans f1,g2,oG,fun _ _=>by omega,fun _ _=>by omega,fun _ _ _ _=>by omega,oG,oG,fun _ _=>by omega,fun _ _=>by omega⟩⟩⟩ oM
   .have ay:=C.c2;have cQ:=C.i.row;have pE:=C.i.kJ;have zW:=C.o.kJ;have hgi:=C.gi;have Mo:=C.go;have z5:=C.jj;have mL:((List.range k).map fun i=>D.rs (ρi i) 0 f.aj.length).length=k:=by simp
    refine oW PO ?_;refine dk ?_;refine rH (rq rfl (ag oG (ag oG cQ)) rfl V.h V.h (pP (up_same _ _ _) rfl) rfl) ak ⟨V.h,rfl,(by first|omega|exact bA rfl|(simp;done)|(simp;omega)),oC,(by first|rfl|(simp;done)|(simp;omega)),(by unfold maxLen;first|omega|(simp;omega)),(by rw[Fw];first|omega|(simp;omega)),(by first|(simp;done)|(simp;omega))⟩ ?_;have ay:up m nx (some (.cells (replD ((f.aj.length:Nat):Int).toNat [B false]) 4)) 2=_:=ag oG ay;refine VS ?_;refine SS ?_;refine a8 bf (Kn (l:=[(1,.pt (aD f)),(2,.rp 1 0),(3,I f.blocks.length),(4,.rp 2 0),(5,I k)]) ⟨rfl,rfl,rfl,rfl,rfl,trivial⟩ fun J nU=>?_);have f2:J 2=some (.cells [.rs (nx+2) 0 (k+1),.rs jo 0 k] 104):=(by rw[nU];first|exact up_same _ _ _|exact ag oG (up_same _ _ _)|exact ag oG (ag oG (up_same _ _ _))|exact ag oG (ag oG (ag oG (up_same _ _ _)))|exact ag oG (ag oG (ag oG (ag oG (up_same _ _ _))))|exact ag oG (ag oG (ag oG (ag oG (ag oG (up_same _ _ _)))))|exact ag oG (ag oG (ag oG (ag oG (ag oG (ag oG (up_same _ _ _))))))|exact ag oG (ag oG (ag oG (ag oG (ag oG (ag oG (ag oG (up_same _ _ _))))))))
    have fj:J (nx+2)=some (.cells ((List.range k).map (fun i=>D.rs (ρi i) 0 f.aj.length)++[.rs nx 0 f.aj.length]) 52):=(by rw[nU];first|exact up_same _ _ _|exact ag oG (up_same _ _ _)|exact ag oG (ag oG (up_same _ _ _))|exact ag oG (ag oG (ag oG (up_same _ _ _)))|exact ag oG (ag oG (ag oG (ag oG (up_same _ _ _))))|exact ag oG (ag oG (ag oG (ag oG (ag oG (up_same _ _ _)))))|exact ag oG (ag oG (ag oG (ag oG (ag oG (ag oG (up_same _ _ _))))))|exact ag oG (ag oG (ag oG (ag oG (ag oG (ag oG (ag oG (up_same _ _ _))))))))
    have fr:J nx=some (.cells ((List.replicate f.aj.length false).map B) 4):=by
     rw[<- q7];exact(by rw[nU];first|exact up_same _ _ _|exact ag oG (up_same _ _ _)|exact ag oG (ag oG (up_same _ _ _))|exact ag oG (ag oG (ag oG (up_same _ _ _)))|exact ag oG (ag oG (ag oG (ag oG (up_same _ _ _))))|exact ag oG (ag oG (ag oG (ag oG (ag oG (up_same _ _ _)))))|exact ag oG (ag oG (ag oG (ag oG (ag oG (ag oG (up_same _ _ _))))))|exact ag oG (ag oG (ag oG (ag oG (ag oG (ag oG (ag oG (up_same _ _ _))))))))
    have lp:∀ q,q<nx->q≠ji->q≠2->J q=m q:=fun q hq fp Ap=>(by rw[nU];first|exact rfl|exact ag oG (rfl)|exact ag oG (ag oG (rfl))|exact ag oG (ag oG (ag oG (rfl)))|exact ag oG (ag oG (ag oG (ag oG (rfl))))|exact ag oG (ag oG (ag oG (ag oG (ag oG (rfl)))))|exact ag oG (ag oG (ag oG (ag oG (ag oG (ag oG (rfl))))))|exact ag oG (ag oG (ag oG (ag oG (ag oG (ag oG (ag oG (rfl))))))))
    have Xd:=C.i.push (m':=J) (nx':=nx+3) (j':=nx+2) (r:=nx) ly (bP _) oG oG oG oG fj fr fun i hi=>lp _ (C.i.lt i hi) (C.i.ne i hi) (by have:=C.sd i hi;omega)
    have Il:=C.o.ext (m':=J) (nx':=nx+3) (fun q hq=>by
     rcases hq with rfl|⟨i,hi,rfl⟩
     .exact lp _ zW (fun e=>z5 e.symm) oG
     .exact lp _ (C.o.lt i hi) (C.oj i hi) (by have:=C.qQ i hi;omega)) oG
    have f1:=(lp 1 oG oG oG).trans C.c1;clear nU ay cQ mL;have ay:=f2;have cQ:=Il.row;have mL:((List.range k).map fun i=>D.rs (ρo i) 0 f.aj.length).length=k:=by simp
    refine kU PQ ?_;refine dk ?_;refine rH (rq rfl (ag oG (ag oG cQ)) rfl V.h V.h (pP (up_same _ _ _) rfl) rfl) ak ⟨V.h,rfl,(by first|omega|exact bA rfl|(simp;done)|(simp;omega)),oC,(by first|rfl|(simp;done)|(simp;omega)),(by unfold maxLen;first|omega|(simp;omega)),(by rw[Fw];first|omega|(simp;omega)),(by first|(simp;done)|(simp;omega))⟩ ?_;have ay:up J (nx+3) (some (.cells (replD ((f.aj.length:Nat):Int).toNat [B false]) 4)) 2=_:=ag oG ay;refine aF (qU rfl (ag oG (ag oG ay)) V.h) ak (pb V.h) ?_;refine SS ?_;refine a8 bf ?_;refine au ?_;refine ab (PN (l:=[(1,.pt (aD f)),(2,.rp 1 0),(3,I f.blocks.length),(4,.rp 2 0),(5,I ((k+1:Nat):Int))]) ⟨rfl,rfl,rfl,rfl,rfl,trivial⟩ fun M2 mZ=>?_);have g2:M2 2=some (.cells [.rs (nx+2) 0 (k+1),.rs (nx+5) 0 (k+1)] 104):=(by rw[mZ];first|exact up_same _ _ _|exact ag oG (up_same _ _ _)|exact ag oG (ag oG (up_same _ _ _))|exact ag oG (ag oG (ag oG (up_same _ _ _)))|exact ag oG (ag oG (ag oG (ag oG (up_same _ _ _))))|exact ag oG (ag oG (ag oG (ag oG (ag oG (up_same _ _ _)))))|exact ag oG (ag oG (ag oG (ag oG (ag oG (ag oG (up_same _ _ _))))))|exact ag oG (ag oG (ag oG (ag oG (ag oG (ag oG (ag oG (up_same _ _ _))))))))
    have gj:M2 (nx+5)=some (.cells ((List.range k).map (fun i=>D.rs (ρo i) 0 f.aj.length)++[.rs (nx+3) 0 f.aj.length]) 52):=(by rw[mZ];first|exact up_same _ _ _|exact ag oG (up_same _ _ _)|exact ag oG (ag oG (up_same _ _ _))|exact ag oG (ag oG (ag oG (up_same _ _ _)))|exact ag oG (ag oG (ag oG (ag oG (up_same _ _ _))))|exact ag oG (ag oG (ag oG (ag oG (ag oG (up_same _ _ _)))))|exact ag oG (ag oG (ag oG (ag oG (ag oG (ag oG (up_same _ _ _))))))|exact ag oG (ag oG (ag oG (ag oG (ag oG (ag oG (ag oG (up_same _ _ _))))))))
    have gr:M2 (nx+3)=some (.cells ((List.replicate f.aj.length false).map B) 4):=by
     rw[<- q7];exact(by rw[mZ];first|exact up_same _ _ _|exact ag oG (up_same _ _ _)|exact ag oG (ag oG (up_same _ _ _))|exact ag oG (ag oG (ag oG (up_same _ _ _)))|exact ag oG (ag oG (ag oG (ag oG (up_same _ _ _))))|exact ag oG (ag oG (ag oG (ag oG (ag oG (up_same _ _ _)))))|exact ag oG (ag oG (ag oG (ag oG (ag oG (ag oG (up_same _ _ _))))))|exact ag oG (ag oG (ag oG (ag oG (ag oG (ag oG (ag oG (up_same _ _ _))))))))
    have Hw:∀ q,q<nx+3->q≠jo->q≠2->M2 q=J q:=fun q hq fp Ap=>(by rw[mZ];first|exact rfl|exact ag oG (rfl)|exact ag oG (ag oG (rfl))|exact ag oG (ag oG (ag oG (rfl)))|exact ag oG (ag oG (ag oG (ag oG (rfl))))|exact ag oG (ag oG (ag oG (ag oG (ag oG (rfl)))))|exact ag oG (ag oG (ag oG (ag oG (ag oG (ag oG (rfl))))))|exact ag oG (ag oG (ag oG (ag oG (ag oG (ag oG (ag oG (rfl))))))))
    clear mZ lp;have VT:=Il.push (m':=M2) (nx':=nx+6) (j':=nx+5) (r:=nx+3) ly (bP _) oG oG oG oG gj gr fun i hi=>Hw _ (Il.lt i hi) (Il.ne i hi) (by have:=C.qQ i hi;omega);have uc:up (fun _:Nat=>(List.replicate f.aj.length false).map B) k ((List.replicate f.aj.length false).map B)=fun _=>(List.replicate f.aj.length false).map B:=funext fun i=>by simp[up]
    rw[uc] at Xd VT
    have bl:∀ i,i<k+1->up ρi k nx i<=nx/\up ρi k nx i≠jo/\3<=up ρi k nx i:=fun i hi=>by
     by_cases e:i=k
     .subst e;rw[up_same];omega
     .rw[up_ne _ _ e];have:=C.i.lt i oG;have:=C.ij i oG;have:=C.sd i oG;omega
    have ER:∀ i,i<k+1->up ρo k (nx+3) i≠nx+2/\3<=up ρo k (nx+3) i/\(up ρo k (nx+3) i=nx+3\/(i<k/\up ρo k (nx+3) i=ρo i)):=fun i hi=>by
     by_cases e:i=k
     .subst e;rw[up_same];omega
     .rw[up_ne _ _ e];have:=C.o.lt i oG;have:=C.qQ i oG;omega
    have aiW:=Xd.ext (m':=M2) (nx':=nx+6) (fun q hq=>by
     rcases hq with rfl|⟨i,hi,rfl⟩
     .exact Hw _ oG oG oG
     .have:=bl i hi;exact Hw _ oG oG oG) oG
    refine aK (k+1,M2,nx+6) (.refl _) ⟨oM,.inr ⟨nx+2,nx+5,_,_,⟨aiW,VT,(Hw 1 oG oG oG).trans f1,g2,oG,fun i hi=>by have:=bl i hi;omega,fun i hi=>(ER i hi).1,fun a b ha hb e=>?_,oG,oG,fun i hi=>(bl i hi).2.2,fun i hi=>(ER i hi).2.1⟩⟩⟩ oM;have h1:=bl a ha;rcases(ER b hb).2.2 with h2|⟨h2,h3⟩
    .omega
    .by_cases ea:a=k
     .subst ea;rw[up_same,h3] at e;have:=C.o.lt b h2;omega
     .rw[up_ne _ _ ea,h3] at e;exact C.io a b oG h2 e
  .have bh:¬ k<f.blocks.length:=by simpa using h
   have:k=f.blocks.length:=by omega
   subst this;rcases EH with⟨h0,_⟩|⟨ji,jo,ρi,ρo,C⟩
   .omega
   .exact⟨ji,jo,ρi,ρo,m,nx,aq eH,C⟩
 .rintro s ⟨ji,jo,ρi,ρo,m,nx,mP,wR⟩;refine⟨_,mP,ao ?_⟩;rw[<- ZL] at wR;refine SS ?_;refine cl wA ?_;refine SS ?_;refine er ?_;refine SS ?_;refine cl oK ?_;refine SS ?_;refine ab (aC (aw ?_));refine SS ?_
  refine ab (bV (fun s=>∃ M O m nx,Ghost prog s ⟨az [(2,.rp 1 0),(4,.rp 2 0)],m,nx⟩/\kE m nx ji jo f.blocks.length f.aj.length ρi ρo (eP f.aj.length M) (eP f.aj.length O)/\tK f M O/\∀ b r,r<f.aj.length->zy f M O b r) (y7 (α:=(Nat->Nat->Bool)×(Nat->Nat->Bool)×Mem×Nat×Bool)
   (fun s=>⟨az [(1,.pt (aD f)),(2,.rp 1 0),(3,I f.blocks.length),(4,.rp 2 0),(6,b9 CN),(7,bG AL),(8,B s.2.2.2.2)],s.2.2.1,s.2.2.2.1⟩)
   (fun s=>kE s.2.2.1 s.2.2.2.1 ji jo f.blocks.length f.aj.length ρi ρo (eP f.aj.length s.1) (eP f.aj.length s.2.1)/\tK f s.1 s.2.1/\(s.2.2.2.2=false->∀ b r,r<f.aj.length->zy f s.1 s.2.1 b r)) (fun s=>2*(lR f.blocks.length f.aj.length (s.1)+lR f.blocks.length f.aj.length (s.2.1))+if s.2.2.2.2=true then 1 else 0)
   (fun _ _=>false,fun _ _=>false,m,nx,true) (aq eH) ⟨wR,ZM,fun h=>by cases h⟩ ?_) ?_)
  .clear wR mP;rintro⟨M0,O0,m,nx,t0⟩ ⟨wR,uW,rZ⟩;dsimp only at wR uW rZ ⊢;refine SS ?_;refine ab ⟨_,rfl,fun ht=>?_,fun ht=>?_⟩
   .refine ws ?_;refine SS ?_;refine ab (aw ?_);refine SS ?_
    refine ab (cI (α:=Nat×(Nat->Nat->Bool)×(Nat->Nat->Bool)×Mem×Nat×Bool)
     (fun s=>⟨az [(1,.pt (aD f)),(2,.rp 1 0),(3,I f.blocks.length),(4,.rp 2 0),(6,b9 CN),(7,bG AL),(8,B s.2.2.2.2.2),(9,I s.1)],s.2.2.2.1,s.2.2.2.2.1⟩)
     (fun s=>s.1<=f.blocks.length/\kE s.2.2.2.1 s.2.2.2.2.1 ji jo f.blocks.length f.aj.length ρi ρo (eP f.aj.length s.2.1) (eP f.aj.length s.2.2.1)/\tK f s.2.1 s.2.2.1/\(s.2.2.2.2.2=false->s.2.1=M0/\s.2.2.1=O0/\∀ b r,b<s.1->r<f.aj.length->zy f M0 O0 b r)/\(s.2.2.2.2.2=true->lR f.blocks.length f.aj.length (s.2.1)+lR f.blocks.length f.aj.length (s.2.2.1)<lR f.blocks.length f.aj.length (M0)+lR f.blocks.length f.aj.length (O0)))
     (fun s=>f.blocks.length - s.1) (0,M0,O0,m,nx,false)
     (aq eH) ⟨Nat.zero_le _,wR,uW,fun _=>⟨rfl,rfl,fun b r hb=>absurd hb (Nat.not_lt_zero _)⟩,fun h=>by cases h⟩ ?_)
    clear wR uW;rintro⟨b,Mb,Ob,mb,nb,tb⟩ ⟨u4,C,vm,pO,kN⟩;dsimp only at u4 C vm pO kN ⊢;refine au ?_;refine ab ⟨_,rfl,fun h=>?_,fun h=>?_⟩
    .have X:b<f.blocks.length:=by simpa using h
     have hx:f.blocks[b]? =some f.blocks[b]:=aG X;have bM:f.blocks[b]∈f.blocks:=bO _;have Nu:bu f b=f.blocks[b]:=iU hx;have gB:=gB hx (by have:=hw _ bM;omega);rw[(hF.ed _ bM).2, <- CL hx] at gB;have rK:=rK (x:=f.blocks[b].fin) (fun h5 ho=>by have:=(aY.Ly _ bM h5).ar ho;omega) (fun h1=>by have:=(aY.ends _ bM).fin.a2 h1;omega);have Cb:=hw _ bM;have hlen:=(aY.blk _ bM).len;have s6:=(aY.blk _ bM).ins;have VU:=fun(c:Int) (r:Nat)=>oL (a:=b) (b:=c) (r:=(r:Int)) hx oG;have ez:=Qx (l:=CN) (i:=b) oG;have Hx:=qi b;refine aw ?_;refine SS ?_
     refine ab (cI (α:=Nat×(Nat->Nat->Bool)×(Nat->Nat->Bool)×Mem×Nat×Bool)
      (fun s=>⟨az [(1,.pt (aD f)),(2,.rp 1 0),(3,I f.blocks.length),(4,.rp 2 0),(6,b9 CN),(7,bG AL),(8,B s.2.2.2.2.2),(9,I b),(10,I s.1)],s.2.2.2.1,s.2.2.2.2.1⟩)
      (fun s=>s.1<=f.aj.length/\kE s.2.2.2.1 s.2.2.2.2.1 ji jo f.blocks.length f.aj.length ρi ρo (eP f.aj.length s.2.1) (eP f.aj.length s.2.2.1)/\tK f s.2.1 s.2.2.1/\(s.2.2.2.2.2=false->s.2.1=M0/\s.2.2.1=O0/\(∀ x r,x<b->r<f.aj.length->zy f M0 O0 x r)/\∀ r,r<s.1->zy f M0 O0 b r)/\(s.2.2.2.2.2=true->lR f.blocks.length f.aj.length (s.2.1)+lR f.blocks.length f.aj.length (s.2.2.1)<lR f.blocks.length f.aj.length (M0)+lR f.blocks.length f.aj.length (O0)))
      (fun s=>f.aj.length - s.1) (0,Mb,Ob,mb,nb,tb)
      (aq eH) ⟨Nat.zero_le _,C,vm,fun h=>⟨(pO h).1,(pO h).2.1,(pO h).2.2,fun r hr=>absurd hr (Nat.not_lt_zero _)⟩,kN⟩ ?_)
     clear C vm pO kN;rintro⟨r,M,O,m,nx,t⟩ ⟨z',C,vm,pO,kN⟩;dsimp only at z' C vm pO kN ⊢
     have xx:(¬ r<f.aj.length\/ky f b=false)->∀ env,jk [(1,.pt (aD f)),(2,.rp 1 0),(3,I f.blocks.length),(4,.rp 2 0),(6,b9 CN),(7,bG AL),(8,B t),(9,I ((b+1:Nat):Int))] env->ur prog (fun s:Nat×(Nat->Nat->Bool)×(Nat->Nat->Bool)×Mem×Nat×Bool=>(⟨az [(1,.pt (aD f)),(2,.rp 1 0),(3,I f.blocks.length),(4,.rp 2 0),(6,b9 CN),(7,bG AL),(8,B s.2.2.2.2.2),(9,I s.1)],s.2.2.2.1,s.2.2.2.2.1⟩:St))
      (fun s=>s.1<=f.blocks.length/\kE s.2.2.2.1 s.2.2.2.2.1 ji jo f.blocks.length f.aj.length ρi ρo (eP f.aj.length s.2.1) (eP f.aj.length s.2.2.1)/\tK f s.2.1 s.2.2.1/\(s.2.2.2.2.2=false->s.2.1=M0/\s.2.2.1=O0/\∀ b r,b<s.1->r<f.aj.length->zy f M0 O0 b r)/\(s.2.2.2.2.2=true->lR f.blocks.length f.aj.length (s.2.1)+lR f.blocks.length f.aj.length (s.2.2.1)<lR f.blocks.length f.aj.length (M0)+lR f.blocks.length f.aj.length (O0)))
      (fun s=>f.blocks.length - s.1) (b,Mb,Ob,mb,nb,tb) ⟨env,m,nx⟩:=fun hc env he=>by
      refine aK (b+1,M,O,m,nx,t) (aq he) ⟨oM,C,vm,fun e=>?_,kN⟩ oM;obtain⟨e1,e2,e3,e4⟩:=pO e;refine⟨e1,e2,fun x q rP hq=>?_⟩;dsimp only at rP;by_cases ex:x=b
      .subst ex;rcases hc with hc|hc
       .exact e4 q oG
       .exact fun h=>by rw[hc] at h;cases h
      .exact e3 x q oG hq
     cases eK:CN.getD b false with
     |false=>
      rw[eK] at ez Hx;refine aV ?_;(iterate 5 refine z fun _ _=>?_);refine SS ?_;refine ab ⟨_,rfl,fun h=>oH,fun _=>?_⟩;show AOps _ _ _ _ _ _ _ _ _;refine au ?_;exact ab (xx (.inr Hx) _ ⟨rfl,rfl,rfl,rfl,rfl,rfl,rfl,rfl,trivial⟩)
     |true=>
     rw[eK] at ez Hx;refine aE ?_;refine af ?_;refine ab ⟨_,rfl,fun h=>?_,fun h=>?_⟩
     .have ED:r<f.aj.length:=by simpa using h
      clear xx;obtain⟨L8,vg,Az⟩:=ac0 vm (b:=b) (r:=r) Hx;have Fx:l5 f M b r=ux r (nT f M b r) f.blocks[b].ins:=by unfold l5;rw[Nu]
      have tH:nT f M b r=(dJ (bS f.blocks[b].fin) r||(fG f b).any (se f M b r)):=by unfold nT;rw[Nu]
      have uS:∀ c,se f M b r c=(!(lZ f.blocks[b].fin c r)&&(M c.toNat r||nL (bu f c.toNat) (jP f c.toNat) b r)):=fun c=>by unfold se;rw[Nu]
      have Ea:=PM (n:=f.blocks.length) (R:=f.aj.length) vg;have DT:=PM (n:=f.blocks.length) (R:=f.aj.length) Az;have Fy:l5 f M b r=M b r->nT f M b r=O b r->zy f M O b r:=fun h1 h2 _=>⟨h1,h2⟩
      generalize l5 f M b r=sf at L8 Fx vg Ea Fy;generalize nT f M b r=jC at L8 tH Fx Az DT Fy;generalize f.blocks[b]=x at hx bM rK Cb hlen s6 VU Fx tH uS
      have jA:(fG f b).length<=100000:=by
       rw[CL hx];have:=wW x.fin;omega
      have fT:=hg.to b
      have EG:∀ c∈fG f b,∀ y,f.blocks[c.toNat]? =some y->∀ zQ∈cg y,zQ.args.length=(jP f c.toNat).length:=fun c hc y hy zQ hz=>by
       rw[w7 (fT c hc).2];exact(aY.xQ hy hz).1
      generalize fG f b=l at gB tH jA fT EG;have gk:=Hd (bS x.fin) (r:Int);rw[Uv] at gk;generalize bS x.fin=re at gk rK tH;refine ws ?_;refine bK ?_;refine cl rK ?_;refine SS ?_;refine cl gk ?_;refine SS ?_;refine er ?_;refine af ?_;refine cl gB ?_;refine SS ?_;refine ab (aC (aw ?_));refine SS ?_
      refine ab (bV (fun s=>Ghost prog s ⟨az [(1,.pt (aD f)),(2,.rp 1 0),(3,I f.blocks.length),(4,.rp 2 0),(6,b9 CN),(7,bG AL),(8,B t),(9,I b),(10,I r),(11,B jC)],m,nx⟩) (cI (α:=Nat)
       (fun i=>⟨az [(1,.pt (aD f)),(2,.rp 1 0),(3,I f.blocks.length),(4,.rp 2 0),(6,b9 CN),(7,bG AL),(8,B t),(9,I b),(10,I r),(11,B (dJ re r||(l.take i).any (se f M b r))),(12,aB l),(13,I i)],m,nx⟩)
       (fun i=>i<=l.length) (fun i=>l.length - i) 0 (aq ⟨rfl,rfl,rfl,rfl,rfl,rfl,rfl,rfl,rfl,by rw[List.take_zero,List.any_nil,Bool.or_false];rfl,rfl,rfl,trivial⟩) (Nat.zero_le _) ?_) ?_)
      .intro i hi;refine aJ ?_;refine ab ⟨_,rfl,fun h=>?_,fun h=>?_⟩
       .have fB:i<l.length:=by simpa using h
        have hy:l[i]? =some l[i]:=aG fB;have iy:=fT _ (bO fB)
        have U:(dJ re r||(l.take (i+1)).any (se f M b r))=((dJ re r||(l.take i).any (se f M b r))||se f M b r l[i]):=by
         rw[List.take_add_one,hy,List.any_append,Bool.or_assoc];simp
        have uO:=uS l[i];have oL:=VU l[i] r;have Fh:=EG _ (bO fB);generalize (dJ re r||(l.take i).any (se f M b r))=oo at U ⊢;generalize se f M b r l[i]=ee at U uO;generalize l[i]=c at hy iy uO oL Fh;obtain⟨cn,rfl⟩:=cN iy.1;rw[bx] at iy uO Fh;have Nv:f.blocks[cn]? =some f.blocks[cn]:=aG iy.2;have aiX:f.blocks[cn]∈f.blocks:=bO _;have oO:=oO (a:=(b:Int)) (r:=(r:Int)) Nv (BD iy.2) (aY.blk _ aiX).len (Jk aY cn) (Fh _ Nv);rw[iU Nv] at uO;generalize nL f.blocks[cn] (jP f cn) b r=tk at oO uO;generalize lZ x.fin cn r=wr at oL uO;have ay:=C.c2;have cQ:=C.i.row;have gy:=C.i.kA cn iy.2;have Cm:=Jy f.aj.length M cn;have mL:((List.range f.blocks.length).map fun i=>D.rs (ρi i) 0 f.aj.length).length=f.blocks.length:=by simp
        obtain⟨cs1,kd⟩:=JA (ρ:=ρi) (w:=f.aj.length) iy.2;obtain⟨cs2,gA⟩:=I2 (M:=M) (b:=cn) ED;refine kU ZN ?_;cases oo with
        |true=>
         refine aE ?_;refine gc oL ?_;refine aE ?_;refine aE ?_;refine aJ ?_;refine gc oO ?_;refine aJ ?_;refine a8 bf ?_;refine au ?_;refine ab (aK (i+1) (aq ⟨rfl,rfl,rfl,rfl,rfl,rfl,rfl,rfl,rfl,by rw[U];rfl,rfl,rfl,trivial⟩) oG oG)
        |false=>
         cases wr with
         |true=>
          refine aE ?_;refine gc oL ?_;refine aE ?_;refine aE ?_;refine aJ ?_;refine gc oO ?_;refine aJ ?_;refine a8 bf ?_;refine au ?_;refine ab (aK (i+1) (aq ⟨rfl,rfl,rfl,rfl,rfl,rfl,rfl,rfl,rfl,by rw[U,uO];rfl,rfl,rfl,trivial⟩) oG oG)
         |false=>
          generalize M cn r=mr at gA uO;cases mr with
          |true=>
           refine aE ?_;refine gc oL ?_;refine aE ?_;refine aE ?_;refine aJ ?_;refine gc oO ?_;refine aJ ?_;refine a8 bf ?_;refine au ?_;refine ab (aK (i+1) (aq ⟨rfl,rfl,rfl,rfl,rfl,rfl,rfl,rfl,rfl,by rw[U,uO];rfl,rfl,rfl,trivial⟩) oG oG)
          |false=>
           refine aE ?_;refine gc oL ?_;refine aE ?_;refine aE ?_;refine aJ ?_;refine gc oO ?_;refine aJ ?_;refine a8 bf ?_;refine au ?_;refine ab (aK (i+1) (aq ⟨rfl,rfl,rfl,rfl,rfl,rfl,rfl,rfl,rfl,by rw[U,uO];cases tk<;>rfl,rfl,rfl,trivial⟩) oG oG)
       .have bh:¬ i<l.length:=by simpa using h
        rw[dn oG, <- tH];exact aq eH
      .clear tH uS;intro s mP;refine⟨_,mP,ao ?_⟩;refine af ?_;refine ab (aC (aw ?_));refine aE ?_
       refine ab (bV (fun s=>∃ m nx,Ghost prog s ⟨az [(1,.pt (aD f)),(2,.rp 1 0),(3,I f.blocks.length),(4,.rp 2 0),(6,b9 CN),(7,bG AL),(8,B t),(9,I b),(10,I r),(11,B jC),(14,B sf)],m,nx⟩/\kE m nx ji jo f.blocks.length f.aj.length ρi ρo (eP f.aj.length M) (eP f.aj.length O)) (cI (α:=Nat×Mem×Nat)
        (fun s=>⟨az [(1,.pt (aD f)),(2,.rp 1 0),(3,I f.blocks.length),(4,.rp 2 0),(6,b9 CN),(7,bG AL),(8,B t),(9,I b),(10,I r),(11,B jC),(14,B (ux r jC (x.ins.drop (x.ins.length - s.1)))),(15,I ((x.ins.length:Int) - 1 - s.1))],s.2.1,s.2.2⟩)
        (fun s=>s.1<=x.ins.length/\kE s.2.1 s.2.2 ji jo f.blocks.length f.aj.length ρi ρo (eP f.aj.length M) (eP f.aj.length O)) (fun s=>x.ins.length - s.1) (0,m,nx)
        (aq ⟨rfl,rfl,rfl,rfl,rfl,rfl,rfl,rfl,rfl,rfl,by rw[Nat.sub_zero,List.drop_length];rfl,by show I _=I _;congr 1;omega,trivial⟩) ⟨Nat.zero_le _,C⟩ ?_) ?_)
       .clear C mP;rintro⟨p,m,nx⟩ ⟨hp,C⟩;dsimp only at hp C ⊢;by_cases g9:p<x.ins.length
        .have uD:decide (((x.ins.length:Int) - 1 - p)>=0)=true:=decide_eq_true oG;refine af ?_;refine ab ⟨_,rfl,fun _=>?_,fun h=>oH⟩;have hk:x.ins.length - (p+1)<x.ins.length:=by omega
         have hy:x.ins[x.ins.length - (p+1)]? =some x.ins[x.ins.length - (p+1)]:=aG hk;have iy:x.ins[x.ins.length - (p+1)]∈x.ins:=bO _;have U:=YC (r:=(r:Int)) (s:=jC) hy;rw[show x.ins.length - (p+1)+1=x.ins.length - p by omega] at U;have hko:(x.ins.length:Int) - 1 - p=((x.ins.length - (p+1):Nat):Int):=by omega
         generalize ux r jC (x.ins.drop (x.ins.length - p))=iv at U ⊢;generalize x.ins[x.ins.length - (p+1)]=y at hy iy U;rw[hko];generalize hq:x.ins.length - (p+1)=q at hy U ⊢;have iq:=iq (x:=y);have lT:=lT (x:=y) (fun ho=>by have:=(s6 y iy).ar ho;omega);have gk:=Hd (bU y) (r:Int);rw[Uv] at gk;refine aw ?_;refine aE ?_;refine af ?_;refine ab (Kn (l:=[(1,.pt (aD f)),(2,.rp 1 0),(3,I f.blocks.length),(4,.rp 2 0),(6,b9 CN),(7,bG AL),(8,B t),(9,I b),(10,I r),(11,B jC),(14,B iv),(15,I q),(16,.rp nx 0)]) ⟨rfl,rfl,rfl,rfl,rfl,rfl,rfl,rfl,rfl,rfl,rfl,rfl,rfl,trivial⟩ fun J nU=>?_);have ay:J nx=some (.cells (a9 y) 66):=(by rw[nU];first|exact up_same _ _ _|exact ag oG (up_same _ _ _)|exact ag oG (ag oG (up_same _ _ _))|exact ag oG (ag oG (ag oG (up_same _ _ _)))|exact ag oG (ag oG (ag oG (ag oG (up_same _ _ _))))|exact ag oG (ag oG (ag oG (ag oG (ag oG (up_same _ _ _)))))|exact ag oG (ag oG (ag oG (ag oG (ag oG (ag oG (up_same _ _ _))))))|exact ag oG (ag oG (ag oG (ag oG (ag oG (ag oG (ag oG (up_same _ _ _))))))))
         have lp:∀ zQ,zQ<nx->J zQ=m zQ:=fun zQ hz=>(by rw[nU];first|exact rfl|exact ag oG (rfl)|exact ag oG (ag oG (rfl))|exact ag oG (ag oG (ag oG (rfl)))|exact ag oG (ag oG (ag oG (ag oG (rfl))))|exact ag oG (ag oG (ag oG (ag oG (ag oG (rfl)))))|exact ag oG (ag oG (ag oG (ag oG (ag oG (ag oG (rfl))))))|exact ag oG (ag oG (ag oG (ag oG (ag oG (ag oG (ag oG (rfl))))))))
         have mZ:=C.ext (m':=J) (nx':=nx+1) lp oG;clear nU lp C;generalize bU y=ry at lT gk U;generalize dJ ry r=ha at gk U
         have sQ:∀ (w:Bool) env,w=ux r jC (x.ins.drop q)->jk [(1,.pt (aD f)),(2,.rp 1 0),(3,I f.blocks.length),(4,.rp 2 0),(6,b9 CN),(7,bG AL),(8,B t),(9,I b),(10,I r),(11,B jC),(14,B w),(15,I ((q:Int) - 1))] env->ur prog (fun s:Nat×Mem×Nat=>(⟨az [(1,.pt (aD f)),(2,.rp 1 0),(3,I f.blocks.length),(4,.rp 2 0),(6,b9 CN),(7,bG AL),(8,B t),(9,I b),(10,I r),(11,B jC),(14,B (ux r jC (x.ins.drop (x.ins.length - s.1)))),(15,I ((x.ins.length:Int) - 1 - s.1))],s.2.1,s.2.2⟩:St))
          (fun s=>s.1<=x.ins.length/\kE s.2.1 s.2.2 ji jo f.blocks.length f.aj.length ρi ρo (eP f.aj.length M) (eP f.aj.length O)) (fun s=>x.ins.length - s.1) (p,m,nx) ⟨env,J,nx+1⟩:=fun w env hw he=>by
          subst hw;refine aK (p+1,J,nx+1) (aq ?_) ⟨oM,mZ⟩ oM;dsimp only;rw[hq,show(x.ins.length:Int) - 1 - ((p+1:Nat):Int)=(q:Int) - 1 by omega];exact he
         by_cases fI:bT y=r
         .have cM:(bT y==(r:Int))=true:=by simp[fI]
          rw[cM,if_pos rfl,Bool.false_or] at U;refine aC (ao ?_);refine aF (dx (vs:=a9 _) rfl ay V.h V.h rfl) ak (dy V.h V.h (by first|(simp;done)|omega|exact bA rfl)) ?_;refine cl iq ?_;refine af ?_;refine ab (gU (ao ?_));refine SS ?_;refine ab (eZ ?_);refine af ?_;refine bE rfl rfl (dx (vs:=a9 _) rfl ay V.h V.h rfl) (fun hc=>⟨ak,(dy V.h V.h (by first|(simp;done)|omega|exact bA rfl))⟩) ?_;refine gc lT ?_;refine SS ?_;refine gc gk ?_;refine af ?_;refine ab ?_;refine au ?_;exact ab (sQ ha _ U.symm ⟨rfl,rfl,rfl,rfl,rfl,rfl,rfl,rfl,rfl,rfl,rfl,rfl,trivial⟩)
         .have cM:(bT y==(r:Int))=false:=by simp[fI]
          rw[cM,if_neg oS] at U;refine aC (ao ?_);refine aF (dx (vs:=a9 _) rfl ay V.h V.h rfl) ak (dy V.h V.h (by first|(simp;done)|omega|exact bA rfl)) ?_;refine cl iq ?_;refine af ?_;refine ab (hP (b7 (eZ ?_)));cases iv with
          |true=>
           refine af ?_;(iterate 4 refine z fun _ _=>?_);refine af ?_;refine ab ?_;refine au ?_;exact ab (sQ true _ U.symm ⟨rfl,rfl,rfl,rfl,rfl,rfl,rfl,rfl,rfl,rfl,rfl,rfl,trivial⟩)
          |false=>
           refine af ?_;refine bE rfl rfl (dx (vs:=a9 _) rfl ay V.h V.h rfl) (fun hc=>⟨ak,(dy V.h V.h (by first|(simp;done)|omega|exact bA rfl))⟩) ?_;refine gc lT ?_;refine SS ?_;refine gc gk ?_;refine af ?_;refine ab ?_;refine au ?_;exact ab (sQ ha _ U.symm ⟨rfl,rfl,rfl,rfl,rfl,rfl,rfl,rfl,rfl,rfl,rfl,rfl,trivial⟩)
        .have uD:decide (((x.ins.length:Int) - 1 - p)>=0)=false:=decide_eq_false oG;refine af ?_;refine ab ⟨_,rfl,fun h=>oH,fun _=>?_⟩;have fq:p=x.ins.length:=by omega
         refine⟨m,nx,aq ⟨rfl,rfl,rfl,rfl,rfl,rfl,rfl,rfl,rfl,rfl,?_,trivial⟩,C⟩;rw[Fx,fq,Nat.sub_self];rfl
       .clear C mP Fx;rintro s ⟨m,nx,mP,C⟩;refine⟨_,mP,ao ?_⟩;have Cm:=Jy f.aj.length M b;have nJ:=Jy f.aj.length O b;have mL:∀ ρ:Nat->Nat,((List.range f.blocks.length).map fun i=>D.rs (ρ i) 0 f.aj.length).length=f.blocks.length:=fun _=>by simp
        have alK:=mL ρi;have alL:=mL ρo;obtain⟨cs1,Xe⟩:=JA (ρ:=ρi) (w:=f.aj.length) X;obtain⟨cs2,Xf⟩:=JA (ρ:=ρo) (w:=f.aj.length) X;obtain⟨cs3,Xg⟩:=I2 (M:=M) (b:=b) ED;obtain⟨cs4,Xh⟩:=I2 (M:=O) (b:=b) ED;have La:=C.aiY (l:=(eP f.aj.length O b).set r (B jC)) X (by simp[nJ]);have Ux:=La.aiZ (l:=(eP f.aj.length M b).set r (B sf)) X (by simp[Cm]);rw[Jz] at La;rw[Jz,Jz] at Ux;have ay:=C.c2;have cQ:=C.o.row;have gy:=C.o.kA b X;have D7:=C.i.row;have hgi:=C.gi;have Mo:=C.go;have alM:=C.sd b X;have alN:=C.qQ b X;have alO:=C.oj b X;have alP:=C.io b b X X;have nU:=La.c2;generalize wq:M b r=yS at Xg vg Ea Fy;generalize hor:O b r=yT at Xh Az DT Fy;have kd:=Xf;have gA:=Xh;refine aE ?_;refine au ?_;have cQ:=C.i.row;have gy:=C.i.kA b X;have kd:=Xe;have gA:=Xg;refine aE ?_;refine aV ?_;have cQ:=C.o.row;have gy:=C.o.kA b X;have kd:=Xf;refine er ?_;refine dk ?_;refine aF (kV rfl rfl gy V.h V.h) ak ⟨V.h,oG⟩ ?_;refine cJ (iA (d:=.s (.bool _)) (cs':=_) rfl rfl gy rfl rfl) ak (dQ V.h V.h (by first|(simp;done)|exact⟨rfl,bA rfl⟩|(simp;omega)) rfl) ?_;have cQ:=C.i.row;have gy:=C.i.kA b X;have kd:=Xe;refine ab (eZ ?_);refine aF (qU rfl (ag oG ay) V.h) ak (pb V.h) ?_;refine aF (fV rfl (ag oG ay) rfl V.h) ak (fW V.h V.h rfl) ?_;refine SS ?_;refine aF (kV rfl rfl (ag oG cQ) V.h V.h) ak ⟨V.h,oG⟩ ?_;refine aF (fV rfl (ag oG cQ) kd V.h) ak (fW V.h V.h kd) ?_;refine af ?_;refine aF (kV rfl rfl (ag oG gy) V.h V.h) ak ⟨V.h,oG⟩ ?_;refine cJ (iA (d:=.s (.bool _)) (cs':=_) rfl rfl (ag oG gy) rfl rfl) ak (dQ V.h V.h (by first|(simp;done)|exact⟨rfl,bA rfl⟩|(simp;omega)) rfl) ?_;refine ab ?_;refine au ?_
        have vd:(if(if t=true then true else(jC !=yT))=true then true else(sf !=yS))=true↔(t=true\/jC≠yT\/sf≠yS):=by
         cases t<;>cases jC<;>cases yT<;>cases sf<;>cases yS<;>simp
        generalize htg:(if(if t=true then true else(jC !=yT))=true then true else(sf !=yS))=tn at vd;refine ab (aK (r+1,iO M b r sf,iO O b r jC,_,nx,tn) (aq ⟨rfl,rfl,rfl,rfl,rfl,rfl,by rw[<- htg];rfl,rfl,rfl,trivial⟩) ⟨oM,Ux,L8,fun e=>?_,fun e=>?_⟩ oM)
        .dsimp only at e ⊢;have hn:¬ (t=true\/jC≠yT\/sf≠yS):=fun h=>by rw[vd.2 h] at e;cases e
         have qC:t=false:=by
          cases uV:t with
          |false=>rfl
          |true=>exact absurd (.inl uV) hn
         have Xi:jC=yT:=Classical.byContradiction fun h=>hn (.inr (.inl h));have Ah:sf=yS:=Classical.byContradiction fun h=>hn (.inr (.inr h));obtain⟨e1,e2,e3,e4⟩:=pO qC;have u1:iO M b r sf=M:=by rw[Ah, <- wq];exact OU _ _ _
         have u2:iO O b r jC=O:=by rw[Xi, <- hor];exact OU _ _ _
         rw[u1,u2];refine⟨e1,e2,e3,fun q hq=>?_⟩;by_cases eq:q=r
         .subst eq;have:=Fy Ah Xi;rw[e1,e2] at this;exact this
         .exact e4 q oG
        .dsimp only at e ⊢;have m1:=Ea.1;have m2:=DT.1;cases uV:t with
         |true=>
          have:=kN uV;omega
         |false=>
          obtain⟨e1,e2,_,_⟩:=pO uV;rw[e1] at m1 Ea ⊢;rw[e2] at m2 DT ⊢;rcases vd.1 e with h|h|h
          .rw[uV] at h;cases h
          .have:yT=false/\jC=true:=by
            revert h Az;cases yT<;>cases jC<;>simp
           have:=DT.2 X ED this.1 this.2;omega
          .have:yS=false/\sf=true:=by
            revert h vg;cases yS<;>cases sf<;>simp
           have:=Ea.2 X ED this.1 this.2;omega
     .show AOps _ _ _ _ _ _ _ _ _;have bh:¬ r<f.aj.length:=by simpa using h
      refine au ?_;exact ab (xx (.inl bh) _ ⟨rfl,rfl,rfl,rfl,rfl,rfl,rfl,rfl,trivial⟩)
    .have bh:¬ b<f.blocks.length:=by simpa using h
     refine aK (Mb,Ob,mb,nb,tb) (aq eH) ⟨C,vm,fun e x q hq=>?_⟩ ?_
     .dsimp only at e ⊢;obtain⟨e1,e2,e3⟩:=pO e;rw[e1,e2];by_cases nQ:x<b
      .exact e3 x q nQ hq
      .intro hc;rw[qi,bF,List.getElem?_eq_none oG] at hc;cases hc
     .dsimp only;rw[if_pos ht];cases uV:tb with
      |false=>
       obtain⟨e1,e2,_⟩:=pO uV;rw[e1,e2];simp
      |true=>have:=kN uV;simp;omega
   .exact⟨M0,O0,m,nx,aq eH,wR,uW,rZ ht⟩
  .clear wR mP;rintro s ⟨M,O,m,nx,mP,C,vm,pO⟩;obtain⟨hf1,MF⟩:=afY vm fun b r hc hr=>pO b r hr hc;have wS:zs f.blocks.length f.aj.length (rX f) (MM f)=zs f.blocks.length f.aj.length M O:=ab0 (fun b r hr=>by rw[Bool.eq_iff_iff];exact(hf1 b r hr).symm) (fun b r hr=>by rw[Bool.eq_iff_iff];exact(MF b r hr).symm);rw[wS];refine⟨_,mP.trans (YD C (fun _=>.map) (fun _=>.map) c4 Xj ⟨rfl,rfl,trivial⟩),ao ?_⟩;refine af ?_;exact ab (aT (jH (jZ rfl rfl VV VW rfl t104 (bA rfl)) rfl))
end Go.Proofs.Tryz.K
end
