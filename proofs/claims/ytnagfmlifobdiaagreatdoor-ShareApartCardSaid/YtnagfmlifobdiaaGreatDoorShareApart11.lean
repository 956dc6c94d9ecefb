/- Part 11. -/
import Derived.Test.YtnagfmlifobdiaaGreatDoorShareApart10
set_option linter.all false
set_option maxHeartbeats 0
set_option maxRecDepth 10000
open List(replicate)
section
open Go Go.Proofs List
namespace Go.Abs
open Go.Proofs.Tryz
noncomputable abbrev adX:=NO prog ids
noncomputable def Vp:Ctx:={ nR:=adX }
def sO:BJ prog Vp:=⟨mixed,(aaA abQ:Np prog adX),λ_ _ _ h=>oH,λ_ _ _ _ _ _ _ h=>oH⟩
def H'{off:Nat}{vs cs:List D}(hv:vs.length=20)(hl:off+20<=cs.length)(C:vs.all D.one=true):a8 prog 201=true/\vs.length=prog.cellsOf 201/\off+prog.cellsOf 201<=cs.length/\vs.all D.one=true:=by
 rw[xz];exact⟨t201,hv,hl,C⟩
def pg{w:List Int}{m:Nat}(U:w.length=20)(hm:m<1280):aH prog 135 [jK w,I m] (B (nM w m)):=by
 have M:∀ a∈[jK w,I m],Tr a:=.cons (vS _) fp;have hi:w[m / 64]? =some w[m / 64]:=aO oG;have hg:w.getD (m / 64) 0=w[m / 64]:=by simp[dU,hi]
 have C:=acU (m:=m) oG;have J:=acV m;have kd:=qo (f:=dV) hi;refine bx (fo f135) M (Tr.s _) ?_;refine ws (ag ?_);refine er (SS ?_);refine aI (abR rfl rfl C) ak ⟨rfl,oG⟩ (ax ?_);refine aI (abS rfl rfl J) ak ⟨rfl,oG⟩ (aI (ani rfl rfl) ak oG (aI (ach rfl rfl) ak rfl (ag ?_)));refine af (aC (d:=.s (.bool _)) rfl ?_);rw[nM,hg];rfl
def vT{w:List Int}{n:Int}(U:w.length=20)(hn: -1000000<=n/\n<1280):aH prog 179 [jK w,I n] (jK (iS w n)):=by
 have M:∀ a∈[jK w,I n],Tr a:=.cons (vS _) fp;refine bx (fo f179) M (vS _) ?_;refine ws (ag ?_);refine af (aG (al ?_));by_cases h0:0<=n
 .obtain⟨m,rfl⟩:=jy h0;have hm:m<1280:=by omega
  have hi:w[m / 64]? =some w[m / 64]:=aO oG;have hg:w.getD (m / 64) 0=w[m / 64]:=by simp[dU,hi]
  have C:=acU (m:=m) oG;have J:=acV m;have kd:=qo (f:=dV) hi;have xy:decide (0<=(m:Int))=true:=by simp
  refine SS ?_;refine aI (Sv rfl rfl xy) ak rfl (af (wY (c6 iO ?_)));refine SS ?_;refine aI (abR rfl rfl C) ak ⟨rfl,oG⟩ (ax ?_);refine aI (abS rfl rfl J) ak ⟨rfl,oG⟩ (aI (apC rfl rfl) ak oG (aI (atQ rfl rfl) ak rfl (ag ?_)));refine bJ bM (al ?_);refine ag ?_;refine af (nG (kz rfl rfl a201 xz (rG (by first|rfl|simp;omega)) t201 oP) ?_);simp only[iS,h0,if_true,eU,BK,hg,jK,map_set];rfl
 .have xy:decide (0<=n)=false:=s0 h0
  refine SS ?_;refine aI (Sv rfl rfl xy) ak rfl (af (sT (cI (al ?_))));refine ag ?_;refine af (nG (kz rfl rfl a201 xz (rG oP) t201 oP) ?_);simp[iS,h0,if_false]
def NQ{w v:List Int}(M:w.length=20)(hv:v.length=20):aH prog 180 [jK w,jK v] (jK (kL w v)):=by
 have U:∀ a∈[jK w,jK v],Tr a:=.cons (vS _) (.cons (vS _) .nil);refine bx (fo f180) U (vS _) ?_;refine ws (ax ?_);refine af (aG (aA (SS ?_)))
 refine af (cw (λs=>aP prog s ⟨aD [(2,.rp 0 0),(3,.rp 1 0),(4,.rp 2 0)],bA [(0,.cells ((kL w v).map dV) 201),(1,.cells (v.map dV) 201),(2,.cells (replicate 20 (dV 0)) 201)],3⟩) (eB (α:=Nat)
  (λk=>⟨aD [(2,.rp 0 0),(3,.rp 1 0),(4,.rp 2 0),(6,I k)],bA [(0,.cells ((gW w v k).map dV) 201),(1,.cells (v.map dV) 201),(2,.cells (replicate 20 (dV 0)) 201)],3⟩)
  (λk=>k<=20) (λk=>20 - k) 0 (bp eH eH) oG ?_) ?_)
 .intro k hk;refine SS ?_;refine af ⟨_,rfl,λh=>?_,λh=>?_⟩
  .have ao:k<20:=by have h:(k:Int)<20:=s0 h
                    omega
   have qS:(gW w v k).length=20:=by simp[M]
   have hi:(gW w v k)[k]? =some (gW w v k)[k]:=aO oG;have hj:v[k]? =some v[k]:=aO oG;have hg:(gW w v k).getD k 0=(gW w v k)[k]:=by simp[dU,hi]
   have C:v.getD k 0=v[k]:=by simp[dU,hj]
   have kd:=qo (f:=dV) hi;have fX:=qo (f:=dV) hj;refine ws (ag ?_);refine af (Bp iO ?_);refine bh ?_;refine aI (fh rfl rfl fX V.h) ak (fj V.h V.h fX) (aI (ach rfl rfl) ak rfl (ag ?_));refine bJ bM (ag ?_);refine af (aW (k+1) (bp eH ⟨?_,rfl,rfl,aa⟩) oG oG);rw[aw];simp only[gW,hg,C,map_set];rfl
  .have X:¬ k<20:=by intro hh;simp at h;omega
   have:k=20:=by omega
   subst this;exact .forget _ _ _ _ λt=>vu (l:=[(2,.rp 0 0),(3,.rp 1 0),(4,.rp 2 0)]) ⟨rfl,rfl,rfl,aa⟩ t
 .intro s hg;have J:(kL w v).length=20:=by simp[M]
  generalize kL w v=u at hg J ⊢;refine⟨_,hg,al ?_⟩;refine ag ?_;refine af (nG (kz rfl rfl a201 xz (rG oP) t201 oP) ?_);rfl
def adY:Int:=18446744073709551615
def Uq:aH prog 178 [] (jK (replicate 20 adY)):=by
 exact rk sO 100 (show Ak prog Vp (nu prog Vp 100) 178 []=some (.inl (jK (replicate 20 adY))) by kernel_rfl) rfl
def JA{w:List Int}{x:cq}(C:w.length=20)(hn:x.op=18->0<=x.n/\x.n<80)(ht:x.op≠18-> -1000000<=eP x/\eP x<1280):aH prog 183 [jK w,.agg (bU x)] (jK (iS w (if x.op=18 then nW x.n else eP x))):=by
 have J:∀ a∈[jK w,.agg (bU x)],Tr a:=.cons (vS _) (.cons (.agg (tP x)) .nil);refine bx (fo f183) J (vS _) ?_;refine ws (ax ?_);refine af (aG (al (ax ?_)));refine af (cM rfl (λh=>?_) λh=>cI (c6 (hD [(0,2)]) ?_))
 .have h:x.op=18:=s0 h
  have hx:=hn h;have Az:=Az (n:=x.n) oG;have vT:=vT (w:=w) (n:=nW x.n) C (by unfold nW;omega);refine aG (c6 (hD [(0,3)]) ?_);refine cz ?_;refine bJ bM (de (nG (kz rfl rfl a201 xz (rG oP) t201 oP) ?_));simp[h]
 .have h:x.op≠18:=s0 h
  have GA:=GA (x:=x);have vT:=vT (w:=w) (n:=eP x) C (ht h);refine SS ?_;refine aI (gA (vs:=bU _) rfl rfl V.h V.h rfl) ak (gB V.h V.h c0) (ax ?_);refine bJ bM (nG (kz rfl rfl a201 xz (rG oP) t201 oP) ?_);simp[h]
def kQ(x:End):Bool:=decide (0<=x.others)&&bf [5,6,8] x.kind
def ep(x:End):List Int:=if bf [3,4] x.kind then [] else x.to::((if bf [2,8] x.kind then [x.ei] else [])++(x.aK.map (·.to)++(if kQ x then [x.others] else [])))
def uS(x:End):Nat:=if bf [2,8] x.kind then 2 else 1
def alG{x:End}(h:bf [3,4] x.kind=false):(ep x)[0]? =some x.to/\(bf [2,8] x.kind=true->(ep x)[1]? =some x.ei)/\(∀ (j:Nat) w,x.aK[j]? =some w->(ep x)[uS x+j]? =some w.to)/\
 (kQ x=true->(ep x)[uS x+x.aK.length]? =some x.others)/\(ep x).length=uS x+x.aK.length+(if kQ x then 1 else 0):=by
 unfold ep uS;generalize kQ x=c;rw[ai (by simp[h])];cases h2:bf [2,8] x.kind with
 |true=>
  refine⟨rfl,λ_=>rfl,λj w hj=>?_,λhc=>?_,?_⟩
  .have:j<x.aK.length:=(bQ.1 hj).1;simp[if_true,singleton_append];rw[show 2+j=j+1+1 by omega,getElem?_cons_succ,getElem?_cons_succ,getElem?_append_left (s0 this)];simp[hj]
  .simp[if_true,singleton_append];rw[show 2+x.aK.length=x.aK.length+1+1 by omega,getElem?_cons_succ,getElem?_cons_succ,getElem?_append_right oS];rw[bi hc];simp
  .cases c<;>simp<;>omega
 |false=>
  refine⟨rfl,λh=>oH,λj w hj=>?_,λhc=>?_,?_⟩
  .have:j<x.aK.length:=(bQ.1 hj).1;simp[Bool.false_eq_true,if_false,nil_append];rw[show 1+j=j+1 by omega,getElem?_cons_succ,getElem?_append_left (s0 this)];simp[hj]
  .simp[Bool.false_eq_true,if_false,nil_append];rw[show 1+x.aK.length=x.aK.length+1 by omega,getElem?_cons_succ,getElem?_append_right oS];rw[bi hc];simp
  .cases c<;>simp<;>omega
def my{P:Program}{Y:iu}{rf:Bool}{Q:Exit->St->Prop}{st:St}[fG Y]{ops:Array Oper}{i:Nat}(h:aE P Y ops false [] (iJ (Q .normal)) ops.toList st []):AW P Y rf (.region i ops false) Q st:=kU (rf:=rf) (id:=i) (aE.ni h λ_ h=>h)
def AB{x:Abs.End}:aH prog 175 [.agg (bq x)] (.fn (.func 234) [] [.pt (bq x)]):=by
 have C:∀ a∈[D.agg (bq x)],Tr a:=.cons (.agg (oU x)) .nil;refine bx (fo f175) C (.fn oS (.cons (.pt (oU x)) .nil)) ?_;refine aA (SS ?_);refine aI (fR (v:=.s .nilFunc) rfl) ak aa (af (br (cH [(0,bq x,57)] eH (l:=[(1,.pt (bq x))]) eH) (al ?_)));refine SS ?_;exact aI (fR (v:=.fn _ _ _) rfl) ak aa (af (aC rfl rfl))
def Vu(l:Nat)(x:Abs.End)(I':Nat->Mem->Nat->Prop)(n:Nat)(s:St):Prop:=∃ m nx,aP prog s ⟨aD [(0,.fn (.yield l) [] []),(1,.pt (bq x))],m,nx⟩/\I' n m nx
def ad6{x:Abs.End}(hlen:x.aK.length<=100000):DQ prog 234 [] [.pt (bq x)] ((ep x).map λn=>[I n]):=by
 refine aoK mixed (fo f234) kr λl I' Stop m nx hI aco h0=>?_;by_cases M:bf [3,4] x.kind=true
 .have lK:((ep x).map λn=>[I n]).length=0:=by simp[ep,M]
  rw[lK];by_cases J:x.kind=3
  .have iy:(x.kind==3)=true:=s0 J
   refine aG (al (aQ ?_));(iterate 3 refine z λ_ _=>?_);refine ag ?_;(iterate 5 refine z λ_ _=>?_);refine SS ?_;refine af (cM rfl (λh=>abo (bj (aY (De (.inl h0))))) λh=>oH)
  .have h4:x.kind=4:=by simpa[bf,J] using M
   have iy:(x.kind==3)=false:=s0 J
   have Nt:(x.kind==4)=true:=s0 h4
   refine aG (al (aX ?_));(iterate 5 refine z λ_ _=>?_);refine SS ?_;refine af (cM rfl (λh=>abo (bj (aY (De (.inl h0))))) λh=>oH)
 have M:bf [3,4] x.kind=false:=s0 M
 let⟨x0,x1,xw,xo,xl⟩:=alG M;have C:∀ {k:Nat} {n:Int},(ep x)[k]? =some n->((ep x).map λn=>[I n])[k]? =some [I n]:=λh=>by simp[h]
 have y5:((ep x).map λn=>[I n]).length=uS x+x.aK.length+(if kQ x then 1 else 0):=s0 xl
 have Cu:x.kind≠3/\x.kind≠4:=by simpa[bf] using M
 refine fS (Vu l x I' 1) ?_ λs hs=>?_
 .have iy:(x.kind==3)=false:=s0 Cu.1
  have Nt:(x.kind==4)=false:=s0 Cu.2
  refine ws (aX ?_);refine ax ?_;refine Tn rfl rfl rfl rfl aM ⟨rfl,0,C x0,h0,λd m' nx' hp=>?_⟩;rcases hp with⟨rfl,hp⟩|⟨rfl,hp⟩
  .refine ag ?_;exact af (aB rfl (λh=>oH) λh=>bV ⟨m',nx',au eH,hp⟩)
  .refine ag ?_;exact af (aB rfl (λh=>bj (aY (De (.inr hp)))) λh=>oH)
 let⟨m1,nz,hg,h1⟩:=hs;refine⟨_,hg,?_⟩;clear hg h0;refine fS (Vu l x I' (uS x)) ?_ λs hs=>?_
 .have yes:bf [2,8] x.kind=true->(ep x)[1]? =some x.ei/\uS x=2:=λh=>⟨x1 h,by simp[uS,h]⟩
  by_cases h2:x.kind=2
  .let⟨X,y2⟩:=yes (by rw[h2];rfl);have iy:(x.kind==2)=true:=s0 h2
   refine ws (aQ ?_);(iterate 3 refine z λ_ _=>?_);refine bh ?_;refine Tn rfl rfl rfl rfl aM ⟨rfl,1,C X,h1,λd m' nx' hp=>?_⟩;rcases hp with⟨rfl,hp⟩|⟨rfl,hp⟩
   .refine ag ?_;exact af (aB rfl (λh=>oH) λh=>bV ⟨m',nx',au eH,y2▸hp⟩)
   .refine ag ?_;exact af (aB rfl (λh=>bj (aY (De (.inr hp)))) λh=>oH)
  .have iy:(x.kind==2)=false:=s0 h2
   by_cases U:x.kind=8
   .let⟨X,y2⟩:=yes (by rw[U];rfl);have Nt:(x.kind==8)=true:=s0 U
    refine ws (aX ?_);refine ax ?_;refine Tn rfl rfl rfl rfl aM ⟨rfl,1,C X,h1,λd m' nx' hp=>?_⟩;rcases hp with⟨rfl,hp⟩|⟨rfl,hp⟩
    .refine ag ?_;exact af (aB rfl (λh=>oH) λh=>bV ⟨m',nx',au eH,y2▸hp⟩)
    .refine ag ?_;exact af (aB rfl (λh=>bj (aY (De (.inr hp)))) λh=>oH)
   .have Nt:(x.kind==8)=false:=s0 U
    have hb:uS x=1:=by simp[uS,bf,h2,U]
    refine ws (aX ?_);(iterate 5 refine z λ_ _=>?_);refine SS ?_;exact af (aB rfl (λh=>oH) λh=>bV ⟨m1,nz,au eH,hb▸h1⟩)
 let⟨m2,iK,hg,h2⟩:=hs;refine⟨_,hg,?_⟩;clear hg;refine fS (Vu l x I' (uS x+x.aK.length)) (aA ?_) λs hs=>?_
 .refine aQ ?_
  refine af (eB (α:=Nat×Mem×Nat) (λk=>⟨aD [(0,.fn (.yield l) [] []),(1,.pt (bq x)),(36,nX x.aK),(37,I x.aK.length),(38,I k.1)],k.2.1,k.2.2⟩)
   (λk=>k.1<=x.aK.length/\I' (uS x+k.1) k.2.1 k.2.2) (λk=>x.aK.length - k.1) (0,m2,iK) (au eH) ⟨oG,h2⟩ ?_)
  rintro⟨k,m3,OV⟩ ⟨hk,Oi⟩;refine SS ?_;refine af ⟨_,rfl,λh=>?_,λh=>?_⟩
  .have ao:k<x.aK.length:=s0 h
   have hx:x.aK[k]? =some x.aK[k]:=by simp[ao]
   generalize x.aK[k]=w at hx;refine ws (aQ ?_);refine er (ag ?_);refine aI (fh rfl r9 rfl V.h) ak (fj V.h V.h rfl) (adT rfl rfl aM ⟨rfl,uS x+k,C (xw k w hx),hI _ _ _ _ _ Oi oG (λi hi=>ay oG (ay oG rfl)),λd m' nx' hp=>?_⟩);rcases hp with⟨rfl,hp⟩|⟨rfl,hp⟩
   .refine SS ?_;refine af (aB rfl (λh=>oH) λh=>cB ?_);refine ag ?_;exact af (aW (k+1,m',nx') (au eH) ⟨by simp only;omega,hp⟩ (by simp only;omega))
   .refine SS ?_;exact af (aB rfl (λh=>bj (bP (aY (De (.inr hp))))) λh=>oH)
  .have bt:¬ k<x.aK.length:=s0 h
   have:k=x.aK.length:=by simp only at hk;omega
   subst this;exact⟨m3,OV,.forget _ _ _ _ λt=>vu (l:=[(0,.fn (.yield l) [] []),(1,.pt (bq x))]) ⟨rfl,rfl,aa⟩ t,Oi⟩
 let⟨m3,OV,hg,J⟩:=hs;refine⟨_,hg,al ?_⟩;refine aX ?_;refine aX ?_;refine af (aB rfl (λh=>?_) λh=>?_)
 .have hc:kQ x=true:=by
   revert h;unfold kQ bf;simp[ib,or_assoc]
  refine my (ax ?_);refine adT rfl rfl aM ⟨rfl,_,C (xo hc),J,λd m' nx' hp=>?_⟩;refine af (Df ?_);rcases hp with⟨rfl,hp⟩|⟨rfl,hp⟩
  .left;rw[y5,bi hc];exact hp
  .exact .inr hp
 .have hc:kQ x=false:=by
   revert h;unfold kQ bf;simp[ib,and_assoc]
  refine cB (Df (.inl ?_));rw[y5,hc];exact J
def FR(x:End)(b:Int):Bool:=bm x.to b&&bm ((ep x).count b:Nat) 1
def RJ(x:End):(ep x).length<=x.aK.length+3:=by
 unfold ep;split
 .simp
 .simp[length_cons,length_append,length_map];split<;>split<;>simp<;>omega
section
def Uu{x:Abs.End}{b:Int}(hlen:x.aK.length<=1000):aH prog 185 [.agg (bq x),I b] (B (FR x b)):=by
 have J:∀ a∈[D.agg (bq x),I b],Tr a:=.cons (.agg (oU x)) fp;have AB:=AB (x:=x);have hl:=RJ x;refine bx (fo f185) J (Tr.s _) ?_;refine aA (SS ?_);refine di (MK (d:=.s (.int _ _)) rfl rfl) ak rfl (SS ?_);refine af (br (cH [(0,bq x,57),(1,[I b],3)] eH (l:=[(2,.pt (bq x)),(3,.pt [I b])]) eH) (al ?_));refine ag ?_;refine af (fS (λs=>∃ n',aP prog s ⟨aD [(2,.pt (bq x)),(3,.pt [I b]),(5,.rp 2 0)],bA [(2,.cells [I ((ep x).count b:Nat)] 3)],n'⟩) (al ?_) λs hs=>?_)
 .refine SS ?_;refine cl AB ?_;refine af (tN ?_);refine⟨rfl,aa,234,[],[.pt (bq x)],(ep x).map (λn=>[I n]),λk m nx=>m 2=some (.cells [I (((ep x).take k).count b:Nat)] 3)/\3<=nx,rfl,ad6 oG,?_,⟨rfl,oS⟩,?_,?_⟩
  .intro y hy;obtain⟨n,_,rfl⟩:=List.mem_map.1 hy;exact⟨rfl,.cons (.s _) .nil⟩
  .rintro k m nx y hy ⟨aF,M⟩;simp only[getElem?_map,ej] at hy;obtain⟨n,hn,rfl⟩:=hy;have hk:k<(ep x).length:=(bQ.1 hn).1
   have hc:((ep x).take (k+1)).count b=((ep x).take k).count b+(if n=b then 1 else 0):=by
    rw[take_add_one,hn,count_append];by_cases e:n=b
    .subst e;simp
    .simp[e]
   have C:((ep x).take k).count b<=k:=Nat.le_trans count_le_length oP;generalize ((ep x).take k).count b=c at aF hc C;refine my (SS ?_);refine af (show AW _ _ _ _ _ _ from tN (al (ax ?_)));refine af (aB rfl (λh=>?_) λh=>?_)
   .have h:n=b:=by simpa using h
    refine my ?_;refine ag ?_;refine dH (lT (d:=.s (.int _ _)) (cs':=[_]) rfl rfl aF rfl rfl) ak (eO V.h V.h (by first|(simp;done)|exact⟨rfl,bL rfl⟩|(simp;omega)) rfl) ?_;refine af ?_;refine⟨?_,oM⟩;dsimp only;refine(aw _ _ _).trans ?_;rw[hc,bi h];simp
   .have h:¬ n=b:=s0 h
    exact cB ⟨by rw[hc,ai h];exact aF,M⟩
  .rintro m nx ⟨h1,h2⟩;refine⟨nx,bp eH ⟨?_,aa⟩⟩;rw[h1,length_map,take_length]
 let⟨n',hg⟩:=hs;refine⟨_,hg,al ?_⟩;refine aX ?_;refine af (aC (d:=.s (.bool _)) rfl ?_);simp[FR,bm,ib]
variable{f:FuncId}{cs:List D}{xs:List Int}
def Uv{f:FuncId}{cs:List D}{xs:List Int}(hs:DQ prog f [] cs (xs.map λn=>[I n]))(ht:Tr (.fn (.func f) [] cs))(hlen:xs.length<=100000):pL prog 251 [.z,.fn (.func f) [] cs] (xs.map I) xs.length 3:=by
 have X:∀ a∈[D.z,.fn (.func f) [] cs],Tr a:=.cons .z (.cons ht .nil);refine OQ (fo f251) X (.map λ_=>.s _) ?_;refine ws (di (MK (d:=.z) rfl rfl) ak rfl (SS ?_));refine af (fS (λs=>(xs=[]/\∃ n',aP prog s ⟨aD [(2,.rp 0 0)],bA [(0,.cells [.z] 43)],n'⟩)\/∃ r n',0<r/\aP prog s ⟨aD [(2,.rp 0 0)],bA [(0,.cells [.rs r 0 xs.length] 43),(r,.cells (xs.map I) 3)],n'⟩) (al ?_) λs hs=>?_)
 .refine SS ?_;refine af (tN ?_);refine⟨rfl,aa,f,[],cs,xs.map (λn=>[I n]),λk m nx=>1<=nx/\((k=0/\m 0=some (.cells [.z] 43))\/(0<k/\∃ r,0<r/\r<nx/\m 0=some (.cells [.rs r 0 k] 43)/\m r=some (.cells ((xs.take k).map I) 3))),rfl,hs,?_,⟨oS,.inl ⟨rfl,rfl⟩⟩,?_,?_⟩
  .intro y hy;obtain⟨n,_,rfl⟩:=List.mem_map.1 hy;exact⟨rfl,.cons (.s _) .nil⟩
  .rintro k m nx y hy ⟨dA,C⟩;simp[getElem?_map,ej] at hy;obtain⟨n,hn,rfl⟩:=hy;have hk:k<xs.length:=(bQ.1 hn).1
   have M:(xs.take (k+1)).map I=(xs.take k).map I++[I n]:=by
    rw[List.take_add_one,hn];simp
   refine my (SS ?_);refine af (show AW _ _ _ _ _ _ from tN (my ?_));rcases C with⟨rfl,aF⟩|⟨zw,r,U,J,aF,fJ⟩
   .refine aQ ?_;refine dH (lT (d:=.rs _ _ _) (cs':=[_]) rfl rfl (ay oG (ay oG aF)) rfl rfl) ak (eO V.h V.h (by first|(simp;done)|exact⟨rfl,bL rfl⟩|(simp;omega)) rfl) ?_;refine af ?_;refine⟨oM,.inr ⟨oG,nx+1,oG,oM,?_,?_⟩⟩
    .dsimp only;exact(aw _ _ _).trans rfl
    .dsimp only;exact(ay oG (aw _ _ _)).trans (by rw[M];rfl)
   .have nv:((xs.take k).map I).length=k:=by simp;omega
    refine aQ ?_;refine dH (lT (d:=.rs _ _ _) (cs':=[_]) rfl rfl (ay oG (ay oG (ay oG aF))) rfl rfl) ak (eO V.h V.h (by first|(simp;done)|exact⟨rfl,bL rfl⟩|(simp;omega)) rfl) ?_;refine af ?_;refine⟨oM,.inr ⟨oG,nx+1,oG,oM,?_,?_⟩⟩
    .dsimp only;exact(aw _ _ _).trans rfl
    .dsimp only;exact(ay oG (aw _ _ _)).trans (by rw[M];rfl)
  .rintro m nx ⟨dA,C⟩;rw[length_map] at C;rcases C with⟨h0,aF⟩|⟨zw,r,U,J,aF,fJ⟩
   .exact .inl ⟨List.length_eq_zero_iff.1 h0,nx,bp eH ⟨aF,aa⟩⟩
   .refine .inr ⟨r,nx,U,bp eH ⟨aF,?_,aa⟩⟩;rw[fJ,take_length]
 rcases hs with⟨rfl,n',hg⟩|⟨r,n',hr,hg⟩
 .refine⟨_,hg,aA ?_⟩;refine ag ?_;refine af ⟨_,.oY _ _ _ 4 3 rfl,aC rfl ⟨n',?_,aw _ _ _⟩⟩;rfl
 .refine⟨_,hg,al ?_⟩;refine ag ?_;refine af (aC rfl ⟨r,rfl,?_⟩);simp[bA];omega
def Uw(hs:DQ prog f [] cs (xs.map λn=>[I n]))(ht:Tr (.fn (.func f) [] cs))(hlen:xs.length<=100000):pL prog 244 [.fn (.func f) [] cs] (xs.map I) xs.length 3:=by
 have C:∀ a∈[.fn (.func f) [] cs],Tr a:=.cons ht .nil;refine OQ (fo f244) C (.map λ_=>.s _) ?_;have Uv:=Uv hs ht hlen;refine ws (SS ?_);refine er (SS ?_);refine Tm Uv rfl aM (SS ?_);exact af (aC rfl ⟨0,rfl,rfl⟩)
end
section
variable{P:Program}{env:Env}{m:Mem}{nx:Nat}{x y:Operand}{t p:TypeId}{k:IntKind}{n n':Int}
def abP(hx:(opd env x).core=.s (.int .i64 n))(hy:(opd env y).core=.s (.int .i64 n')){r:Int}(hd:n - n'=r/\ -9223372036854775808<=r/\r<=9223372036854775807):Ef P (.binOp .sub t x y p) env m nx ⟨IntKind.i64=IntKind.i64,.s (.int .i64 r),[],[],0⟩:=by
 obtain⟨rfl,h⟩:=hd;exact S4 hx hy h
def wL{j i l:Nat}{e:TypeId}{r:Row}(hx:(opd env x).core=.rs j 0 l)(hy:(opd env y).core=.s (.int k (i:Int)))(hm:m j=some r)(he:aT P t=e)(hs:P.cellsOf e=1):
 Ef P (.indexAddr t x y) env m nx ⟨bH P t=true/\i<l,.rp j i,[],[j],0⟩:=by
 have h:=MM (P:=P) (env:=env) (m:=m) (nx:=nx) (t:=t) hx hy hm he hs;have h1:0+((i:Int)).toNat*1=i:=by simp
 have h2:(bH P t=true/\(0:Int)<=(i:Int)/\(i:Int)<l)=(bH P t=true/\i<l):=by
  apply propext;constructor
  .rintro⟨a,_,b⟩;exact⟨a,oG⟩
  .rintro⟨a,b⟩;exact⟨a,oG,oG⟩
 rw[h1,h2] at h;exact h
def Ap{α:Type}(f:Nat->α)(i:Nat)(a b:α):up (up f i a) i b=up f i b:=by
 funext j;simp[up];split<;>rfl
variable{Y:iu}{rf:Bool}{Q:Exit->St->Prop}{st:St}{id jz i1 i3:Nat}{rc ri:Array Oper}{body:Code}{α:Type}{cf:List (Nat×Nat)}{u:Nat}
def ao2[fG Y](hi:ct rc=some cf)(S:α->St)(J:α->Prop)(μ:α->Nat)(C:α)(hg:aP P st (S C))(hJ:J C)
 (h:∀ x,J x->aE P Y rc true cf (iJ λs=>∃ g,opd s.env (.tmp u)=.s (.bool g)/\(g=true->AW P Y rf body (o6 jz id (λs=>aE P Y ri false [] (iJ (Dx P S J μ x)) ri.toList s []) Q) s)/\(g=false->Q .normal s)) rc.toList (S x) []):
 ∃ st',aP P st st'/\AW P Y rf (.block id (.loop (.seq (.seq (.region i1 rc true) (.cond (.tmp u) .skip (.exit id))) (.seq (.block jz body) (.region i3 ri false))))) Q st':=by
 refine Ij (Q:=kf id Q) S J μ C hg hJ (λx hx=>?_) (a:=.skip) λ_ h=>h;refine aG (IM (rf:=rf) (id:=i1) hi (aE.ni (h x hx) λs hs=>?_));let⟨g,h1,h2,X⟩:=hs;refine⟨s,.refl s,cM h1 (λM=>?_) λU=>?_⟩
 .exact cI (Rv (h2 M))
 .apply rh;simp[jI,kf,if_true];exact X U
def vf{l:List (Nat×D)}{m':Mem}(h:pG l env)(hm:m=m'):aP P ⟨env,m,nx⟩ ⟨aD l,m',nx⟩:=hm▸au h
end
def swapAt(l:List Int)(j:Nat):List Int:=(l.set (j+1) (l.getD j 0)).set j (l.getD (j+1) 0)
def td(l:List Int):Nat->List Int
 |0=>l
 |j+1=>if l.getD (j+1) 0<l.getD j 0 then td (swapAt l j) j else l
def qD(l:List Int):Nat->List Int
 |0=>l
 |k+1=>td (qD l k) (k+1)
def rJ(l:List Int):List Int:=qD l (l.length - 1)
@[simp] theorem azf (l : List Int) (j : Nat) : (swapAt l j).length = l.length := by simp [swapAt]
@[simp] theorem al4 : ∀ (j : Nat) (l : List Int), (td l j).length = l.length
 |0,l=>rfl
 |j+1,l=>by simp[td];split<;>simp[al4 j]
@[simp] theorem Yl (l : List Int) : ∀ k, (qD l k).length = l.length
 |0=>rfl
 |k+1=>by simp[qD,Yl l k]
@[simp] theorem Ym (l : List Int) : (rJ l).length = l.length := Yl l _
section
def av4{a:Int}:aH prog 277 [I a] (B false):=by
 refine bx (fo f277) (by simp[Tr.s]) (Tr.s _) ?_;refine ws (SS ?_);refine er (aQ ?_);refine af (aC (d:=.s (.bool _)) rfl ?_);simp[bne]
def av5{a b:Int}:aH prog 266 [I a,I b] (B (decide (a<b))):=by
 refine bx (fo f266) (by simp[Tr.s]) (Tr.s _) ?_;refine ws (SS ?_);refine er (SS ?_);refine cl av4 ?_;refine SS ?_;(iterate 3 refine z λ_ _=>?_);refine ek ?_;exact af (aC (d:=.s (.bool _)) rfl rfl)
variable{m:Mem}{n:Nat}{l:List Int}
def av6{nx i:Nat}(hi:i<nx)(hm:m i=some (.cells (l.map I) 3))(hl:l.length=n)(hn:n<=12):
 js prog 260 [.rs i 0 n,I 0,I n] m nx (λr m' nx'=>r=.bu []/\nx'=nx/\m'=up m i (some (.cells ((rJ l).map I) 3))):=by
 refine AQ (fo f260) ?_
 have M:up m i (some (.cells (l.map I) 3))=m:=by
  funext j;simp only[up];split
  .rename_i e;rw[e,hm]
  .rfl
 refine aA (ax ?_);refine af (cT (α:=Nat) (λk=>⟨aD [(0,.rs i 0 n),(1,I 0),(2,I n),(6,I (k+1:Nat))],up m i (some (.cells ((qD l k).map I) 3)),nx⟩) (λk=>k<=n - 1) (λk=>n - k) 0 (vf eH M.symm) oG ?_);intro k hk;refine ax ?_;refine af ⟨_,rfl,λh=>?_,λh=>?_⟩
 .have ao:k+1<n:=by have:((k+1:Nat):Int)<n:=s0 h
                    omega
  refine aA (ag ?_);refine af (ao2 iO (α:=List Int×Nat) (λs=>⟨aD [(0,.rs i 0 n),(1,I 0),(2,I n),(6,I (k+1:Nat)),(7,I s.2)],up m i (some (.cells (s.1.map I) 3)),nx⟩) (λs=>s.1.length=n/\s.2<=k+1/\td s.1 s.2=qD l (k+1)) (λs=>s.2) (qD l k,k+1) (au eH) ⟨by simp[hl],oS,rfl⟩ ?_);rintro⟨d,j⟩ ⟨hd,hj,hs⟩;simp only at hd hj hs;cases j with
  |zero=>
   have rP:decide ((0:Int)<((0:Nat):Int))=false:=rfl;refine aQ ?_;(iterate 10 refine z λ_ _=>?_);refine SS ?_;refine bJ bM ⟨_,rfl,λh=>oH,λh=>?_⟩;have hs:d=qD l (k+1):=hs;subst hs;show aE _ _ _ _ _ _ _ _ _;refine ax ?_;exact af (aW (k+1) (au eH) oG oG)
  |succ j=>
   have ha:d[j+1]? =some d[j+1]:=aO oG;have hb:d[j]? =some d[j]:=aO oG;have C:d.getD (j+1) 0=d[j+1]:=by simp[dU,ha]
   have J:d.getD j 0=d[j]:=by simp[dU,hb]
   have kd:=qo (f:=I) ha;have fX:=qo (f:=I) hb;generalize U:d[j+1]=a at ha C kd;generalize X:d[j]=b at hb J fX;clear U X;have rP:decide ((0:Int)<((j+1:Nat):Int))=true:=by simp
   have uu:((j+1:Nat):Int) - 1=(j:Int)/\ -9223372036854775808<=(j:Int)/\(j:Int)<=9223372036854775807:=by omega
   refine cz ?_;refine cF rfl rfl (wL rfl rfl r9 V.h V.h) (λhc=>⟨ak,⟨V.h,oG⟩⟩) (cF rfl rfl (fh rfl r9 kd V.h) (λhc=>⟨ak,(fj V.h V.h kd)⟩) (ax ?_));refine cF rfl rfl (wL rfl rfl r9 V.h V.h) (λhc=>⟨ak,⟨V.h,oG⟩⟩) (cF rfl rfl (fh rfl r9 fX V.h) (λhc=>⟨ak,(fj V.h V.h fX)⟩) (gc av5 ?_));refine SS ?_;refine bJ bM ⟨_,rfl,λh=>?_,λh=>?_⟩
   .have h:a<b:=s0 h
    refine Bp iO (aX ?_);refine aI (fh rfl r9 fX V.h) ak (fj V.h V.h fX) (cJ ?_);refine bJ bM (ax ?_);refine af (aW (swapAt d j,j) (vf eH ?_) ⟨by simp[hd],by simp only;omega,?_⟩ (by simp only;omega))
    .rw[Ap,Ap];simp only[swapAt,C,J,map_set]
    .rw[<- hs];simp only[td,C,J,bi h]
   .have h:¬ a<b:=s0 h
    have hs:d=qD l (k+1):=by rw[<- hs];simp only[td,C,J,ai h]
    subst hs;show aE _ _ _ _ _ _ _ _ _;refine ax ?_;exact af (aW (k+1) (au eH) oG oG)
 .have bt:¬ k+1<n:=by have h:¬ ((k+1:Nat):Int)<n:=s0 h
                      omega
  refine Df ⟨rfl,rfl,?_⟩;have:k=n - 1:=by omega
  subst this;simp only[rJ,hl]
def av7{nx i:Nat}{mh:Int}(hi:i<nx)(hm:m i=some (.cells (l.map I) 3))(hl:l.length=n)(hn:n<=12):
 js prog 252 [.rs i 0 n,I 0,I n,I mh] m nx (λr m' nx'=>r=.bu []/\nx'=nx/\m'=up m i (some (.cells ((rJ l).map I) 3))):=by
 refine AQ (fo f252) ?_;refine ws (SS ?_);refine af (aA (SS ?_));refine af ⟨_,au (l:=[(0,.rs i 0 n),(1,I 0),(2,I n)]) eH,tN (aac (λs=>s=⟨aD [(0,.rs i 0 n),(1,I 0),(2,I n)],m,nx⟩) (λ_=>0) rfl λs hs=>?_)⟩;subst hs;refine tN (al (aQ ?_));refine af (aG (al (ag ?_)));refine af (cM rfl (λh=>?_) λh=>?_)
 .refine aG (al (ax ?_));refine mD (av6 hi hm hl hn) rfl aM λr m' nx' hp=>?_;obtain⟨rfl,rfl,rfl⟩:=hp;exact af (de (cA (aY (cA (De ⟨rfl,rfl,rfl⟩)))))
 .have:¬ ((n:Int) - 0<=12):=s0 h
  omega
def Uz(hn:n<=12):∃ r,aH prog 253 [.s (.int .u64 (IntKind.u64.wrap (n:Int)))] (I r):=by
 match n,hn with
 |0,_=>exact⟨0,rk sO 100 kr rfl⟩
 |1,_=>exact⟨1,rk sO 100 kr rfl⟩
 |2,_=>exact⟨2,rk sO 100 kr rfl⟩
 |3,_=>exact⟨2,rk sO 100 kr rfl⟩
 |4,_=>exact⟨3,rk sO 100 kr rfl⟩
 |5,_=>exact⟨3,rk sO 100 kr rfl⟩
 |6,_=>exact⟨3,rk sO 100 kr rfl⟩
 |7,_=>exact⟨3,rk sO 100 kr rfl⟩
 |8,_=>exact⟨4,rk sO 100 kr rfl⟩
 |9,_=>exact⟨4,rk sO 100 kr rfl⟩
 |10,_=>exact⟨4,rk sO 100 kr rfl⟩
 |11,_=>exact⟨4,rk sO 100 kr rfl⟩
 |12,_=>exact⟨4,rk sO 100 kr rfl⟩
def av8{nx i:Nat}{l:List Int}(hi:i<nx)(hm:m i=some (.cells (l.map I) 3))(hl:l.length=n)(hn:n<=12):
 js prog 245 [.rs i 0 n] m nx (λr m' nx'=>r=.bu []/\nx'=nx/\m'=up m i (some (.cells ((rJ l).map I) 3))):=by
 refine AQ (fo f245) ?_;let⟨mh,Uz⟩:=Uz hn;have aF:=hm;refine ws (ax ?_);refine af (my (bh ?_));refine mD (av7 hi hm hl hn) rfl aM λr m' nx' hp=>?_;obtain⟨rfl,rfl,rfl⟩:=hp;exact af (Df ⟨rfl,rfl,rfl⟩)
end
section
variable{e:TypeId}{cs:List D}
section
variable{P:Program}{env:Env}{m:Mem}{nx:Nat}{x y:Operand}{t p:TypeId}{k:IntKind}{n n':Int}
def anD{j i l off:Nat}{r:Row}(hx:(opd env x).core=.rs j off l)(hy:(opd env y).core=.s (.int k (i:Int)))(hm:m j=some r)(he:aT P t=e)(hs:P.cellsOf e=1):
 Ef P (.indexAddr t x y) env m nx ⟨bH P t=true/\i<l,.rp j (off+i),[],[j],0⟩:=by
 have h:=MM (P:=P) (env:=env) (m:=m) (nx:=nx) (t:=t) hx hy hm he hs;have h1:off+((i:Int)).toNat*1=off+i:=by simp
 have h2:(bH P t=true/\(0:Int)<=(i:Int)/\(i:Int)<l)=(bH P t=true/\i<l):=by
  apply propext;constructor
  .rintro⟨a,_,b⟩;exact⟨a,oG⟩
  .rintro⟨a,b⟩;exact⟨a,oG,oG⟩
 rw[h1,h2] at h;exact h
def Yn{i l a:Nat}(hx:(opd env x).core=.rs i 0 l)(hm:m i=some (.cells cs e))(he:aT P t=e)(hs:P.cellsOf e=1)(ha:(opd env y).core=.s (.int .i64 (a:Int))):
 Ef P (.slice t x (some y) none none) env m nx ⟨bH P t=true/\a<=l,.rs i a (l - a),[],[i],0⟩:=by
 have h:=Y0 (P:=P) (env:=env) (m:=m) (nx:=nx) (t:=t) (lo:=some y) (hi:=none) (a:=(a:Int)) (b:=(l:Int)) hx hm he hs (by simp[gg,ha,D.int?]) (by simp[gg]);have h1:0+((a:Int)).toNat*1=a:=by simp
 have C:((l:Int) - (a:Int)).toNat=l - a:=by omega
 have h2:((bH P t=true/\1=1)/\(0:Int)<=(a:Int)/\(a:Int)<=(l:Int)/\(l:Int)<=(l:Int))=(bH P t=true/\a<=l):=by
  apply propext;constructor
  .rintro⟨⟨a,_⟩,_,b,_⟩;exact⟨a,oG⟩
  .rintro⟨a,b⟩;exact⟨⟨a,rfl⟩,oG,oG,oG⟩
 rw[h1,h2,C] at h;exact h
def ajQ{i l b:Nat}(hx:(opd env x).core=.rs i 0 l)(hm:m i=some (.cells cs e))(he:aT P t=e)(hs:P.cellsOf e=1)(hb:(opd env y).core=.s (.int .i64 (b:Int))):
 Ef P (.slice t x none (some y) none) env m nx ⟨bH P t=true/\b<=l,.rs i 0 b,[],[i],0⟩:=by
 have h:=Y0 (P:=P) (env:=env) (m:=m) (nx:=nx) (t:=t) (lo:=none) (hi:=some y) (a:=0) (b:=(b:Int)) hx hm he hs (by simp[gg]) (by simp[gg,hb,D.int?]);have h1:0+((0:Int)).toNat*1=0:=by simp
 have C:((b:Int) - 0).toNat=b:=by omega
 have h2:((bH P t=true/\1=1)/\(0:Int)<=0/\(0:Int)<=(b:Int)/\(b:Int)<=(l:Int))=(bH P t=true/\b<=l):=by
  apply propext;constructor
  .rintro⟨⟨a,_⟩,_,_,b⟩;exact⟨a,oG⟩
  .rintro⟨a,b⟩;exact⟨⟨a,rfl⟩,oG,oG,oG⟩
 rw[h1,h2,C] at h;exact h
def anU{i off l:Nat}{z:List D}(hx:(opd env x).core=.rs i off l)(hm:m i=some (.cells cs e))(he:aT P t=e)(hz:bN P e=z):
 Ef P (.call { callee:=.builtin .clear,args:= #[x],argTypes:= #[t] }) env m nx ⟨bH P t=true/\off+l*P.cellsOf e<=cs.length/\e=e,.bu [],[(i,some (.cells (jF cs off (eI l z)) e))],[i],0⟩:=by
 apply BG («aS»:=[.rs i off l]) rfl (by simp[hx]);simp[gz,hm,hz,Array.getD_eq_getD_getElem?,getElem?_toArray,getElem?_cons_zero,Option.getD_some,he]
def ahY{n k:Nat}{x:D}(hn:cs.length=n)(hk:k<=n):jF cs k (eI (n - k) [x])=cs.take k++replicate (n - k) x:=by
 have hr:eI (n - k) [x]=replicate (n - k) x:=by
  unfold eI;generalize n - k=j
  induction j with
  |zero=>rfl
  |succ j ih=>simp[replicate_succ,ih]
 rw[hr];unfold jF;split
 .rename_i y e;have h1:n - k=1:=by have:=congrArg length e;simpa using this
  rw[h1] at e ⊢;simp at e;subst e;rw[set_eq_take_append_cons_drop,bi oG,drop_eq_nil_of_le oG];rfl
 .rw[length_replicate,drop_eq_nil_of_le oG,append_nil]
end
end
def iF(d:List Int):Nat->List Int
 |0=>[]
 |t+1=>iF d t++(if t≠0/\d.getD t 0=d.getD (t - 1) 0 then [] else [d.getD t 0])
def ru(d:List Int):List Int:=iF d d.length
def aaJ{d:List Int}{x:Int}:∀ {t:Nat},t<=d.length->(x∈iF d t↔x∈d.take t)
 |0,_=>by simp[iF]
 |t+1,ht=>by
  have ih:=aaJ (d:=d) (x:=x) (t:=t) oG;have hg:d.getD t 0=d[t]:=by simp[dU,aO (show t<d.length by omega)]
  rw[iF,mem_append,ih,take_succ_eq_append_getElem oG,mem_append];split
  .rename_i h;have h1:d[t - 1]? =some d[t - 1]:=aO oG
   have C:d[t]∈d.take t:=by
    rw[<- hg,h.2];have:d.getD (t - 1) 0=d[t - 1]:=by simp[dU,h1]
    rw[this];exact bD (i:=t - 1) (by rw[getElem?_take,bi oG,h1])
   constructor
   .rintro(h|h)
    .exact .inl h
    .simp at h
   .rintro(h|h)
    .exact .inl h
    .simp at h;subst h;exact .inl C
  .rw[hg]
def aaK{d:List Int}:∀ t,(iF d t).length<=t
 |0=>by simp[iF]
 |t+1=>by
  have:=aaK (d:=d) t;rw[iF,length_append];split<;>simp<;>omega
def abW{d:List Int}{t:Nat}(ht:t<d.length)(h0:t≠0)(h:d.getD t 0=d.getD (t - 1) 0):iF d (t+1)=iF d t:=by
 rw[iF,bi ⟨h0,h⟩,append_nil]
def abX{d:List Int}{t:Nat}(h:d.getD t 0≠d.getD (t - 1) 0):iF d (t+1)=iF d t++[d.getD t 0]:=by
 rw[iF,ai λhh=>h hh.2]
def Jc(d:List Int)(n:Nat):List D:=(ru d).map I++replicate (n - (ru d).length) (I 0)
def aaL(d:List Int)(n:Nat)(m:Mem)(nx i:Nat)(r:D)(m':Mem)(nx':Nat):Prop:=nx'=nx/\r=.rs i 0 (ru d).length/\m'=up m i (some (.cells (Jc d n) 3))
def ao5(d:List Int)(m:Mem)(nx i:Nat)(r:D)(m':Mem)(nx':Nat):Prop:=nx'=nx/\r=.rs i 0 (ru d).length/\∃ c,m'=up m i (some (.cells c 3))/\c.take (ru d).length=(ru d).map I
def ard{m:Mem}{nx i n:Nat}{d:List Int}(hi:i<nx)(hm:m i=some (.cells (d.map I) 3))(hl:d.length=n)(hn:n<=100000):js prog 232 [.rs i 0 n] m nx (aaL d n m nx i):=by
 refine AQ (fo f232) ?_;have aF:=hm
 have M:up m i (some (.cells (d.map I) 3))=m:=by
  funext j;simp only[up];split
  .rename_i e;rw[e,hm]
  .rfl
 have whole:iF d n=d->aaL d n m nx i (.rs i 0 n) m nx:=λh=>by
  have h:ru d=d:=by rw[ru,hl];exact h
  refine⟨rfl,by rw[h,hl],?_⟩;rw[Jc,h,hl,Nat.sub_self,replicate_zero,append_nil,M]
 refine ws (SS ?_);refine af (aG (al (ax ?_)));refine af (cM rfl (λh=>?_) λh=>cI (aG (aA ?_)))
 .have h:n<2:=by have h:(n:Int)<2:=s0 h
                 omega
  refine aG (al (ag ?_));refine af (de (aC rfl (whole ?_)))
  match d,n,hl,h with
  |[],_,rfl,_=>rfl
  |[a],_,rfl,_=>rfl
 have h2:2<=n:=by have h:¬ (n:Int)<2:=s0 h
                  omega
 refine SS ?_;refine af (cw (λs=>aP prog s ⟨aD [(0,.rs i 0 n)],m,nx⟩/\iF d n=d) (cT (α:=Nat) (λk=>⟨aD [(0,.rs i 0 n),(3,I k)],m,nx⟩) (λk=>1<=k/\k<=n/\iF d k=d.take k) (λk=>n - k) 1 (au eH) ⟨oG,oG,?_⟩ ?_) ?_)
 .match d,hl with
  |a::t,_=>rfl
  |[],hl=>simp at hl;omega
 .rintro k ⟨Eh,hk,C⟩;refine aQ ?_;refine af ⟨_,rfl,λh=>?_,λh=>?_⟩
  .have ao:k<n:=by have h:(k:Int)<n:=s0 h
                   omega
   obtain⟨j,rfl⟩:∃ j,k=j+1:=⟨k - 1,oG⟩
   have ha:d[j+1]? =some d[j+1]:=aO oG;have hb:d[j]? =some d[j]:=aO oG;have ga:d.getD (j+1) 0=d[j+1]:=by simp[dU,ha]
   have gb:d.getD j 0=d[j]:=by simp[dU,hb]
   have kd:=qo (f:=I) ha;have fX:=qo (f:=I) hb;have uu:((j+1:Nat):Int) - 1=(j:Int)/\ -9223372036854775808<=(j:Int)/\(j:Int)<=9223372036854775807:=by omega
   refine c6 iO (cJ ?_);refine aI (fh rfl aF fX V.h) ak (fj V.h V.h fX) (SS ?_);refine bJ bM (aB rfl (λh=>?_) λh=>?_)
   .have qU:d[j+1]=d[j]:=s0 h
    refine ws (ag ?_);refine aI (Yn rfl aF V.h V.h rfl) ak ⟨V.h,oG⟩ (SS ?_);refine af (aG (aA (SS ?_)));have awl:iF d (j+1+1)=iF d (j+1):=abW oG oG (by rw[ga,show j+1 - 1=j by omega,gb];exact qU);have zw:(iF d (j+1)).length=j+1:=by rw[C];simp;omega
    clear kd fX uu
    refine af (cw (λs=>∃ (c:List Int) (k:Nat),aP prog s ⟨aD [(0,.rs i 0 n),(3,I (k:Nat))],up m i (some (.cells (c.map I) 3)),nx⟩/\c.length=n/\k<=n/\c.take k=iF d n) (cT (α:=List Int×Nat×Nat) (λs=>⟨aD [(0,.rs i 0 n),(3,I s.2.1),(4,.rs i (j+1) (n - (j+1))),(5,I (s.2.2+1:Nat))],up m i (some (.cells (s.1.map I) 3)),nx⟩)
     (λs=>s.1.length=n/\j+1+(s.2.2+1)<=n/\s.2.1<=j+1+s.2.2/\s.1.take s.2.1=iF d (j+1+(s.2.2+1))/\∀ p,j+1+s.2.2<=p->s.1[p]? =d[p]?) (λs=>n - s.2.2) (d,j+1,0) (vf eH M.symm) ⟨hl,by simp only;omega,by simp only;omega,?_,λ_ _=>rfl⟩ ?_) ?_)
    .show d.take (j+1)=iF d (j+1+1);rw[awl,C]
    .rintro⟨c,k,q⟩ ⟨J,X,w3,w4,U⟩;simp only at J X w3 w4 U;dsimp only;refine ag ?_;refine aI (MN rfl r9) ak V.h (SS ?_);refine af ⟨_,rfl,λh=>?_,λh=>?_⟩
     .have ao:q+1<n - (j+1):=by have h:((q+1:Nat):Int)<((n - (j+1):Nat):Int):=s0 h
                                omega
      have xa:c[j+1+(q+1)]? =some c[j+1+(q+1)]:=aO oG;have xb:c[j+1+q]? =some c[j+1+q]:=aO oG;have ya:d.getD (j+1+(q+1)) 0=c[j+1+(q+1)]:=by rw[dU, <- U _ oG,xa];rfl
      have yb:d.getD (j+1+q) 0=c[j+1+q]:=by rw[dU, <- U _ oG,xb];rfl
      have kd:=qo (f:=I) xa;have fX:=qo (f:=I) xb;generalize hA:c[j+1+(q+1)]=a at xa ya kd;generalize hB:c[j+1+q]=b at xb yb fX;clear hA hB;have uu:((q+1:Nat):Int) - 1=(q:Int)/\ -9223372036854775808<=(q:Int)/\(q:Int)<=9223372036854775807:=by omega
      refine c6 iO (cJ ?_);refine aI (fh rfl r9 fX V.h) ak (fj V.h V.h fX) (SS ?_);refine bJ bM (aB rfl (λh=>?_) λh=>?_)
      .have aR:a≠b:=s0 h
       have hn:=abX (d:=d) (t:=j+1+(q+1)) (by rw[ya,show j+1+(q+1) - 1=j+1+q by omega,yb];exact aR);refine ws (cJ ?_);refine af (gj (ax ?_));refine af (ax ?_);refine af (aW (c.set k a,k+1,q+1) (vf eH ?_) ⟨by simp[J],by simp only;omega,by simp only;omega,?_,λp hp=>?_⟩ (by simp only;omega))
       .rw[Ap,map_set]
       .show(c.set k a).take (k+1)=iF d (j+1+(q+1)+1);rw[hn,ya, <- w4,take_succ_eq_append_getElem oP];simp;exact take_set_of_le (bY k)
       .simp only at hp;show(c.set k a)[p]? =_;rw[getElem?_set_ne oG];exact U p oG
      .have awm:a=b:=s0 h
       have hn:=abW (d:=d) (t:=j+1+(q+1)) oG oG (by rw[ya,show j+1+(q+1) - 1=j+1+q by omega,yb];exact awm);refine cB (ax ?_);refine af (aW (c,k,q+1) (au eH) ⟨J,by simp only;omega,by simp only;omega,?_,λp hp=>U p (by simp only at hp;omega)⟩ (by simp only;omega));show c.take k=iF d (j+1+(q+1)+1);rw[hn,w4]
     .have bt:¬ q+1<n - (j+1):=by have h:¬ ((q+1:Nat):Int)<((n - (j+1):Nat):Int):=s0 h
                                  omega
      refine⟨c,k,.forget _ _ _ _ λt=>vu (l:=[(0,.rs i 0 n),(3,I k)]) ⟨rfl,rfl,aa⟩ t,J,oG,?_⟩;rw[w4];exact congrArg (iF d) oG
    .rintro s ⟨c,k,hg,J,ck,X⟩;refine⟨_,hg,al ?_⟩;refine ag ?_;refine aI (Yn rfl r9 V.h V.h rfl) ak ⟨V.h,oG⟩ (dH (anU rfl r9 V.h V.h) ak ⟨V.h,(by rw[c3];first|(simp;done)|(simp;omega)|omega),rfl⟩ (er (ag ?_)));refine aI (ajQ rfl r9 V.h V.h rfl) ak ⟨V.h,oG⟩ (SS ?_);have dB:(ru d).length=k:=by rw[ru,hl, <- X];simp;omega
     refine af (bj (bP (aY (aC (d:=.rs i 0 k) rfl ⟨rfl,by rw[dB],(Ap _ _ _ _).trans ?_⟩))));rw[ahY (by rw[length_map,J]) ck, <- map_take,X,Jc,dB];rw[ru,hl]
   .have aR:d[j+1]≠d[j]:=s0 h
    refine cB (ax ?_);refine af (aW (j+1+1) (au eH) ⟨oG,oG,?_⟩ oG);rw[abX (by rw[ga,show j+1 - 1=j by omega,gb];exact aR),C,ga];exact(take_succ_eq_append_getElem oG).symm
  .have bt:¬ k<n:=by have h:¬ (k:Int)<n:=s0 h
                     omega
   have:k=n:=by omega
   refine⟨.forget _ _ _ _ λt=>vu (l:=[(0,.rs i 0 n)]) ⟨rfl,aa⟩ t,?_⟩;rw[<- this,C,cX oG]
 .rintro s ⟨hg,C⟩;refine⟨_,hg,al ?_⟩;refine ag ?_;exact af (aC rfl (whole C))
def awn{m:Mem}{nx i n:Nat}{d:List Int}(hi:i<nx)(hm:m i=some (.cells (d.map I) 3))(hl:d.length=n)(hn:n<=100000):js prog 232 [.rs i 0 n] m nx (ao5 d m nx i):=by
 refine(ard hi hm hl hn).mono ?_;rintro r m' nx' ⟨h1,h2,C⟩;refine⟨h1,h2,Jc d n,C,?_⟩;rw[Jc,take_append_of_le_length oS,cX oS]
def jb(x:End)(b:Int)(w:List Int):List Int:=if FR x b then iS w (fY x) else w
@[simp] theorem Yo (x : End) (b : Int) (w : List Int) : (jb x b w).length = w.length := by unfold jb; split <;> simp
def Fy(l:List Int):List Int:=ru (rJ l)
section
variable{f:FuncId}{cs:List D}{xs:List Int}
def UB(hs:DQ prog f [] cs (xs.map λn=>[I n]))(ht:Tr (.fn (.func f) [] cs))(hlen:xs.length<=12):pL prog 233 [.fn (.func f) [] cs] ((rJ xs).map I) xs.length 3:=by
 have C:∀ a∈[.fn (.func f) [] cs],Tr a:=.cons ht .nil;refine OQ (fo f233) C (.map λ_=>.s _) ?_;have Uw:=Uw hs ht oG;refine ws (SS ?_);refine er (SS ?_);refine Tm Uw rfl aM (SS ?_);refine er (SS ?_);refine mD (av8 (i:=0) (l:=xs) oG rfl rfl hlen) rfl aM λr m' nx' hp=>?_;obtain⟨rfl,rfl,rfl⟩:=hp;refine er (ag ?_);exact af (aC rfl ⟨0,rfl,rfl⟩)
def AE(hs:DQ prog f [] cs (xs.map λn=>[I n]))(ht:Tr (.fn (.func f) [] cs))(hlen:xs.length<=12):aH prog 174 [.fn (.func f) [] cs] (aU (Fy xs)):=by
 have C:∀ a∈[.fn (.func f) [] cs],Tr a:=.cons ht .nil;refine bx (fo f174) C (dP _) ?_;have UB:=UB hs ht hlen;refine ws (SS ?_);refine af (aA (SS ?_));refine Tm UB rfl aM (mD (awn (i:=0) (d:=rJ xs) (n:=xs.length) oG rfl oS oG) rfl aM λr m' nx' hp=>?_);obtain⟨rfl,rfl,c,rfl,hc⟩:=hp;refine SS ?_;refine af (br (cH [(0,c,3)] ⟨aw _ _ _,aa⟩ (l:=[(2,aU (Fy xs))]) ⟨?_,aa⟩) (aC rfl rfl));exact oi c3 (by rw[drop_zero,Nat.mul_one];exact hc)
def nextR(x:Abs.End):List Int:=Fy (ep x)
def abY{x:Abs.End}(hlen:x.aK.length<=9):aH prog 174 [.fn (.func 234) [] [.pt (bq x)]] (aU (nextR x)):=
 AE (ad6 oG) (.fn oS (.cons (.pt (oU x)) .nil)) (by have:=RJ x;omega)
def B'{x:Abs.End}{b:Int}{w:List Int}(J:w.length=20)(hlen:x.aK.length<=1000)(hn: -1000000<=fY x/\fY x<1280):aH prog 134 [.agg (bq x),I b,jK w] (jK (jb x b w)):=by
 have C:∀ a∈[D.agg (bq x),I b,jK w],Tr a:=.cons (.agg (oU x)) (.cons (.s _) (.cons (vS _) .nil));refine bx (fo f134) C (vS _) ?_;have Uu:=Uu (x:=x) (b:=b) hlen;refine ws (ax ?_);refine af (aG (al (ax ?_)));refine af (cM rfl (λh=>?_) λh=>cI (al ?_))
 .have UC:=UC (x:=x);have vT:=vT (w:=w) (n:=fY x) J hn;refine aG (c6 (hD [(0,2)]) ?_);refine bh ?_;refine bJ bM (de (nG (kz rfl rfl a201 xz (rG oP) t201 oP) ?_));simp[jb,h]
 .refine ag ?_;refine af (nG (kz rfl rfl a201 xz (rG oP) t201 oP) ?_);simp[jb,h]
end
structure vK(x:cq):Prop where
 rd:∀ r∈dE x,0<=r/\r<1200
 sl:x.op=17\/x.op=18->0<=x.n/\x.n<80
 wr: -1000000<=eP x/\eP x<1200
 ar:x.op=10\/x.op=38->x.args.length<=1000
structure Jd(x:End):Prop where
 rd:∀ r∈dM x,0<=r/\r<1200
 wr: -1000000<=fY x/\fY x<1200
 wh:x.aK.length<=9
 a1:x.kind=5->x.ins.op=10\/x.ins.op=38->x.ins.args.length<=1000
 a2:x.kind=6\/x.kind=7->x.args.length<=1000
def kW(w:List Int)(ok:Bool)(rs:List Int):Bool:=rs.foldl (λok r=>ok&&nM w r.toNat) ok
def BA(w:List Int)(x:cq):List Int:=iS w (if x.op=18 then nW x.n else eP x)
def o8(s:List Int×Bool)(x:cq):List Int×Bool:=(BA s.1 x,kW s.1 s.2 (dE x)&&(x.op !=17||nM s.1 (nW x.n).toNat))
def oz(l:List cq)(w:List Int):List Int×Bool:=l.foldl o8 (w,true)
def lB(b:bI)(w:List Int):List Int×Bool:=((oz b.ins w).1,kW (oz b.ins w).1 (oz b.ins w).2 (dM b.fin))
def ve{α β:Type}{f:β->α->β}{z:β}{l:List α}{k:Nat}{x:α}(h:l[k]? =some x):(l.take (k+1)).foldl f z=f ((l.take k).foldl f z) x:=by
 rw[take_add_one,h,foldl_append];rfl
def Ra(l:List cq)(w:List Int):(oz l w).1.length=w.length:=by
 unfold oz;generalize true=b
 induction l generalizing w b with
 |nil=>rfl
 |cons x l ih=>rw[foldl_cons];exact(ih _ _).trans (by simp[BA])
def PH(b:bI)(w:List Int):(lB b w).1.length=w.length:=Ra _ _
def rS{b:bI}{w:List Int}(hw:w.length=20)(hl:b.ins.length<=100000)(hi:∀ x∈b.ins,vK x)(hf:Jd b.fin)(uH:∀ x∈b.ins,(dE x).length<=100000)(gq:(dM b.fin).length<=100000):aH prog 133 [.agg (cE b),jK w] (.bu [jK (lB b w).1,B (lB b w).2]):=by
 have bE:∀ a∈[D.agg (cE b),jK w],Tr a:=.cons (.agg (Yp b)) (.cons (vS _) .nil);refine bx (fo f133) bE (.bu (.cons (vS _) (.cons (.s _) .nil))) ?_;refine ws ?_;refine di (yM (cs:=cE _) rfl) ak (by first|rfl|exact zO iE cK|exact s9 _|exact Al dN) ?_;refine ax ?_;refine af (aA ?_);refine SS ?_;refine af (br (bp (l:=[(2,.rp 0 0),(3,.rp 1 0),(4,.rp 2 0),(6,B true)]) (ml:=[(0,.cells (cE b) 59),(1,.cells (w.map dV) 201),(2,.cells (replicate 20 (dV 0)) 201)]) eH eH) (aG (aA ?_)));refine aQ ?_
 refine af (cw (λs=>∃ n',3<=n'/\aP prog s ⟨aD [(2,.rp 0 0),(3,.rp 1 0),(4,.rp 2 0),(6,B (oz b.ins w).2)],bA [(0,.cells (cE b) 59),(1,.cells ((oz b.ins w).1.map dV) 201),(2,.cells (replicate 20 (dV 0)) 201)],n'⟩) (eB (α:=Nat×Nat)
  (λk=>⟨aD [(2,.rp 0 0),(3,.rp 1 0),(4,.rp 2 0),(6,B (oz (b.ins.take k.1) w).2),(14,jo b.ins),(15,I b.ins.length),(16,I k.1)],bA [(0,.cells (cE b) 59),(1,.cells ((oz (b.ins.take k.1) w).1.map dV) 201),(2,.cells (replicate 20 (dV 0)) 201)],k.2⟩)
  (λk=>k.1<=b.ins.length/\3<=k.2) (λk=>b.ins.length - k.1) (0,3) (bp eH eH) ⟨oS,oS⟩ ?_) ?_)
 .rintro⟨k,N⟩ ⟨hk,hN⟩;dsimp only at hk hN ⊢;refine SS ?_;refine af ⟨_,rfl,λh=>?_,λh=>?_⟩
  .have ao:k<b.ins.length:=by simpa using h
   have hx:b.ins[k]? =some b.ins[k]:=by simp[ao]
   have lJ:b.ins[k]∈b.ins:=eh ao;generalize b.ins[k]=x at hx lJ;let⟨ird,U,iwr,iar⟩:=hi x lJ;have C:oz (b.ins.take (k+1)) w=o8 (oz (b.ins.take k) w) x:=ve hx;have hlen:(oz (b.ins.take k) w).1.length=20:=by rw[Ra,hw]
   generalize oz (b.ins.take k) w=u at C hlen;let⟨v,ok⟩:=u;dsimp only at hlen ⊢;refine ws (aQ ?_);refine af (aG (aA ?_));have GN:=GN (x:=x) iar;refine aQ ?_;have azy:=uH x lJ
   refine af (cw (λs=>aP prog s ⟨aD [(2,.rp 0 0),(3,.rp 1 0),(4,.rp 2 0),(6,B (kW v ok (dE x))),(8,.rp N 0),(14,jo b.ins),(15,I b.ins.length),(16,I k)],up (bA [(0,.cells (cE b) 59),(1,.cells (v.map dV) 201),(2,.cells (replicate 20 (dV 0)) 201)]) N (some (.cells (bU x) 54)),N+1⟩) (eB (α:=Nat)
    (λj=>⟨aD [(2,.rp 0 0),(3,.rp 1 0),(4,.rp 2 0),(6,B (kW v ok ((dE x).take j))),(8,.rp N 0),(14,jo b.ins),(15,I b.ins.length),(16,I k),(21,aU (dE x)),(22,I (dE x).length),(23,I j)],up (bA [(0,.cells (cE b) 59),(1,.cells (v.map dV) 201),(2,.cells (replicate 20 (dV 0)) 201)]) N (some (.cells (bU x) 54)),N+1⟩)
    (λj=>j<=(dE x).length) (λj=>(dE x).length - j) 0 (vf eH (Ap _ _ _ _)) oG ?_) ?_)
   .intro j hj;refine SS ?_;refine af ⟨_,rfl,λh=>?_,λh=>?_⟩
    .have M:j<(dE x).length:=by simpa using h
     have hr:(dE x)[j]? =some (dE x)[j]:=by simp[M]
     have J:(dE x)[j]∈dE x:=eh M;generalize (dE x)[j]=r at hr J;have rY:=ird r J;obtain⟨X,rfl⟩:=jy rY.1;have pg:=pg (w:=v) (m:=X) hlen oG;refine ws (ax ?_);refine af (gj (ek ?_));refine af (ag ?_);refine af (aW (j+1) (au ⟨rfl,rfl,rfl,?_,rfl,rfl,rfl,rfl,rfl,rfl,rfl,aa⟩) oG oG)
     have e:kW v ok ((dE x).take (j+1))=(kW v ok ((dE x).take j)&&nM v X):=by
      unfold kW;rw[ve hr,eU]
     rw[e];generalize kW v ok ((dE x).take j)=g;cases g<;>rfl
    .have bt:¬ j<(dE x).length:=by simpa using h
     refine au ⟨rfl,rfl,rfl,?_,rfl,rfl,rfl,rfl,aa⟩;show B _=B _;rw[cX oG]
   .intro s hg;have C:oz (b.ins.take (k+1)) w=(BA v x,kW v ok (dE x)&&(x.op !=17||nM v (nW x.n).toNat)):=C;generalize kW v ok (dE x)=VY at hg C;have JA:=JA (w:=v) (x:=x) hlen (λh=>U (.inr h)) (λ_=>by omega);have fin:∀ (d:Bool) env,d=(VY&&(x.op !=17||nM v (nW x.n).toNat))->pG [(2,.rp 0 0),(3,.rp 1 0),(4,.rp 2 0),(6,B d),(8,.rp N 0),(14,jo b.ins),(15,I b.ins.length),(16,I k)] env->True:=λ_ _ _ _=>trivial;refine⟨_,hg,?_⟩;cases VY with
    |false=>
     have Az:false=true->aH prog 182 [I x.n] (I (nW x.n)):=λh=>by cases h
     have pg:false=true->aH prog 135 [jK v,I (nW x.n)] (B true):=λh=>by cases h
     refine c6 (hD [(6,9)]) (aX ?_);refine Di rfl rfl rfl (λhc=>⟨ak,Az hc⟩) (Di rfl rfl rfl (λhc=>⟨ak,pg hc⟩) (ax ?_));refine bJ bM (gj ?_);refine aQ ?_;refine af (ag ?_);refine af (aW (k+1,N+1) (bp ⟨rfl,rfl,rfl,?_,rfl,rfl,rfl,aa⟩ ⟨ay oG (ay oG rfl),?_,ay oG (ay oG rfl),aa⟩) ⟨oM,oM⟩ oM)
     .dsimp only;rw[C];rfl
     .dsimp only;rw[C];exact aw _ _ _
    |true=>
     by_cases kT:x.op=17
     .have xx:(x.op !=17)=false:=by simp[kT]
      have azR:=U (.inl kT);have Az:=Az (n:=x.n) oG;let⟨sn,nQ⟩:=jy (show 0<=nW x.n by unfold nW;omega);have pg:=pg (w:=v) (m:=sn) hlen (by unfold nW at nQ;omega);rw[<- nQ] at pg;refine c6 (hD [(6,9)]) (aX ?_);refine bh ?_;refine bJ bM (gj ?_);refine aQ ?_;refine af (ag ?_);refine af (aW (k+1,N+1) (bp ⟨rfl,rfl,rfl,?_,rfl,rfl,rfl,aa⟩ ⟨ay oG (ay oG rfl),?_,ay oG (ay oG rfl),aa⟩) ⟨oM,oM⟩ oM)
      .dsimp only;rw[C,xx,nQ];rfl
      .dsimp only;rw[C];exact aw _ _ _
     .have xx:(x.op !=17)=true:=by simp[kT]
      have Az:false=true->aH prog 182 [I x.n] (I (nW x.n)):=λh=>by cases h
      have pg:false=true->aH prog 135 [jK v,I (nW x.n)] (B true):=λh=>by cases h
      refine c6 (hD [(6,9)]) (cz ?_);(iterate 5 refine z λ_ _=>?_);refine ax ?_;refine bJ bM (gj ?_);refine aQ ?_;refine af (ag ?_);refine af (aW (k+1,N+1) (bp ⟨rfl,rfl,rfl,?_,rfl,rfl,rfl,aa⟩ ⟨ay oG (ay oG rfl),?_,ay oG (ay oG rfl),aa⟩) ⟨oM,oM⟩ oM)
      .dsimp only;rw[C,xx];rfl
      .dsimp only;rw[C];exact aw _ _ _
  .have bt:¬ k<b.ins.length:=by simpa using h
   have xM:b.ins.take k=b.ins:=cX oG;refine⟨N,hN,?_⟩;rw[xM];exact au eH
 .rintro s ⟨n',fO,hg⟩;have hlen:(oz b.ins w).1.length=20:=by rw[Ra,hw]
  have Kt:lB b w=((oz b.ins w).1,kW (oz b.ins w).1 (oz b.ins w).2 (dM b.fin)):=rfl;rw[Kt];generalize oz b.ins w=u at hg hlen ⊢;obtain⟨v,ok⟩:=u;dsimp only at hlen hg ⊢;have UD:=UD (x:=b.fin) hf.a1 hf.a2;refine⟨_,hg,aG (aA ?_)⟩;refine ag ?_;refine cl UD ?_;refine ag ?_
  refine af (cw (λs=>aP prog s ⟨aD [(3,.rp 1 0),(4,.rp 2 0),(6,B (kW v ok (dM b.fin)))],bA [(1,.cells (v.map dV) 201),(2,.cells (replicate 20 (dV 0)) 201)],n'⟩) (eB (α:=Nat)
   (λj=>⟨aD [(3,.rp 1 0),(4,.rp 2 0),(6,B (kW v ok ((dM b.fin).take j))),(53,aU (dM b.fin)),(54,I (dM b.fin).length),(55,I j)],bA [(1,.cells (v.map dV) 201),(2,.cells (replicate 20 (dV 0)) 201)],n'⟩)
   (λj=>j<=(dM b.fin).length) (λj=>(dM b.fin).length - j) 0 (bp eH eH) oG ?_) ?_)
  .intro j hj;refine SS ?_;refine af ⟨_,rfl,λh=>?_,λh=>?_⟩
   .have M:j<(dM b.fin).length:=by simpa using h
    have hr:(dM b.fin)[j]? =some (dM b.fin)[j]:=by simp[M]
    have J:(dM b.fin)[j]∈dM b.fin:=eh M;generalize (dM b.fin)[j]=r at hr J;have rY:=hf.rd r J;obtain⟨X,rfl⟩:=jy rY.1;have pg:=pg (w:=v) (m:=X) hlen oG;refine ws (ax ?_);refine af (gj (ag ?_));refine cF rfl rfl (gA rfl rfl V.h V.h (rG cd)) (λhc=>⟨ak,(gB V.h V.h cd)⟩) (aQ ?_);refine af (ag ?_);refine af (aW (j+1) (au ⟨rfl,rfl,?_,rfl,rfl,rfl,aa⟩) oG oG)
    have e:kW v ok ((dM b.fin).take (j+1))=(kW v ok ((dM b.fin).take j)&&nM v X):=by
     unfold kW;rw[ve hr,eU]
    rw[e];generalize kW v ok ((dM b.fin).take j)=g;cases g<;>rfl
   .have bt:¬ j<(dM b.fin).length:=by simpa using h
    refine au ⟨rfl,rfl,?_,aa⟩;show B _=B _;rw[cX oG]
  .intro s hg;refine⟨_,hg,al ?_⟩;refine aQ ?_;exact af (Bb (kz rfl rfl a201 xz (rG oP) t201 oP) rfl rfl)
section
def dY(l:List (List Int)):List D:=l.flatMap λw=>w.map dV
variable{sz:Nat}
def RM:∀ {l:List (List Int)} {i:Nat} {w:List Int},(∀ w∈l,w.length=sz)->l[i]? =some w->(dY l).drop (i*sz)=w.map dV++(dY (l.drop (i+1)))
 |[],i,w,_,h=>by simp at h
 |a::l,0,w,_,h=>by simp at h;subst h;simp[dY]
 |a::l,i+1,w,hs,h=>by
  have ha:(a.map dV).length=sz:=s0 (hs a oS)
  have h1:(i+1)*sz=(a.map dV).length+i*sz:=by rw[ha,Nat.add_mul];omega
  have ih:=RM (l:=l) (i:=i) (w:=w) (λw C=>hs w (by simp[C])) (s0 h);unfold dY at ih ⊢;rw[flatMap_cons,h1, <- drop_drop,drop_left,ih,drop_succ_cons]
variable{i:Nat}{w:List Int}
def Nz{l:List (List Int)}(h:∀ w∈l,w.length=sz)(hi:l[i]? =some w):((dY l).drop (i*sz)).take sz=w.map dV:=by
 rw[RM h hi,take_append_of_le_length (by simp[h w (bD hi)]),cX (by simp[h w (bD hi)])]
def QA:∀ {l:List (List Int)},(∀ w∈l,w.length=sz)->(dY l).length=l.length*sz
 |[],_=>by simp[dY]
 |a::l,h=>by
  have:=QA (l:=l) λw C=>h w (by simp[C]);unfold dY at this ⊢;rw[flatMap_cons,length_append,this,length_map,h a oS,length_cons,Nat.add_mul];omega
def DD{l:List (List Int)}(h:∀ w∈l,w.length=sz)(hi:l[i]? =some w):i*sz+sz<=(dY l).length:=by
 rw[QA h];have:=(bQ.1 hi).1;rw[<- Nat.succ_mul];exact Nat.mul_le_mul_right _ this
def acQ(hz:2<=sz):∀ {l:List (List Int)} {i:Nat} {w v:List Int},(∀ w∈l,w.length=sz)->l[i]? =some v->w.length=sz->jF (dY l) (i*sz) (w.map dV)=dY (l.set i w):=by
 intro l i w v h hi C
 have key:jF (dY l) (i*sz) (w.map dV)=(dY l).take (i*sz)++w.map dV++(dY l).drop (i*sz+(w.map dV).length):=by
  unfold jF;split
  .rename_i x hx;have:(w.map dV).length=1:=by rw[hx];rfl
   simp at this;omega
  .rfl
 rw[key,length_map,C];clear key
 induction l generalizing i with
 |nil=>simp at hi
 |cons a l ih=>
  have ha:(a.map dV).length=sz:=s0 (h a oS)
  cases i with
  |zero=>
   simp only[Nat.zero_mul,List.take_zero,List.nil_append,Nat.zero_add,List.set_cons_zero];unfold dY;rw[List.flatMap_cons,List.flatMap_cons, <- ha,List.drop_left]
  |succ i=>
   have ih:=ih (i:=i) (λw C=>h w (by simp[C])) (s0 hi);simp only[set_cons_succ];unfold dY at ih ⊢;rw[flatMap_cons,flatMap_cons, <- ih,show(i+1)*sz=(a.map dV).length+i*sz by rw[ha,Nat.add_mul];omega,take_length_add_append,Nat.add_assoc,drop_length_add_append];simp
def al'(n:Nat)(w:List Int):eI n (w.map dV)=dY (replicate n w):=by
 unfold eI dY
 induction n with
 |zero=>rfl
 |succ n ih=>rw[replicate_succ,replicate_succ,flatten_cons,flatMap_cons,ih]
def Ir(n:Nat)(b:Bool):eI n [B b]=(replicate n b).map B:=by
 unfold eI
 induction n with
 |zero=>rfl
 |succ n ih=>rw[replicate_succ,replicate_succ,flatten_cons,map_cons,ih];rfl
def ao6(l:List (List Int)):∀ a∈dY l,Tr a:=.flat λw=>.map λ_=>.s _
def RN{l:List (List Int)}{i:Nat}{w:List Int}(h:∀ w∈l,w.length=sz)(C:w.length=sz):∀ u∈l.set i w,u.length=sz:=λu hu=>by
 rcases mem_or_eq_of_mem_set hu with h1|h1
 .exact h u h1
 .rw[h1];exact C
def Zz:∀ {w v:List Int},w.length=v.length->s6 (w.map dV) (v.map dV)=some (w.map (Value.int .u64),v.map (Value.int .u64))
 |[],[],_=>rfl
 |a::w,b::v,h=>by
  have:=Zz (w:=w) (v:=v) (s0 h);simp[s6,Dt,this]
def ZA:∀ {w v:List Int},w.length=v.length->lf (w.map (Value.int .u64)) (v.map (Value.int .u64))=(w==v)
 |[],[],_=>rfl
 |a::w,b::v,h=>by
  have:=ZA (w:=w) (v:=v) (s0 h);simp[lf,xu,this]
def ajT(w:List Int):(w.map (Value.int .u64)).map nd=replicate w.length 0:=by
 induction w with
 |nil=>rfl
 |cons a w ih=>simpa[nd,replicate_succ] using ih
end
section
variable{i sz:Nat}{e:TypeId}
section
variable{P:Program}{env:Env}{m:Mem}{nx:Nat}{x y:Operand}{t p:TypeId}{k:IntKind}{n n':Int}
def Io{j l:Nat}{r:Row}(hx:(opd env x).core=.rs j 0 l)(hy:(opd env y).core=.s (.int k (i:Int)))(hm:m j=some r)(he:aT P t=e)(hs:P.cellsOf e=sz):
 Ef P (.indexAddr t x y) env m nx ⟨bH P t=true/\i<l,.rp j (i*sz),[],[j],0⟩:=by
 have h:=MM (P:=P) (env:=env) (m:=m) (nx:=nx) (t:=t) hx hy hm he hs;have h1:0+((i:Int)).toNat*sz=i*sz:=by simp
 have h2:(bH P t=true/\(0:Int)<=(i:Int)/\(i:Int)<l)=(bH P t=true/\i<l):=by
  apply propext;constructor
  .rintro⟨a,_,b⟩;exact⟨a,oG⟩
  .rintro⟨a,b⟩;exact⟨a,oG,oG⟩
 rw[h1,h2] at h;exact h
def ama{ps:Array (Nat×Operand)}{l:Nat}{z:List D}(hu:P.underlying t=some (.array l e))(hp:ps.toList=[])(hz:bN P t=z):Ef P (.build t ps) env m nx ⟨a8 P t=true/\a8 P e=true,.agg z,[],[],0⟩:=by
 refine⟨?_,rfl,rfl⟩;simp[bw,hu,hp,hz,map_nil,mC,Option.map_some]
def ac6{xs ys:List D}{us vs:List Value}{C:List Nat}(hx:(opd env x).core=.agg xs)(hy:(opd env y).core=.agg ys)(hf:Ds P t=some C)(hz:s6 xs ys=some (us,vs)){c:Bool}(hc:(!lf us vs)=c):
 Ef P (.binOp .neq t x y p) env m nx ⟨us.map nd=C/\P.eqGuardType P.depth t=false,.s (.bool c),[],[],0⟩:=by
 refine⟨?_,rfl,rfl⟩
 have hn:p6 P m .neq t (.agg xs) y=none:=by
  unfold p6;split<;>first|rfl|(rename_i h;cases h)
 simp[bw,bO,hx,hy,hn,s7,Dc,hf,hz,hc,Option.map_some]
end
def D0(cs:List D):Prop:=∀ d∈cs,∃ v,d=.s v
def D0.map{α:Type}{f:α->Value}{l:List α}:D0 (l.map λx=>.s (f x)):=λd hd=>by
 obtain⟨x,_,rfl⟩:=mem_map.1 hd;exact⟨_,rfl⟩
variable{C:List D}
def arp{cs:List D}(h:D0 cs):cs.map (sub (dq i C sz))=cs:=by
 induction cs with
 |nil=>rfl
 |cons d cs ih=>
  obtain⟨v,rfl⟩:=h d oS;rw[map_cons,ih λd hd=>h d (by simp[hd])];rfl
def RO{m:Mem}{j:Nat}{J cs:List D}(C:j≠i)(hm:m j=some (.cells cs e))(h:D0 cs):(if j=i then none else(m j).map (Row.sub (dq i J sz)))=some (.cells cs e):=by
 rw[ai C,hm];show some (Row.cells (cs.map _) e)=_;rw[arp h]
def ao7{n:Nat}{es:List D}:sub (dq i C sz) (.sl es n)=.sl es n:=rfl
def QB{j off n:Nat}(h:j≠i):sub (dq i C sz) (.rs j off n)=.rs j off n:=by
 show(if j=i then _ else D.rs j off n)=_;rw[ai h]
def lS{sz n:Nat}(h:C.length=n*sz):sub (dq i C sz) (.rs i 0 n)=.sl C n:=by
 show(if i=i then D.sl ((C.drop 0).take (n*sz)) n else _)=_;rw[bi rfl,drop_zero,cX oG]
end
def arq:Ds prog 201=some (replicate 20 0):=kr
def ars:prog.eqGuardType prog.depth 201=false:=kr
def art:bN prog 201=(replicate 20 (0:Int)).map dV:=z201
def awo:prog.underlying 201=some (.array 20 199):=kr
section
variable{env:Env}{m:Mem}{nx:Nat}{x y:Operand}{p:TypeId}
def aru{w v:List Int}(hx:(opd env x).core=jK w)(hy:(opd env y).core=jK v)(h:w.length=v.length):Ef prog (.binOp .neq 201 x y p) env m nx ⟨(w.map (Value.int .u64)).map nd=replicate 20 0/\prog.eqGuardType prog.depth 201=false,B (w !=v),[],[],0⟩:=
 ac6 hx hy arq (Zz h) (by rw[ZA h];rfl)
def arv{w:List Int}(h:w.length=20):(w.map (Value.int .u64)).map nd=replicate 20 0/\prog.eqGuardType prog.depth 201=false:=⟨by rw[ajT,h],ars⟩
end
end Go.Abs
end
namespace Go.Abs
open List
open Go.Proofs.Tryz
open Go
section
variable{l:List Int}{x:Int}
def aip{j:Nat}(hj:j+1<l.length):x∈swapAt l j↔x∈l:=by
 have ha:l.getD j 0=l[j]:=by simp[dU,aO (show j<l.length by omega)]
 have hb:l.getD (j+1) 0=l[j+1]:=by simp[dU,aO hj]
 rw[swapAt,ha,hb];exact(set_set_perm (show j+1<l.length from hj) (show j<l.length by omega)).mem_iff
def ZJ:∀ (j:Nat) {l:List Int},j<l.length->(x∈td l j↔x∈l)
 |0,l,_=>Iff.rfl
 |j+1,l,hj=>by
  simp[td];split
  .exact(ZJ j oP).trans (aip hj)
  .exact Iff.rfl
def YF:∀ k,k<l.length->(x∈qD l k↔x∈l)
 |0,_=>Iff.rfl
 |k+1,h=>by
  simp[qD];exact(ZJ (k+1) (s0 h)).trans (YF k oG)
def akt:x∈rJ l↔x∈l:=by
 unfold rJ;cases l with
 |nil=>simp[qD]
 |cons a l=>exact YF _ oS
def PS:x∈Fy l↔x∈l:=by
 rw[Fy,ru,aaJ (bY _),take_length];exact akt
end
def wrap_u64{n:Nat}(h:n<2 ^ 64):IntKind.u64.wrap (n:Int)=n:=by
 unfold IntKind.wrap;simp[IntKind.signed,IntKind.bits];omega
def anV{a b:Int}(ha:0<=a/\a<18446744073709551616):0<=uv a b/\uv a b<=a:=by
 unfold uv oR;simp only;rw[wrap_u64 (n:=(BitVec.ofInt IntKind.u64.bits a&&& BitVec.ofInt IntKind.u64.bits b).toNat) (BitVec.isLt (w:=64) _)];obtain⟨n,rfl⟩:=jy ha.1
 have h1:(BitVec.ofInt IntKind.u64.bits (n:Int)).toNat=n:=by
  rw[BitVec.toNat_ofInt];show((n:Int) % ((2 ^ 64:Nat):Int)).toNat=n;omega
 have h2:(BitVec.ofInt IntKind.u64.bits (n:Int)&&& BitVec.ofInt IntKind.u64.bits b).toNat<=n:=by
  rw[BitVec.toNat_and,h1];exact Nat.and_le_left
 omega
end Go.Abs
section
open Go Go.Proofs List
namespace Go.Abs
open Go.Proofs.Tryz
structure CS where
 wsq:List (List Int)
 re:List Bool
 ch:Bool
def dD(x:End)(w:List Int)(s:CS)(n:Int):CS:=
 if s.re.getD n.toNat false=false\/kL (s.wsq.getD n.toNat []) (jb x n w)≠s.wsq.getD n.toNat [] then⟨s.wsq.set n.toNat (kL (s.wsq.getD n.toNat []) (jb x n w)),s.re.set n.toNat true,true⟩ else s
def eK(bs:List bI)(s:CS)(k:Nat):CS:=match bs[k]? with
 |none=>s
 |some x=>if s.re.getD k false=true then(nextR x.fin).foldl (dD x.fin (lB x (s.wsq.getD k [])).1) s else s
def lU(bs:List bI)(s:CS):CS:=(List.range bs.length).foldl (eK bs) ⟨s.wsq,s.re,false⟩
def nY(bs:List bI):Nat->CS->CS
 |0,s=>s
 |k+1,s=>if(lU bs s).ch=true then nY bs k (lU bs s) else lU bs s
def oA:Int:=18446744073709551615
def lI:Nat->List Int
 |0=>replicate 20 0
 |k+1=>iS (lI k) k
@[simp] theorem Yq : ∀ k, (lI k).length = 20
 |0=>rfl
 |k+1=>by simp[lI,Yq k]
def nD(n args:Nat):CS:=⟨(replicate n (replicate 20 oA)).set 0 (lI args),(replicate n false).set 0 true,true⟩
def fH(u:Int):Prop:=0<=u/\u<18446744073709551616
structure iU(n:Nat)(s:CS):Prop where
 lw:s.wsq.length=n
 lr:s.re.length=n
 nA:∀ w∈s.wsq,w.length=20
 rg:∀ w∈s.wsq,∀ u∈w,fH u
def qP(w:List Int):Nat:=(w.map Int.toNat).sum
def uV(s:CS):Nat:=(s.wsq.map qP).sum+s.re.count false
def su(s:CS):Nat:=uV s+if s.ch=true then 1 else 0
def aaM{l:List Nat}{k x y:Nat}(h:l[k]? =some x):(l.set k y).sum+x=l.sum+y:=by
 induction l generalizing k with
 |nil=>simp at h
 |cons a l ih=>cases k with
  |zero=>simp at h;subst h;simp;omega
  |succ k=>have:=ih (k:=k) (by simpa using h);simp;omega
def amb{l:List Int}{k:Nat}{x y:Int}(h:l[k]? =some x):qP (l.set k y)+x.toNat=qP l+y.toNat:=by
 unfold qP;rw[List.map_set];exact aaM (by simp[h])
def Yr{a b:Int}(h:fH a):fH (uv a b)/\uv a b<=a:=by
 have:=anV (b:=b) h;exact⟨⟨this.1,by unfold fH at h;omega⟩,this.2⟩
def amc{α:Type}{l:List α}{k:Nat}{x:α}(h:l[k]? =some x):l.set k x=l:=by
 apply List.ext_getElem?;intro i;rw[List.getElem?_set];split
 .rename_i e;subst e;rw[bi (bQ.1 h).1,h]
 .rfl
def ZB{w v:List Int}(J:∀ u∈w,fH u):∀ k,k<=w.length->(∀ u∈gW w v k,fH u)/\qP (gW w v k)<=qP w/\(gW w v k≠w->qP (gW w v k)<qP w)
 |0,_=>⟨J,bY _,λh=>absurd rfl h⟩
 |k+1,hk=>by
  obtain⟨h1,h2,M⟩:=ZB (v:=v) J k oG;have hl:k<(gW w v k).length:=by simp;omega
  have hx:(gW w v k)[k]? =some (gW w v k)[k]:=aO hl;have hg:(gW w v k).getD k 0=(gW w v k)[k]:=by simp[dU,hx]
  have hm:=h1 _ (eh hl);simp only[gW,hg];generalize (gW w v k)[k]=a at hx hm;obtain⟨r1,r2⟩:=Yr (b:=v.getD k 0) hm;generalize uv a (v.getD k 0)=y at r1 r2;have hs:=amb (y:=y) hx;unfold fH at r1 hm;refine⟨λu hu=>?_,oG,λC=>?_⟩
  .rcases List.mem_or_eq_of_mem_set hu with h|h
   .exact h1 u h
   .subst h;exact r1
  .by_cases e:y=a
   .subst e;have:(gW w v k).set k y=gW w v k:=amc hx;rw[this] at C ⊢;exact M C
   .omega
def amd{l:List (List Int)}{k:Nat}{w v:List Int}(h:l[k]? =some w):((l.set k v).map qP).sum+qP w=(l.map qP).sum+qP v:=by
 rw[List.map_set];exact aaM (by simp[h])
def count_set{l:List Bool}{k:Nat}{b:Bool}(h:l[k]? =some b):(l.set k true).count false+(if b=true then 0 else 1)=l.count false:=by
 induction l generalizing k with
 |nil=>simp at h
 |cons a l ih=>cases k with
  |zero=>simp at h;subst h;cases a<;>simp
  |succ k=>have:=ih (k:=k) (by simpa using h);simp only[List.set_cons_succ,List.count_cons];omega
def KX{x:End}{w:List Int}{s:CS}{n:Nat}{t:Int}(hs:iU n s)(ht:0<=t/\t<n):iU n (dD x w s t)/\su (dD x w s t)<=su s:=by
 obtain⟨lw,lr,nA,rg⟩:=hs;obtain⟨k,rfl⟩:=jy ht.1;have hk:k<n:=by omega
 have hx:s.wsq[k]? =some s.wsq[k]:=aO oG;have hb:s.re[k]? =some s.re[k]:=aO oG;have X:s.wsq.getD k []=s.wsq[k]:=by simp[dU,hx]
 have U:s.re.getD k false=s.re[k]:=by simp[dU,hb]
 have hm:s.wsq[k]∈s.wsq:=eh _;unfold dD;simp only[eU,X,U];generalize s.wsq[k]=v at hx hm;generalize s.re[k]=b at hb;have v20:=nA v hm;obtain⟨C,M,J⟩:=ZB (v:=jb x k w) (rg v hm) 20 oG;have hl:=Ys v (jb x k w)
 change (∀ u∈kL v (jb x k w),fH u) at C
 change qP (kL v (jb x k w))<=qP v at M
 change kL v (jb x k w)≠v->qP (kL v (jb x k w))<qP v at J
 generalize kL v (jb x k w)=u at C M J hl;split
 .rename_i hc;refine⟨⟨by simp[lw],by simp[lr],RN nA oG,λy hy=>?_⟩,?_⟩
  .rcases List.mem_or_eq_of_mem_set hy with h|h
   .exact rg y h
   .subst h;exact C
  .have h1:=amd (v:=u) hx;have h2:=count_set hb;unfold su uV;simp only[if_true];rcases hc with hc|hc
   .subst hc;simp only[Bool.false_eq_true,if_false] at h2;omega
   .have:=J hc;omega
 .exact⟨⟨lw,lr,nA,rg⟩,bY _⟩
def Le{α β:Type}{f:β->α->β}{J:β->Prop}{φ:β->Nat}{l:List α}(h:∀ x∈l,∀ s,J s->J (f s x)/\φ (f s x)<=φ s){s:β}(hs:J s):J (l.foldl f s)/\φ (l.foldl f s)<=φ s:=by
 induction l generalizing s with
 |nil=>exact⟨hs,bY _⟩
 |cons x l ih=>
  obtain⟨h1,h2⟩:=h x oS s hs;obtain⟨C,M⟩:=ih (λy hy=>h y (by simp[hy])) h1;exact⟨C,Nat.le_trans M h2⟩
def Lf(x:End):(nextR x).length<=x.aK.length+3:=by
 have h1:=aaK (d:=rJ (ep x)) (rJ (ep x)).length;have h2:=RJ x;rw[Ym] at h1;exact Nat.le_trans (by simpa[nextR,Fy,ru] using h1) h2
structure y9(n:Nat)(b:bI):Prop where
 len:b.ins.length<=100000
 ins:∀ x∈b.ins,vK x
 fin:Jd b.fin
 rl:∀ x∈b.ins,(dE x).length<=100000
 rf:(dM b.fin).length<=100000
 to:∀ t∈nextR b.fin,0<=t/\t<n
def Rb{bs:List bI}{s:CS}{n k:Nat}(hb:∀ b∈bs,y9 n b)(hs:iU n s):iU n (eK bs s k)/\su (eK bs s k)<=su s:=by
 unfold eK;split
 .exact⟨hs,bY _⟩
 .rename_i x hx;split
  .exact Le (J:=iU n) (φ:=su) (λt ht s hs=>KX hs ((hb x (bD hx)).to t ht)) hs
  .exact⟨hs,bY _⟩
def HI{bs:List bI}{s:CS}{n:Nat}(hb:∀ b∈bs,y9 n b)(hs:iU n s):iU n (lU bs s)/\su (lU bs s)<=uV s:=by
 have:=Le (J:=iU n) (φ:=su) (f:=eK bs) (l:=List.range bs.length) (λk _ s hs=>Rb hb hs) (s:=⟨s.wsq,s.re,false⟩) ⟨hs.lw,hs.lr,hs.nA,hs.rg⟩;exact this
def jH(bs:List bI)(args:Nat):CS:=nY bs (uV (nD bs.length args)+1) (nD bs.length args)
def getD_some{α:Type}{l:List α}{k:Nat}{x d:α}(h:l[k]? =some x):l.getD k d=x:=by simp[dU,h]
def RP{α:Type}{n k:Nat}{x y:α}(hk:k<n):(replicate k x++replicate (n - k) y).set k x=replicate (k+1) x++replicate (n - (k+1)) y:=by
 rw[show n - k=n - (k+1)+1 by omega,List.replicate_succ,List.replicate_succ',List.append_assoc,List.singleton_append];rw[List.set_append];simp
def ame{α:Type}{a b:Nat}{x y z:α}(h:z∈replicate a x++replicate b y):z=x\/z=y:=by
 rcases List.mem_append.1 h with h|h
 .exact .inl (List.eq_of_mem_replicate h)
 .exact .inr (List.eq_of_mem_replicate h)
def ahi{x:End}{w v:List Int}{s:CS}{k:Nat}{b:Bool}(hx:s.wsq[k]? =some v)(hb:s.re[k]? =some b)(h:b=false\/kL v (jb x k w)≠v):dD x w s k=⟨s.wsq.set k (kL v (jb x k w)),s.re.set k true,true⟩:=by
 unfold dD;rw[eU,getD_some hx,getD_some hb,bi h]
def ah0{x:End}{w v:List Int}{s:CS}{k:Nat}{b:Bool}(hx:s.wsq[k]? =some v)(hb:s.re[k]? =some b)(h:¬ (b=false\/kL v (jb x k w)≠v)):dD x w s k=s:=by
 unfold dD;rw[eU,getD_some hx,getD_some hb,ai h]
def PQ{n args:Nat}(ha:∀ u∈lI args,fH u):iU n (nD n args):=by
 refine⟨by simp[nD],by simp[nD],RN (λw C=>by rw[List.eq_of_mem_replicate C];simp) oS,λw C u hu=>?_⟩;rcases List.mem_or_eq_of_mem_set C with h|h
 .rw[List.eq_of_mem_replicate h] at hu;rw[List.eq_of_mem_replicate hu];simp[fH,oA]
 .rw[h] at hu;exact ha u hu
def GO{p q:D}{f:az}{n args:Nat}(hp:Tr p)(hq:Tr q)(iE:p.one=true)(cK:q.one=true)(hn:f.blocks.length=n)(Cq:0<n)(uI:n<=100000)(ha:f.args=args)(uG:args<=1000)(Ey:∀ u∈lI args,fH u)(hb:∀ b∈f.blocks,y9 n b):
 aH prog 132 [.agg (bG p q f)] (.bu [.sl (dY (jH f.blocks args).wsq) n,.sl ((jH f.blocks args).re.map B) n]):=by
 have bE:∀ a∈[D.agg (bG p q f)],Tr a:=.cons (oa hp hq f) .nil;refine bx (fo f132) bE (.bu (.cons (.sl (ao6 _)) (.cons (.sl (.map λ_=>.s _)) .nil))) ?_;refine aA ?_;refine ax ?_;refine af (br (cH [(0,bG p q f,113)] eH (l:=[(1,.pt (bG p q f))]) eH) (zK (hD [(4,5),(4,6),(4,7),(4,8)]) ?_));refine aQ ?_;refine di (H5 rfl rfl V.h V.h) ak ⟨oG,rfl,oG,by rw[aet];omega,V.h⟩ ?_;refine ek ?_;have fO:((f.blocks.length:Nat):Int).toNat=n:=hn;refine bJ bM (br (bp (l:=[(1,.pt (bG p q f)),(4,.rs 1 0 n),(5,.rs 2 0 n)]) (ml:=[(1,.cells (dY (replicate n (replicate 20 0))) 201),(2,.cells ((replicate n false).map B) 4)]) ⟨rfl,?_,?_,aa⟩ ⟨?_,?_,aa⟩) (aG (aA ?_)))
 .exact congrArg (λk=>D.rs 1 0 k) fO
 .exact congrArg (λk=>D.rs 2 0 k) fO
 .exact congrArg (λc=>some (Row.cells c 201)) ((congrArg (λk=>eI k ((replicate 20 (0:Int)).map dV)) fO).trans (al' n (replicate 20 0)))
 .exact congrArg (λc=>some (Row.cells c 4)) ((congrArg (λk=>eI k [B false]) fO).trans (Ir n false))
 refine ax ?_
 refine af (cw (λs=>aP prog s ⟨aD [(1,.pt (bG p q f)),(4,.rs 1 0 n),(5,.rs 2 0 n)],bA [(1,.cells (dY (replicate n (replicate 20 oA))) 201),(2,.cells ((replicate n false).map B) 4)],3⟩) (eB (α:=Nat)
  (λk=>⟨aD [(1,.pt (bG p q f)),(4,.rs 1 0 n),(5,.rs 2 0 n),(27,I n),(28,I k)],bA [(1,.cells (dY (replicate k (replicate 20 oA)++replicate (n - k) (replicate 20 0))) 201),(2,.cells ((replicate n false).map B) 4)],3⟩)
  (λk=>k<=n) (λk=>n - k) 0 (bp eH eH) oG ?_) ?_)
 .intro k hk;refine SS ?_;refine af ⟨_,rfl,λh=>?_,λh=>?_⟩
  .have ao:k<n:=by simpa using h
   have zn:=RP (x:=replicate 20 oA) (y:=replicate 20 (0:Int)) ao
   have hi:(replicate k (replicate 20 oA)++replicate (n - k) (replicate 20 (0:Int)))[k]? =some (replicate 20 0):=by
    rw[List.getElem?_append_right oS,List.length_replicate,Nat.sub_self,show n - k=n - (k+1)+1 by omega,List.replicate_succ];rfl
   have HB:∀ w∈replicate k (replicate 20 oA)++replicate (n - k) (replicate 20 (0:Int)),w.length=20:=λw X=>by
    rcases ame X with h|h<;>(rw[h];simp)
   have Uq:aH prog 178 [] (jK (replicate 20 oA)):=Uq;refine ws ?_;refine ag ?_;refine af (gj ?_);refine ag ?_;refine cl Uq ?_;refine ag ?_;refine af ?_;refine ag ?_;refine af (aW (k+1) (bp eH ⟨?_,rfl,aa⟩) oG oG);rw[<- zn];rfl
  .have bt:¬ k<n:=by simpa using h
   have:k=n:=by omega
   subst this;refine bp eH ⟨?_,rfl,aa⟩;show some (Row.cells (dY (_++replicate (k - k) _)) _)=_;rw[Nat.sub_self,List.replicate_zero,List.append_nil]
 rintro s hg;refine⟨_,hg,aA ?_⟩;have hi:(replicate n (replicate 20 oA))[0]? =some (replicate 20 oA):=by simp[Cq]
 have HB:∀ w∈replicate n (replicate 20 oA),w.length=20:=λw X=>by rw[List.eq_of_mem_replicate X];simp
 refine ag ?_;refine aI (ama awo rfl art) ak ⟨V.h,V.h⟩ ?_;refine aQ ?_;refine af (br (bp (l:=[(1,.pt (bG p q f)),(4,.rs 1 0 n),(5,.rs 2 0 n)]) (ml:=[(1,.cells (dY ((replicate n (replicate 20 oA)).set 0 (lI 0))) 201),(2,.cells (((replicate n false).set 0 true).map B) 4)]) eH ⟨rfl,?_,aa⟩) (aG (aA ?_)))
 .rw[List.map_set];rfl
 clear hi;refine aQ ?_
 refine af (cw (λs=>aP prog s ⟨aD [(1,.pt (bG p q f)),(4,.rs 1 0 n),(5,.rs 2 0 n)],bA [(1,.cells (dY ((replicate n (replicate 20 oA)).set 0 (lI args))) 201),(2,.cells (((replicate n false).set 0 true).map B) 4)],3⟩) (eB (α:=Nat)
  (λk=>⟨aD [(1,.pt (bG p q f)),(4,.rs 1 0 n),(5,.rs 2 0 n),(43,I args),(44,I k)],bA [(1,.cells (dY ((replicate n (replicate 20 oA)).set 0 (lI k))) 201),(2,.cells (((replicate n false).set 0 true).map B) 4)],3⟩)
  (λk=>k<=args) (λk=>args - k) 0 (bp ⟨rfl,rfl,rfl,congrArg I ha,rfl,aa⟩ eH) oG ?_) ?_)
 .intro k hk;refine SS ?_;refine af ⟨_,rfl,λh=>?_,λh=>?_⟩
  .have ao:k<args:=by simpa using h
   have hi:((replicate n (replicate 20 oA)).set 0 (lI k))[0]? =some (lI k):=by simp[Cq]
   have HB:=RN (i:=0) HB (Yq k);have vT:=vT (w:=lI k) (n:=(k:Int)) oS oG;refine ws ?_;refine ag ?_;refine af (gj ?_);refine ax ?_;refine aI (gA rfl rfl V.h V.h (Nz oN oN)) ak (gB V.h V.h (DD oN oN)) ?_;refine SS ?_;refine cl vT ?_;refine ag ?_;refine af ?_;refine ag ?_;refine af (aW (k+1) (bp eH ⟨?_,rfl,aa⟩) oG oG);show some (Row.cells (dY ((List.set _ 0 (lI k)).set 0 (lI (k+1)))) _)=_;rw[List.set_set]
  .have bt:¬ k<args:=by simpa using h
   have:k=args:=by omega
   subst this;exact au eH
 clear HB;rintro s hg;refine⟨_,hg,aG (aA ?_)⟩;refine SS ?_;have hi0:=PQ (n:=n) Ey;have hR:jH f.blocks args=nY f.blocks (uV (nD n args)+1) (nD n args):=by rw[jH,hn]
 generalize jH f.blocks args=R at hR ⊢
 refine af (cw (λs=>∃ n',aP prog s ⟨aD [(4,.rs 1 0 n),(5,.rs 2 0 n)],bA [(1,.cells (dY R.wsq) 201),(2,.cells (R.re.map B) 4)],n'⟩/\iU n R) (LQ (α:=CS×Nat)
  (λs=>⟨aD [(1,.pt (bG p q f)),(4,.rs 1 0 n),(5,.rs 2 0 n),(8,B s.1.ch)],bA [(1,.cells (dY s.1.wsq) 201),(2,.cells (s.1.re.map B) 4)],s.2⟩)
  (λs=>iU n s.1/\3<=s.2/\(s.1.ch=true->∃ k,uV s.1<k/\nY f.blocks k s.1=R)/\(s.1.ch=false->s.1=R)) (λs=>2*uV s.1+if s.1.ch=true then 1 else 0) (nD n args,3)
  (bp eH eH) ⟨hi0,bY _,λ_=>⟨_,Nat.lt_succ_self _,hR.symm⟩,λh=>by cases h⟩ ?_) ?_)
 .rintro⟨C,N0⟩ ⟨D1,A1,qe,JH⟩;dsimp only at D1 A1 qe JH ⊢;refine SS ?_;refine af ⟨_,rfl,λh0=>?_,λh=>?_⟩
  .obtain⟨eY,ary,Je⟩:=qe h0;obtain⟨eY,rfl⟩:∃ j,eY=j+1:=⟨eY - 1,oG⟩
   have Jf:=HI hb D1;refine ws ?_;refine SS ?_;refine af (aA ?_);refine bh ?_
   refine af (eB (α:=Nat×Nat)
    (λk=>⟨aD [(1,.pt (bG p q f)),(4,.rs 1 0 n),(5,.rs 2 0 n),(8,B ((List.range k.1).foldl (eK f.blocks) ⟨C.wsq,C.re,false⟩).ch),(58,dz f.blocks),(59,I n),(60,I k.1)],bA [(1,.cells (dY ((List.range k.1).foldl (eK f.blocks) ⟨C.wsq,C.re,false⟩).wsq) 201),(2,.cells (((List.range k.1).foldl (eK f.blocks) ⟨C.wsq,C.re,false⟩).re.map B) 4)],k.2⟩)
    (λk=>k.1<=n/\3<=k.2) (λk=>n - k.1) (0,N0) (bp ⟨rfl,rfl,rfl,rfl,rfl,congrArg (λk:Nat=>I k) hn,rfl,aa⟩ eH) ⟨Nat.zero_le _,A1⟩ ?_)
   rintro⟨k,N⟩ ⟨hk,hN⟩;dsimp only at hk hN ⊢;have cu:=(Le (J:=iU n) (φ:=su) (f:=eK f.blocks) (l:=List.range k) (λk _ s hs=>Rb hb hs) (s:=⟨C.wsq,C.re,false⟩) ⟨D1.lw,D1.lr,D1.nA,D1.rg⟩).1;have dF:(List.range (k+1)).foldl (eK f.blocks) ⟨C.wsq,C.re,false⟩=eK f.blocks ((List.range k).foldl (eK f.blocks) ⟨C.wsq,C.re,false⟩) k:=by rw[List.range_succ,List.foldl_append];rfl
   have pS:k=n->(List.range k).foldl (eK f.blocks) ⟨C.wsq,C.re,false⟩=lU f.blocks C:=λe=>by rw[e,lU,hn]
   generalize (List.range k).foldl (eK f.blocks) ⟨C.wsq,C.re,false⟩=u at cu dF pS;refine SS ?_;refine af ⟨_,rfl,λh=>?_,λh=>?_⟩
   .have ao:k<n:=by simpa using h
    have hx:f.blocks[k]? =some f.blocks[k]:=aO oG;have dW:f.blocks[k]∈f.blocks:=eh _;generalize f.blocks[k]=x at hx dW;have mi:=hb x dW;have M:eK f.blocks u k=if u.re.getD k false=true then(nextR x.fin).foldl (dD x.fin (lB x (u.wsq.getD k [])).1) u else u:=by rw[eK,hx]
    have lw:=cu.lw;have lr:=cu.lr;have nA:=cu.nA;have X:u.wsq[k]? =some u.wsq[k]:=aO oG;have qZ:u.re[k]? =some u.re[k]:=aO oG;rw[getD_some X,getD_some qZ] at M;have qi:=nA _ (eh (h:=by omega):u.wsq[k]∈u.wsq);generalize u.wsq[k]=w at X M qi;generalize u.re[k]=b at qZ M;have kd:=qo (f:=B) qZ;refine ws ?_;refine cz ?_;refine af (aG (al ?_));refine ag ?_;refine aI (wL rfl rfl (ay oG (ay oG rfl)) V.h V.h) ak ⟨V.h,oG⟩ ?_;refine aI (fh rfl (ay oG (ay oG rfl)) kd V.h) ak (fj V.h V.h kd) ?_;refine SS ?_;refine af (cM rfl (λh=>rh (yP ?_)) λh=>cI (zK iO ?_))
    .have VZ:b=false:=by simpa using h
     subst VZ;have M:eK f.blocks u k=u:=M;refine ag ?_;refine af (aW (k+1,N+1) (bp ⟨rfl,rfl,rfl,?_,rfl,rfl,rfl,aa⟩ ⟨?_,?_,aa⟩) ⟨oM,oM⟩ oM)
     .dsimp only;rw[dF,M];rfl
     .dsimp only;rw[dF,M];exact ay oG (ay oG rfl)
     .dsimp only;rw[dF,M];exact ay oG (ay oG rfl)
    have V0:b=true:=by simpa using h
    subst V0;have M:eK f.blocks u k=(nextR x.fin).foldl (dD x.fin (lB x w).1) u:=M;have rS:=rS qi mi.len mi.ins mi.fin mi.rl mi.rf;have AF:=PH x w;rw[qi] at AF;generalize Kt:lB x w=th at rS AF M;obtain⟨w',VY⟩:=th;dsimp only at AF rS M;clear kd;refine aI (gA (vs:=cE _) rfl (aw _ _ _) V.h V.h rfl) ak (gB V.h V.h (by first|(simp;done)|omega|exact bL rfl)) ?_;refine ag ?_;refine aI (Io rfl rfl (ay oG (ay oG (aw _ _ _))) V.h V.h) ak ⟨V.h,oG⟩ ?_;refine aI (gA rfl (ay oG (ay oG (aw _ _ _))) V.h V.h (Nz oN oN)) ak (gB V.h V.h (DD oN oN)) ?_;refine cl rS ?_;refine cz ?_;refine bJ bM (br (vf (l:=[(1,.pt (bG p q f)),(4,.rs 1 0 n),(5,.rs 2 0 n),(8,B u.ch),(10,.rp N 0),(11,.rp (N+1) 0),(58,dz f.blocks),(59,I n),(60,I k)]) (m':=up (up (bA [(1,.cells (dY u.wsq) 201),(2,.cells (u.re.map B) 4)]) N (some (.cells (cE x) 59))) (N+1) (some (.cells (w'.map dV) 201))) eH (by rw[Ap,Ap])) (aA ?_));have AB:=AB (x:=x.fin);have AE:=abY (x:=x.fin) mi.fin.wh
    change aH _ _ _ (aU (nextR x.fin)) at AE
    have iG:=mi.to;have gu:=Lf x.fin;have hwh:=mi.fin.wh;generalize nextR x.fin=l at AE M iG gu;refine aI (pA rfl (ay oG (aw _ _ _)) V.h) ak (kK V.h) ?_;refine aI (gA (vs:=bq _) rfl (ay oG (aw _ _ _)) V.h V.h rfl) ak (gB V.h V.h (by first|(simp;done)|omega|exact bL rfl)) ?_;refine cl AB ?_;refine cl AE ?_;refine ag ?_;have xA:eK f.blocks u k=l.foldl (dD x.fin w') u:=M
    refine af (eB (α:=Nat×Nat)
     (λj=>⟨aD [(1,.pt (bG p q f)),(4,.rs 1 0 n),(5,.rs 2 0 n),(8,B ((l.take j.1).foldl (dD x.fin w') u).ch),(10,.rp N 0),(11,.rp (N+1) 0),(58,dz f.blocks),(59,I n),(60,I k),(82,aU l),(83,I l.length),(84,I j.1)],up (up (bA [(1,.cells (dY ((l.take j.1).foldl (dD x.fin w') u).wsq) 201),(2,.cells (((l.take j.1).foldl (dD x.fin w') u).re.map B) 4)]) N (some (.cells (cE x) 59))) (N+1) (some (.cells (w'.map dV) 201)),j.2⟩)
     (λj=>j.1<=l.length/\N+2<=j.2) (λj=>l.length - j.1) (0,N+2) (vf eH rfl) ⟨Nat.zero_le _,bY _⟩ ?_)
    rintro⟨j,N'⟩ ⟨hj,Pk⟩;dsimp only at hj Pk ⊢;have Pm:=(Le (J:=iU n) (φ:=su) (f:=dD x.fin w') (l:=l.take j) (λt ht s hs=>KX hs (iG t (List.mem_of_mem_take ht))) cu).1;have U:∀ t,l[j]? =some t->(l.take (j+1)).foldl (dD x.fin w') u=dD x.fin w' ((l.take j).foldl (dD x.fin w') u) t:=λt ht=>ve ht;have w9:j=l.length->(l.take j).foldl (dD x.fin w') u=eK f.blocks u k:=λe=>by rw[xA,cX oG]
    generalize (l.take j).foldl (dD x.fin w') u=v at Pm U w9;clear lw lr nA X qZ;have lw:=Pm.lw;have lr:=Pm.lr;have nA:=Pm.nA;refine SS ?_;refine af ⟨_,rfl,λh=>?_,λh=>?_⟩
    .have cW:j<l.length:=by simpa using h
     have ht:l[j]? =some l[j]:=aO cW;have xZ:=iG _ (eh cW);generalize l[j]=t at ht xZ;obtain⟨i,rfl⟩:=jy xZ.1;have cR:i<n:=by omega
     have X:v.wsq[i]? =some v.wsq[i]:=aO oG;have qZ:v.re[i]? =some v.re[i]:=aO oG;have V':=nA _ (eh (h:=by omega):v.wsq[i]∈v.wsq);generalize v.wsq[i]=y at X V';generalize v.re[i]=b at qZ;have kd:=qo (f:=B) qZ;have B':=B' (x:=x.fin) (b:=(i:Int)) (w:=w') AF (by have:=mi.fin.wh;omega) (by have:=mi.fin.wr;omega);have Ku:=Yo x.fin i w';rw[AF] at Ku;have NQ:=NQ V' Ku;have qS:=Ys y (jb x.fin i w');rw[V'] at qS;have yes:=ahi (x:=x.fin) (w:=w') X qZ;have no:=ah0 (x:=x.fin) (w:=w') X qZ;generalize kL y (jb x.fin i w')=z at NQ qS yes no;refine ws ?_;refine ax ?_;refine af (zK (hD [(2,8),(3,8)]) ?_);refine ag ?_;refine aI (Io rfl rfl (ay oG (ay oG (aw _ _ _))) V.h V.h) ak ⟨V.h,oG⟩ ?_;refine aI (gA rfl (ay oG (ay oG (aw _ _ _))) V.h V.h (Nz oN oN)) ak (gB V.h V.h (DD oN oN)) ?_;refine aI (pA rfl (ay oG (aw _ _ _)) V.h) ak (kK V.h) ?_;refine aI (gA (vs:=bq _) rfl (ay oG (aw _ _ _)) V.h V.h rfl) ak (gB V.h V.h (by first|(simp;done)|omega|exact bL rfl)) ?_;refine SS ?_;refine aI (gA rfl (aw _ _ _) V.h V.h (rG (by first|rfl|exact bL rfl|(simp;done)|(simp;omega)|omega))) ak (gB V.h V.h (by first|rfl|exact bL rfl|(simp;done)|(simp;omega)|omega)) ?_;refine cl B' ?_;refine cl NQ ?_;refine ag ?_;refine bJ bM (br (vf (l:=[(1,.pt (bG p q f)),(4,.rs 1 0 n),(5,.rs 2 0 n),(8,B v.ch),(10,.rp N 0),(11,.rp (N+1) 0),(14,I i),(15,.rp N' 0),(58,dz f.blocks),(59,I n),(60,I k),(82,aU l),(83,I l.length),(84,I j)]) (m':=up (up (up (bA [(1,.cells (dY v.wsq) 201),(2,.cells (v.re.map B) 4)]) N (some (.cells (cE x) 59))) (N+1) (some (.cells (w'.map dV) 201))) N' (some (.cells (z.map dV) 201))) eH (Ap _ _ _ _)) (c6 iO ?_));refine ag ?_;refine aI (wL rfl rfl (ay oG (ay oG (ay oG rfl))) V.h V.h) ak ⟨V.h,oG⟩ ?_;refine aI (fh rfl (ay oG (ay oG (ay oG rfl))) kd V.h) ak (fj V.h V.h kd) ?_;refine ag ?_;refine cF rfl rfl (gA rfl (aw _ _ _) V.h V.h (rG (by first|rfl|exact bL rfl|(simp;done)|(simp;omega)|omega))) (λhc=>⟨ak,(gB V.h V.h (by first|rfl|exact bL rfl|(simp;done)|(simp;omega)|omega))⟩) ?_;refine ag ?_;refine cF rfl rfl (Io rfl rfl (ay oG (ay oG (ay oG (aw _ _ _)))) V.h V.h) (λhc=>⟨ak,⟨V.h,oG⟩⟩) ?_;refine cF rfl rfl (gA rfl (ay oG (ay oG (ay oG (aw _ _ _)))) V.h V.h (Nz oN oN)) (λhc=>⟨ak,(gB V.h V.h (DD oN oN))⟩) ?_;refine cF rfl rfl (aru rfl rfl (by first|assumption|(simp;omega)|omega)) (λhc=>⟨ak,(arv (by first|assumption|(simp;omega)|omega))⟩) ?_;refine SS ?_;refine bJ bM (aB rfl (λh=>?_) λh=>?_)
     .have yes:=yes (by
       cases b with
       |false=>exact .inl rfl
       |true=>exact .inr (by simpa using h))
      have U:=(U _ ht).trans yes;clear yes no;refine gj ?_;refine aQ ?_;refine aI (gA rfl (aw _ _ _) V.h V.h (rG (by first|rfl|exact bL rfl|(simp;done)|(simp;omega)|omega))) ak (gB V.h V.h (by first|rfl|exact bL rfl|(simp;done)|(simp;omega)|omega)) ?_;refine aI (Io rfl rfl (ay oG (ay oG (ay oG (aw _ _ _)))) V.h V.h) ak ⟨V.h,oG⟩ ?_;refine dH (jV rfl rfl (ay oG (ay oG (ay oG (aw _ _ _)))) (acQ oC oN oN (by first|assumption|(simp;omega)|(simp;done)))) ak (H' (by first|(simp;omega)|(simp;done)) (DD oN oN) (s9 _)) ?_;refine aI (wL rfl rfl (ay oG (ay oG (ay oG (ay oG rfl)))) V.h V.h) ak ⟨V.h,oG⟩ ?_;refine dH (lT (d:=.s (.bool _)) (cs':=_) rfl rfl (ay oG (ay oG (ay oG (ay oG rfl)))) rfl rfl) ak (eO V.h V.h (by first|(simp;done)|exact⟨rfl,bL rfl⟩|(simp;omega)) rfl) ?_;refine SS ?_;refine af ?_;refine ag ?_
      refine af (aW (j+1,N'+1) (bp (ml:=[(N+1,.cells (w'.map dV) 201),(N,.cells (cE x) 59),(1,.cells (dY ((l.take (j+1)).foldl (dD x.fin w') u).wsq) 201),(2,.cells (((l.take (j+1)).foldl (dD x.fin w') u).re.map B) 4)]) ⟨rfl,rfl,rfl,?_,rfl,rfl,rfl,rfl,rfl,rfl,rfl,rfl,aa⟩
       ⟨ay oG (ay oG (ay oG (aw _ _ _))),ay oG (ay oG (ay oG (ay oG (aw _ _ _)))),ay oG ?_,?_,aa⟩) ⟨oM,oM⟩ oM)
      .dsimp only;rw[U];rfl
      .rw[U];exact aw _ _ _
      .rw[U];dsimp only;rw[List.map_set];exact aw _ _ _
     .have no:=no (by
       cases b with
       |false=>simp at h
       |true=>simpa using h)
      have U:=(U _ ht).trans no;refine cB ?_;refine ag ?_
      refine af (aW (j+1,N'+1) (bp (ml:=[(N+1,.cells (w'.map dV) 201),(N,.cells (cE x) 59),(1,.cells (dY ((l.take (j+1)).foldl (dD x.fin w') u).wsq) 201),(2,.cells (((l.take (j+1)).foldl (dD x.fin w') u).re.map B) 4)]) ⟨rfl,rfl,rfl,?_,rfl,rfl,rfl,rfl,rfl,rfl,rfl,rfl,aa⟩
       ⟨ay oG (aw _ _ _),ay oG (ay oG (aw _ _ _)),?_,?_,aa⟩) ⟨oM,oM⟩ oM)
      .dsimp only;rw[U];rfl
      .rw[U];exact ay oG (ay oG (ay oG rfl))
      .rw[U];exact ay oG (ay oG (ay oG rfl))
    .have bt:¬ j<l.length:=by simpa using h
     have vl:=w9 oG;subst vl;show aE _ _ _ _ _ _ _ _ _;refine ag ?_;refine af (aW (k+1,N') (bp ⟨rfl,rfl,rfl,?_,rfl,rfl,rfl,aa⟩ ⟨?_,?_,aa⟩) ⟨oM,oM⟩ oM)
     .dsimp only;rw[dF];rfl
     .dsimp only;rw[dF];exact ay oG (ay oG rfl)
     .dsimp only;rw[dF];exact ay oG (ay oG rfl)
   .have bt:¬ k<n:=by simpa using h
    have hl:=pS oG;subst hl;refine aW (lU f.blocks C,N) (bp eH eH) ⟨cu,hN,λhc=>?_,λhc=>?_⟩ ?_
    .refine⟨eY,?_,?_⟩
     .have:=Jf.2;unfold su at this;show uV (lU f.blocks C)<eY;rw[bi hc] at this;omega
     .dsimp only at hc ⊢;rw[<- Je,nY,bi hc]
    .dsimp only at hc ⊢;rw[<- Je,nY,ai (by simp[hc])]
    .have:=Jf.2;unfold su at this;dsimp only;rw[bi h0];split at this<;>rename_i hc
     .rw[bi hc];omega
     .rw[ai hc];omega
  .have Kp:=JH h;subst Kp;exact⟨N0,bp eH eH,D1⟩
 .rintro s ⟨n',hg,UE⟩;refine⟨_,hg,aA ?_⟩;refine aQ ?_;refine af (br (cH [(1,dY R.wsq,201),(2,R.re.map B,4)] ⟨rfl,RO oG rfl .map,aa⟩ (l:=[(2,.sl (dY R.wsq) n),(3,.sl (R.re.map B) n)]) ⟨?_,?_,aa⟩) (fB rfl rfl rfl))
  .show sub (dq 2 (R.re.map B) (prog.cellsOf 4)) (sub (dq 1 (dY R.wsq) (prog.cellsOf 201)) (D.rs 1 0 n))=_;rw[lS (by rw[xz,QA UE.nA,UE.lw]),ao7]
  .show sub (dq 2 (R.re.map B) (prog.cellsOf 4)) (sub (dq 1 (dY R.wsq) (prog.cellsOf 201)) (D.rs 2 0 n))=_;rw[QB oG,lS (by rw[c4,List.length_map,UE.lr,Nat.mul_one])]
section
def jc(r:Nat)(l:List D):D:=match l with
 |[]=>.z
 |_=>.rs r 0 l.length
def sU{r:Nat}{l:List D}(h:l≠[]):jc r l=.rs r 0 l.length:=by cases l with
 |nil=>exact absurd rfl h
 |cons=>rfl
def jL(ρ:Nat->Nat)(L:Nat->List D)(n:Nat):List D:=(range n).map λi=>jc (ρ i) (L i)
variable{n:Nat}
@[simp] theorem azp (ρ : Nat -> Nat) (L : Nat -> List D) (n : Nat) : (jL ρ L n).length = n := by simp [jL]
def Bi{ρ:Nat->Nat}{L:Nat->List D}{i:Nat}(hi:i<n):∃ cs,(jL ρ L n).drop i=jc (ρ i) (L i)::cs:=
 ⟨_,qo (f:=λi=>jc (ρ i) (L i)) (by simp[hi])⟩
def Yt{α:Type}{F:Nat->α}{i:Nat}{x:α}:((range n).map F).set i x=(range n).map (up F i x):=by
 apply ext_getElem?;intro k;rw[getElem?_set];simp[length_map,length_range,getElem?_map];split
 .rename_i e;subst e;split
  .rename_i h;simp[h,aw]
  .rename_i h;simp[h]
 .rename_i e;by_cases hk:k<n
  .simp[hk,aV F x (Ne.symm e)]
  .simp[hk]
variable{ρ:Nat->Nat}{L:Nat->List D}
def anW{i r:Nat}{l:List D}(hl:l≠[]):(jL ρ L n).set i (.rs r 0 l.length)=jL (up ρ i r) (up L i l) n:=by
 rw[jL,Yt];refine congrArg (λF=>(range n).map F) (funext λk=>?_);simp[up];split
 .rw[sU hl]
 .rfl
structure eW(m:Mem)(nx j n:Nat)(e et:TypeId)(ρ:Nat->Nat)(L:Nat->List D):Prop where
 row:m j=some (.cells (jL ρ L n) e)
 mY:j<nx
 rR:∀ i,i<n->L i≠[]->m (ρ i)=some (.cells (L i) et)
 lt:∀ i,i<n->L i≠[]->ρ i<nx
 ne:∀ i,i<n->L i≠[]->ρ i≠j
 inj:∀ i k,i<n->k<n->L i≠[]->L k≠[]->ρ i=ρ k->i=k
variable{m:Mem}{nx j:Nat}{e et:TypeId}
def eW.ext{m':Mem}{nx':Nat}(h:eW m nx j n e et ρ L)(hm:∀ q,q<nx->m' q=m q)(hn:nx<=nx'):eW m' nx' j n e et ρ L:=
 ⟨(hm j h.mY).trans h.row,Nat.lt_of_lt_of_le h.mY hn,λi hi hl=>(hm _ (h.lt i hi hl)).trans (h.rR i hi hl),λi hi hl=>Nat.lt_of_lt_of_le (h.lt i hi hl) hn,h.ne,h.inj⟩
def eW.EC{m':Mem}{nx' i r:Nat}{l:List D}(h:eW m nx j n e et ρ L)(hi:i<n)(hl:l≠[])(hr:nx<=r)(jh:r<nx')
 (hj:m' j=some (.cells ((jL ρ L n).set i (.rs r 0 l.length)) e)) (aF:m' r=some (.cells l et)) (hk:∀ q,q<nx->q≠j->(L i≠[]->q≠ρ i)->m' q=m q):eW m' nx' j n e et (up ρ i r) (up L i l):=by
 have cW:=h.mY
 have EF:∀ k,k<n->k≠i->L k≠[]->m' (ρ k)=some (.cells (L k) et):=λk M J C=>
  (hk _ (h.lt k M C) (h.ne k M C) λTX e=>J (h.inj k i M hi C TX e)).trans (h.rR k M C)
 refine⟨by rw[hj,anW hl],oG,λk M C=>?_,λk M C=>?_,λk M C=>?_,λa b ha hb qX mQ X=>?_⟩
 .by_cases J:k=i
  .subst J;rw[aw,aw];exact aF
  .rw[aV _ _ J] at C ⊢;rw[aV _ _ J];exact EF k M J C
 .by_cases J:k=i
  .subst J;rw[aw];exact jh
  .rw[aV _ _ J] at C ⊢;have:=h.lt k M C;omega
 .by_cases J:k=i
  .subst J;rw[aw];omega
  .rw[aV _ _ J] at C ⊢;exact h.ne k M C
 .by_cases EA:a=i
  .by_cases U:b=i
   .omega
   .subst EA;rw[aw,aV _ _ U] at X;rw[aV _ _ U] at mQ;have:=h.lt b hb mQ;omega
  .by_cases U:b=i
   .subst U;rw[aw,aV _ _ EA] at X;rw[aV _ _ EA] at qX;have:=h.lt a ha qX;omega
   .rw[aV _ _ EA] at qX X;rw[aV _ _ U] at mQ X;exact h.inj a b ha hb qX mQ X
def ZD(hj:j<nx)(hm:m j=some (.cells (replicate n .z) e)):eW m nx j n e et ρ (λ_=>[]):=by
 refine⟨?_,hj,λ_ _ h=>absurd rfl h,λ_ _ h=>absurd rfl h,λ_ _ h=>absurd rfl h,λ_ _ _ _ h=>absurd rfl h⟩;rw[hm];congr 2;unfold jL jc;rw[List.map_const',List.length_range]
def aaN(n:Nat):eI n [.z]=replicate n D.z:=by
 unfold eI
 induction n with
 |zero=>rfl
 |succ n ih=>rw[replicate_succ,replicate_succ,flatten_cons,ih];rfl
def jG(X:Nat->Prop)(d:D):Prop:=∀ i cs sz,X i->sub (dq i cs sz) d=d
def sP(X:Nat->Prop)(r:Row):Prop:=∀ i cs sz,X i->Row.sub (dq i cs sz) r=r
variable{X:Nat->Prop}
def jG.s(v:Value):jG X (.s v):=λ_ _ _ _=>rfl
def jG.sl(es:List D)(n:Nat):jG X (.sl es n):=λ_ _ _ _=>rfl
def jG.z:jG X .z:=λ_ _ _ _=>rfl
def jG.u:jG X .u:=λ_ _ _ _=>rfl
def jG.rs{off n:Nat}(h:¬ X j):jG X (.rs j off n):=λi cs sz hi=>QB λe=>h (e▸hi)
def sP.cells{X:Nat->Prop}{cs:List D}{e:TypeId}(h:∀ d∈cs,jG X d):sP X (.cells cs e):=λi C sz hi=>by
 show Row.cells (cs.map _) e=_;congr 1
 induction cs with
 |nil=>rfl
 |cons d cs ih=>rw[map_cons,h d oS i C sz hi,ih λd hd=>h d (by simp[hd])]
def sP.awp{X:Nat->Prop}{cs:List D}(h:D0 cs):sP X (.cells cs e):=sP.cells λd hd=>by obtain⟨v,rfl⟩:=h d hd;exact .s v
def zT(d:D):Wk d d:=λ_ _ _ _ h=>h
def DV:Wk .z (.sl [] 0):=λF β w v hv=>by
 obtain⟨x,rfl⟩:=hv.F1;exact .ln x 0
def ah4{l:List (Nat×D)}(h:∀ x∈l,jG X x.2)(t:Nat):jG X (aD l t):=by
 induction l with
 |nil=>exact .u
 |cons x l ih=>
  let⟨k,d⟩:=x;simp[aD];split
  .exact h (k,d) oS
  .exact ih λy hy=>h y (by simp[hy])
variable{l:List (Nat×Row)}{q:Nat}
def ah5(h:∀ x∈l,sP X x.2){r:Row}(hq:bA l q=some r):sP X r:=by
 induction l with
 |nil=>simp[bA] at hq
 |cons x l ih=>
  let⟨k,d⟩:=x;simp[bA] at hq;split at hq
  .cases hq;exact h (k,r) oS
  .exact ih (λy hy=>h y (by simp[hy])) hq
def ajV(h:∀ x∈l,x.1≠q):bA l q=none:=by
 induction l with
 |nil=>rfl
 |cons x l ih=>
  let⟨k,d⟩:=x;simp[bA];rw[ai λe=>h (k,d) oS e.symm];exact ih λy hy=>h y (by simp[hy])
section
variable{P:Program}
open Classical in
noncomputable def nO(ml:List (Nat×Row))(j n k:Nat)(e et:TypeId)(ρ:Nat->Nat)(L:Nat->List D):Mem:=λq=>
 if q=j then some (.cells ((range n).map λi=>if i<k then .sl (L i) (L i).length else jc (ρ i) (L i)) e)
 else if h:∃ i,k<=i/\i<n/\L i≠[]/\ρ i=q then some (.cells (L (Classical.choose h)) et)
 else bA ml q
def amf{k:Nat}{l:List (Nat×D)}{ml:List (Nat×Row)}(h:eW m nx j n e et ρ L)(hs:∀ i,D0 (L i))(het:P.cellsOf et=1)
 (hX:∀ i,i<n->L i≠[]->X (ρ i)) (qf:¬ X j) (hl:∀ x∈l,jG X x.2) (pr:∀ x∈ml,sP X x.2/\¬ X x.1) (hk:k<n):
 aP P ⟨aD l,nO ml j n k e et ρ L,nx⟩ ⟨aD l,nO ml j n (k+1) e et ρ L,nx⟩:=by
 by_cases J:L k=[]
 .refine .xq _ _ _ _ _ (λt=>zT _) λq=>?_;by_cases hq:q=j
  .subst hq;right;refine⟨_,_,e,by simp[nO,if_true];rfl,by simp[nO,if_true];rfl,oS,λi d d' hd jg=>?_⟩;simp[getElem?_map,ej] at hd jg;obtain⟨a,ha,rfl⟩:=hd;obtain⟨b,hb,rfl⟩:=jg;rw[ha] at hb;cases hb;by_cases h1:a<k
   .rw[bi h1,bi oG];exact zT _
   .rw[ai h1];by_cases h2:a=k
    .subst h2;rw[bi oG,J];exact DV
    .rw[ai oG];exact zT _
  .left;simp[nO,ai hq]
   have:(∃ i,k+1<=i/\i<n/\L i≠[]/\ρ i=q)↔(∃ i,k<=i/\i<n/\L i≠[]/\ρ i=q):=by
    constructor
    .rintro⟨i,h1,h2⟩;exact⟨i,oG,h2⟩
    .rintro⟨i,h1,h2,M,h4⟩
     exact⟨i,by
      rcases Nat.lt_or_ge k i with g|g
      .exact g
      .have:i=k:=by omega
       subst this;exact absurd J M,h2,M,h4⟩
   by_cases hc:∃ i,k<=i/\i<n/\L i≠[]/\ρ i=q
   .rw[dif_pos (this.2 hc),dif_pos hc];have C:=Classical.choose_spec hc;have e2:=Classical.choose_spec (this.2 hc);have:Classical.choose (this.2 hc)=Classical.choose hc:=h.inj _ _ e2.2.1 C.2.1 e2.2.2.1 C.2.2.1 (e2.2.2.2.trans C.2.2.2.symm);rw[this]
   .rw[dif_neg (λh=>hc (this.1 h)),dif_neg hc]
 .have U:ρ k≠j:=h.ne k hk J
  have aF:nO ml j n k e et ρ L (ρ k)=some (.cells (L k) et):=by
   have hc:∃ i,k<=i/\i<n/\L i≠[]/\ρ i=ρ k:=⟨k,bY _,hk,J,rfl⟩
   simp[nO,ai U,dif_pos hc];have C:=Classical.choose_spec hc;have:Classical.choose hc=k:=h.inj _ _ C.2.1 hk C.2.2.1 J C.2.2.2;rw[this]
  have hg:=aP.freeze (P:=P) (aD l) (nO ml j n k e et ρ L) nx (ρ k) (L k) et aF;have C:(λt=>sub (dq (ρ k) (L k) (P.cellsOf et)) (aD l t))=aD l:=funext λt=>ah4 hl t _ _ _ (hX k hk J)
  have e2:(λq=>if q=ρ k then none else(nO ml j n k e et ρ L q).map (Row.sub (dq (ρ k) (L k) (P.cellsOf et))))=nO ml j n (k+1) e et ρ L:=by
   funext q;by_cases zF:q=ρ k
   .subst zF;rw[bi rfl]
    have hc:¬ ∃ i,k+1<=i/\i<n/\L i≠[]/\ρ i=ρ k:=by
     rintro⟨i,g1,g2,g3,g4⟩;have:=h.inj _ _ g2 hk g3 J g4;omega
    simp[nO,ai U,dif_neg hc];exact(ajV λx hx e=>(pr x hx).2 (e▸hX k hk J)).symm
   .rw[ai zF];by_cases qY:q=j
    .subst qY;simp[nO,if_true,Option.map_some];congr 1;show Row.cells (map _ (map _ _)) e=_;rw[map_map];congr 1;refine map_congr_left λi hi=>?_;have cR:i<n:=s0 hi
     simp[Function.comp_apply];by_cases h1:i<k
     .rw[bi h1,bi oG];rfl
     .rw[ai h1];by_cases h2:i=k
      .subst h2;rw[bi oG,sU J,het];exact lS oG
      .rw[ai oG];by_cases M:L i=[]
       .rw[M];rfl
       .rw[sU M];exact QB λe=>h2 (h.inj _ _ cR hk M J e)
    .simp[nO,ai qY]
     have this:(∃ i,k+1<=i/\i<n/\L i≠[]/\ρ i=q)↔(∃ i,k<=i/\i<n/\L i≠[]/\ρ i=q):=by
      constructor
      .rintro⟨i,h1,h2⟩;exact⟨i,oG,h2⟩
      .rintro⟨i,h1,h2,M,h4⟩
       exact⟨i,by
        rcases Nat.lt_or_ge k i with g|g
        .exact g
        .have:i=k:=by omega
         subst this;exact absurd h4.symm zF,h2,M,h4⟩
     by_cases hc:∃ i,k<=i/\i<n/\L i≠[]/\ρ i=q
     .rw[dif_pos (this.2 hc),dif_pos hc];have C:=Classical.choose_spec hc;have e2:=Classical.choose_spec (this.2 hc);have:Classical.choose (this.2 hc)=Classical.choose hc:=h.inj _ _ e2.2.1 C.2.1 e2.2.2.1 C.2.2.1 (e2.2.2.2.trans C.2.2.2.symm);rw[this];exact congrArg some (sP.awp (X:=X) (hs _) _ _ _ (hX k hk J))
     .rw[dif_neg (λh=>hc (this.1 h)),dif_neg hc];cases hm:bA ml q with
      |none=>rfl
      |some r=>exact congrArg some (ah5 (λx hx=>(pr x hx).1) hm _ _ _ (hX k hk J))
  rw[C,e2] at hg;exact hg
def HW{env:Env}{l:List (Nat×D)}{ml:List (Nat×Row)}(X:Nat->Prop)(h:eW m nx j n e et ρ L)(hs:∀ i,D0 (L i))(J:P.cellsOf et=1)
 (M:∀ i,i<n->L i≠[]->X (ρ i)) (qf:¬ X j) (he:pG l env) (hl:∀ x∈l,jG X x.2) (hm:IN ml m) (U:∀ x∈ml,sP X x.2/\¬ X x.1):
 aP P ⟨env,m,nx⟩ ⟨aD l,bA ((j,.cells ((range n).map λi=>.sl (L i) (L i).length) e)::ml),nx⟩:=by
 have key:∀ k,k<=n->aP P ⟨aD l,nO ml j n 0 e et ρ L,nx⟩ ⟨aD l,nO ml j n k e et ρ L,nx⟩:=λk=>by
  induction k with
  |zero=>exact λ_=>.refl _
  |succ k ih=>exact λhk=>(ih oG).trans (amf h hs J M qf hl U oG)
 have h0:aP P ⟨env,m,nx⟩ ⟨aD l,nO ml j n 0 e et ρ L,nx⟩:=by
  refine(aP.forget env _ m nx (vu he)).trans (.drop _ _ _ _ λq=>?_);by_cases hq:q=j
  .subst hq;left;simp only[nO,if_true,Nat.not_lt_zero,if_false];exact h.row.symm
  .simp only[nO,ai hq];by_cases hc:∃ i,0<=i/\i<n/\L i≠[]/\ρ i=q
   .rw[dif_pos hc];have C:=Classical.choose_spec hc;left;have:=h.rR _ C.2.1 C.2.2.1;rw[C.2.2.2] at this;exact this.symm
   .rw[dif_neg hc];exact RD hm q
 refine h0.trans ((key n (bY _)).trans (.drop _ _ _ _ λq=>.inl ?_));by_cases hq:q=j
 .subst hq;simp only[bA,nO,if_true];congr 2;exact map_congr_left λi hi=>by rw[bi (s0 hi)]
 .simp only[bA,ai hq,nO];rw[dif_neg];rintro⟨i,g1,g2,_⟩;omega
end
end
def ir(b:Nat)(L:Nat->List Int)(t:Int):Nat->List Int:=up L t.toNat (L t.toNat++[(b:Int)])
def sQ(bs:List bI)(L:Nat->List Int)(b:Nat):Nat->List Int:=match bs[b]? with
 |none=>L
 |some x=>(nextR x.fin).foldl (ir b) L
def cY(bs:List bI)(k:Nat):Nat->List Int:=(range k).foldl (sQ bs) λ_=>[]
def o0(bs:List bI):List (List Int):=(range bs.length).map (cY bs bs.length)
def cr(L:List (List Int)):D:=.sl (L.map aU) L.length
def nC(L:List (List Int)):Tr (cr L):=.sl (.map λ_=>dP _)
def Lv{F:Nat->List Int}{n:Nat}:(D.sl ((range n).map λi=>.sl ((F i).map I) ((F i).map I).length) n)=cr ((range n).map F):=by
 rw[cr,map_map,length_map,length_range];congr 1;exact map_congr_left λi _=>by simp[aU]
def P9{b:Nat}{L:Nat->List Int}{t:Int}{c:Nat}(h:∀ i,(L i).length<=c):∀ i,(ir b L t i).length<=c+1:=λi=>by
 unfold ir;simp[up];split
 .have:=h t.toNat;simp;omega
 .have:=h i;omega
def abZ{L:Nat->List Int}{k:Nat}{l:List Int}:(λi=>(up L k l i).map I)=up (λi=>(L i).map I) k (l.map I):=by
 funext i;simp[up];split<;>rfl
def GP{p q:D}{f:az}{n:Nat}(hp:Tr p)(hq:Tr q)(iE:p.one=true)(cK:q.one=true)(hn:f.blocks.length=n)(uI:n<=100000)(hw:∀ b∈f.blocks,b.fin.aK.length<=9)(ht:∀ b∈f.blocks,∀ t∈nextR b.fin,0<=t/\t<n):
 aH prog 130 [.agg (bG p q f)] (cr (o0 f.blocks)):=by
 have bE:∀ a∈[D.agg (bG p q f)],Tr a:=.cons (oa hp hq f) .nil;refine bx (fo f130) bE (nC _) ?_;refine aA (ag ?_);refine af (br (cH [(0,bG p q f,113)] eH (l:=[(1,.pt (bG p q f))]) eH) (aA ?_));refine aQ ?_;refine di (H5 rfl rfl V.h V.h) ak ⟨oG,rfl,oG,by rw[Ez];omega,V.h⟩ (SS ?_);have fO:((f.blocks.length:Nat):Int).toNat=n:=hn;refine af (br (bp (l:=[(1,.pt (bG p q f)),(3,.rs 1 0 n)]) (ml:=[(1,.cells (replicate n .z) 43)]) ⟨rfl,congrArg (λk=>D.rs 1 0 k) fO,aa⟩ ⟨?_,aa⟩) (aG (aA ?_)))
 .exact congrArg (λc=>some (Row.cells c 43)) ((congrArg (λk=>eI k [D.z]) fO).trans (aaN n))
 refine bh ?_
 refine af (cw (λs=>∃ m nx ρ,aP prog s ⟨aD [(3,.rs 1 0 n)],m,nx⟩/\eW m nx 1 n 43 3 ρ (λi=>(cY f.blocks n i).map I)) (eB (α:=Nat×Mem×Nat)
  (λk=>⟨aD [(1,.pt (bG p q f)),(3,.rs 1 0 n),(15,dz f.blocks),(16,I n),(17,I k.1)],k.2.1,k.2.2⟩)
  (λk=>k.1<=n/\(∃ ρ,eW k.2.1 k.2.2 1 n 43 3 ρ (λi=>(cY f.blocks k.1 i).map I))/\∀ i,(cY f.blocks k.1 i).length<=12*k.1) (λk=>n - k.1) (0,bA [(1,.cells (replicate n .z) 43)],2)
  (au ⟨rfl,rfl,rfl,congrArg (λk:Nat=>I k) hn,rfl,aa⟩) ⟨Nat.zero_le _,⟨λ_=>0,ZD (show 1<2 by decide) rfl⟩,λ_=>bY _⟩ ?_) ?_)
 .rintro⟨k,m,nx⟩ ⟨hk,⟨ρ,C⟩,hlen⟩;dsimp only at hk C hlen ⊢;have aF:=C.row;have cW:=C.mY;refine SS ?_;refine af ⟨_,rfl,λh=>?_,λh=>?_⟩
  .have ao:k<n:=s0 h
   have hx:f.blocks[k]? =some f.blocks[k]:=aO oG;have X:f.blocks[k]∈f.blocks:=eh _;generalize f.blocks[k]=x at hx X
   have dF:cY f.blocks (k+1)=(nextR x.fin).foldl (ir k) (cY f.blocks k):=by
    rw[cY,range_succ,foldl_append];show sQ f.blocks _ k=_;rw[sQ,hx];rfl
   generalize cY f.blocks k=L0 at C hlen aF dF;refine ws (cz ?_);have AB:=AB (x:=x.fin);have AE:=abY (x:=x.fin) (hw x X)
   change aH _ _ _ (aU (nextR x.fin)) at AE
   have iG:=ht x X;have gu:=Lf x.fin;have hwh:=hw x X;generalize nextR x.fin=l at AE iG gu dF;refine af (aA (SS ?_));refine aI (gA (vs:=bq _) rfl r9 V.h V.h rfl) ak (gB V.h V.h c0) (ag ?_);refine ag ?_
   refine af (eB (α:=Nat×Mem×Nat)
    (λj=>⟨aD [(1,.pt (bG p q f)),(3,.rs 1 0 n),(4,I k),(15,dz f.blocks),(16,I n),(17,I k),(25,aU l),(26,I l.length),(27,I j.1)],j.2.1,j.2.2⟩)
    (λj=>j.1<=l.length/\(∃ ρ,eW j.2.1 j.2.2 1 n 43 3 ρ (λi=>((l.take j.1).foldl (ir k) L0 i).map I))/\∀ i,((l.take j.1).foldl (ir k) L0 i).length<=12*k+j.1) (λj=>l.length - j.1) (0,up m nx (some (.cells (cE x) 59)),nx+1)
    (vf eH (Ap _ _ _ _)) ⟨Nat.zero_le _,⟨ρ,C.ext (λq hq=>ay oG rfl) oM⟩,hlen⟩ ?_)
   clear C aF hlen;rintro⟨j,m,nx⟩ ⟨hj,⟨ρ,C⟩,hlen⟩;dsimp only at hj C hlen ⊢;have aF:=C.row;have cW:=C.mY;have U:∀ t,l[j]? =some t->(l.take (j+1)).foldl (ir k) L0=ir k ((l.take j).foldl (ir k) L0) t:=λt ht=>ve ht;have w9:j=l.length->(l.take j).foldl (ir k) L0=cY f.blocks (k+1):=λe=>by rw[dF,cX oG]
   generalize (l.take j).foldl (ir k) L0=L at C hlen aF U w9;refine SS ?_;refine af ⟨_,rfl,λh=>?_,λh=>?_⟩
   .have JJ:j<l.length:=s0 h
    have Kw:l[j]? =some l[j]:=aO JJ;have xZ:=iG _ (eh JJ);generalize l[j]=t at Kw xZ;obtain⟨i,rfl⟩:=jy xZ.1;have J:i<n:=by omega
    have hL:=hlen i;have U:(l.take (j+1)).foldl (ir k) L0=up L i (L i++[(k:Int)]):=U _ Kw
    have y5:∀ i,((l.take (j+1)).foldl (ir k) L0 i).length<=12*k+(j+1):=λa=>by
     rw[U];exact P9 (t:=(i:Int)) hlen a
    have Kx:(λa=>((l.take (j+1)).foldl (ir k) L0 a).map I)=up (λa=>(L a).map I) i ((L i++[(k:Int)]).map I):=by rw[U];exact abZ
    let⟨cs,kd⟩:=Bi (ρ:=ρ) (L:=λi=>(L i).map I) J;refine ws (ax ?_);refine af (gj ?_);by_cases hz:L i=[]
    .have Bz:jc (ρ i) ((L i).map I)=.z:=by rw[hz];rfl
     rw[Bz] at kd;refine aX ?_;refine ae7 ?_;refine ae8 ?_;refine af (ag ?_);refine af (aW (j+1,up (up (up m nx (some (.cells [I k] 3))) (nx+1) (some (.cells [I k] 3))) 1 (some (.cells ((jL ρ (λi=>(L i).map I) n).set i (.rs (nx+1) 0 1)) 43)),nx+2) (au eH) ⟨oM,⟨up ρ i (nx+1),?_⟩,y5⟩ oM);dsimp only;rw[Kx];refine C.EC J oS oG oG ?_ ?_ (λq hq qY _=>?_)
     .rw[hz];exact aw _ _ _
     .rw[hz];exact ay oG r9
     .exact ay oG (ay oG (ay oG rfl))
    .have M:(L i).map I≠[]:=s0 hz
     have Bz:jc (ρ i) ((L i).map I)=.rs (ρ i) 0 (L i).length:=by rw[sU M,length_map]
     rw[Bz] at kd;have fJ:=C.rR i J M;have Kk:=C.lt i J M;have Kl:=C.ne i J M;refine aX ?_;refine ae9 ?_;refine ae' ?_;refine af (ag ?_);refine af (aW (j+1,up (up (up (up m nx (some (.cells [I k] 3))) (ρ i) none) (nx+1) (some (.cells ((L i).map I++[I k]) 3))) 1 (some (.cells ((jL ρ (λi=>(L i).map I) n).set i (.rs (nx+1) 0 ((L i).length+1))) 43)),nx+2) (au eH) ⟨oM,⟨up ρ i (nx+1),?_⟩,y5⟩ oM);dsimp only;rw[Kx];refine C.EC J oS oG oG ?_ ?_ (λq hq qY qd=>?_)
     .rw[length_map,length_append];exact aw _ _ _
     .rw[map_append];exact ay oG r9
     .have:=qd M;exact ay oG (ay oG (ay oG (ay oG rfl)))
   .have bt:¬ j<l.length:=s0 h
    have vl:=w9 oG;subst vl;show aE _ _ _ _ _ _ _ _ _;refine ag ?_;refine af (aW (k+1,m,nx) (au eH) ⟨oM,⟨ρ,C⟩,λi=>by have:=hlen i;dsimp only at this ⊢;omega⟩ oM)
  .have bt:¬ k<n:=s0 h
   have:k=n:=by omega
   subst this;exact⟨m,nx,ρ,au eH,C⟩
 .rintro s ⟨m,nx,ρ,hg,C⟩;have qf:¬ ∃ i,i<n/\(cY f.blocks n i).map I≠[]/\ρ i=1:=λ⟨i,h1,h2,h3⟩=>C.ne i h1 h2 h3;refine⟨_,hg.trans (HW (l:=[(3,.rs 1 0 n)]) (ml:=[]) (λr=>∃ i,i<n/\(cY f.blocks n i).map I≠[]/\ρ i=r) C (λ_=>.map) c3 (λi h1 h2=>⟨i,h1,h2,rfl⟩) qf ⟨rfl,aa⟩ (λx hx=>?_) aa (λx hx=>by cases hx)),aA ?_⟩
  .simp at hx;subst hx;exact .rs qf
  refine ag ?_;refine af (br (cH [(1,_,43)] eH (l:=[(2,cr (o0 f.blocks))]) ⟨?_,aa⟩) (aC rfl rfl));show sub (dq 1 _ (prog.cellsOf 43)) (D.rs 1 0 n)=_;rw[lS (by rw[ly];simp),Lv,o0,hn]
section
variable{w:List Int}{sz:Nat}{l:List (List Int)}
section
variable{P:Program}{env:Env}{m:Mem}{nx:Nat}{x y:Operand}{t e:TypeId}{k:IntKind}
def ZE{rest:List D}(h:w.length=sz):(w.map dV++rest).take sz=w.map dV:=by
 rw[take_append_of_le_length (by simp[h]),cX (by simp[h])]
def ab0{n i:Nat}(hx:(opd env x).core=.sl (dY l) n)(hy:(opd env y).core=.s (.int k i))(he:aT P t=e)(hs:P.cellsOf e=sz)(hl:∀ w∈l,w.length=sz)(hz:l[i]? =some w):
 Ef P (.indexAddr t x y) env m nx ⟨bH P t=true/\0<=(i:Int)/\(i:Int)<n/\((i:Int).toNat+1)*sz<=(dY l).length,.pt (w.map dV++dY (l.drop (i+1))),[],[],0⟩:=
 S5 hx hy he hs (by rw[eU];exact RM hl hz)
def ab1{n i:Nat}(ht:bH P t=true)(hl:∀ w∈l,w.length=sz)(hz:l[i]? =some w)(hn:i<n):bH P t=true/\0<=(i:Int)/\(i:Int)<n/\((i:Int).toNat+1)*sz<=(dY l).length:=by
 have:=DD hl hz;refine⟨ht,oG,oG,?_⟩;rw[eU,Nat.add_mul,Nat.one_mul];exact this
def gd{i:Nat}{cs:List D}{l:List (Nat×D)}(hm:m i=some (.cells cs e))(hl:pG l λt=>sub (dq i cs (P.cellsOf e)) (env t)):aP P ⟨env,m,nx⟩ ⟨aD l,λ_=>none,nx⟩:=
 cH [(i,cs,e)] ⟨hm,aa⟩ hl
def jB{l:List (Nat×D)}(hl:pG l env):aP P ⟨env,m,nx⟩ ⟨aD l,λ_=>none,nx⟩:=ZF hl λ_=>.inr rfl
end
end
section
variable{P:Nat->Bool}{n:Nat}
def py{k:Nat}(hk:k<n)(h:P k=false):(range n).all P=false:=by
 refine Bool.eq_false_iff.2 λht=>?_;have:=bK.1 ht k (s0 hk);rw[h] at this;cases this
def mn{k:Nat}(h:(range k).all P=true)(hk:P k=true):(range (k+1)).all P=true:=by
 rw[range_succ,all_append,h];simp[hk]
abbrev lA(l:List Bool):D:=.sl (l.map B) l.length
def kM:bI:=⟨[],⟨0,0,0,0,0,.empty,eR,[],[],0⟩⟩
def wN(bs:List bI)(s:CS)(b:Nat)(y:cq)(i:Nat):Bool:=
 let p:=((cY bs bs.length b).getD i 0).toNat
 !(s.re.getD p false)||nM (jb (bs.getD p kM).fin b (lB (bs.getD p kM) (s.wsq.getD p [])).1) (y.args.getD i 0).toNat
def vL(bs:List bI)(s:CS)(b:Nat)(y:cq):Bool:=(range (cY bs bs.length b).length).all (wN bs s b y)
def c8(y:cq):Bool:=y.op==19
def vm(bs:List bI)(s:CS)(b:Nat):Bool:=
 !(s.re.getD b false)||((lB (bs.getD b kM) (s.wsq.getD b [])).2&&((bs.getD b kM).ins.takeWhile c8).all (vL bs s b))
def wJ(bs:List bI)(args:Nat):Bool:=(range bs.length).all (vm bs (jH bs args))
def takeWhile_eq{α:Type}{p:α->Bool}{l:List α}{j:Nat}(h:∀ y∈l.take j,p y=true)(h':∀ y,l[j]? =some y->p y=false):l.takeWhile p=l.take j:=by
 induction l generalizing j with
 |nil=>simp
 |cons a l ih=>cases j with
  |zero=>have:=h' a rfl;simp[this]
  |succ j=>
   have ha:=h a oS;rw[takeWhile_cons,bi ha,take_succ_cons,ih (j:=j) (λy hy=>h y (by simp[hy])) (λy hy=>h' y (s0 hy))]
def XI{b:Nat}{p:Int}:∀ {l:List Int} {L:Nat->List Int} {i:Nat},p∈(l.foldl (ir b) L) i↔p∈L i\/(p=b/\∃ t∈l,t.toNat=i)
 |[],L,i=>by simp
 |t::l,L,i=>by
  rw[foldl_cons,XI (l:=l)];unfold ir;simp only[up];by_cases h:i=t.toNat
  .subst h;simp only[if_true,mem_append,mem_singleton];constructor
   .rintro((h|h)|⟨h,u,h1,h2⟩)
    .exact .inl h
    .exact .inr ⟨h,t,oS,rfl⟩
    .exact .inr ⟨h,u,by simp[h1],h2⟩
   .rintro(h|⟨h,u,h1,h2⟩)
    .exact .inl (.inl h)
    .exact .inl (.inr h)
  .rw[ai h];constructor
   .rintro(h'|⟨h',u,h1,h2⟩)
    .exact .inl h'
    .exact .inr ⟨h',u,by simp[h1],h2⟩
   .rintro(h'|⟨h',u,h1,h2⟩)
    .exact .inl h'
    .rcases mem_cons.1 h1 with e|e
     .subst e;exact absurd h2.symm h
     .exact .inr ⟨h',u,e,h2⟩
def KY{bs:List bI}{p:Int}{i:Nat}:∀ {k:Nat},p∈cY bs k i↔∃ b:Nat,p=b/\b<k/\∃ x,bs[b]? =some x/\∃ t∈nextR x.fin,t.toNat=i
 |0=>by simp[cY]
 |k+1=>by
  have ih:=KY (bs:=bs) (p:=p) (i:=i) (k:=k);have e:cY bs (k+1)=sQ bs (cY bs k) k:=by rw[cY,range_succ,foldl_append];rfl
  rw[e,sQ];cases hx:bs[k]? with
  |none=>
   simp only;rw[ih];constructor
   .rintro⟨b,h1,h2,C⟩;exact⟨b,h1,oG,C⟩
   .rintro⟨b,h1,h2,x,C,J⟩;refine⟨b,h1,?_,x,C,J⟩;rcases Nat.lt_or_ge b k with g|g
    .exact g
    .have:b=k:=by omega
     subst this;rw[hx] at C;cases C
  |some x=>
   simp only;rw[XI,ih];constructor
   .rintro(⟨b,h1,h2,C⟩|⟨h1,h2⟩)
    .exact⟨b,h1,oG,C⟩
    .exact⟨k,h1,oG,x,hx,h2⟩
   .rintro⟨b,h1,h2,M,C,J⟩;rcases Nat.lt_or_ge b k with g|g
    .exact .inl ⟨b,h1,g,M,C,J⟩
    .have:b=k:=by omega
     subst this;rw[hx] at C;cases C;exact .inr ⟨h1,J⟩
variable{bs:List bI}
def Xf(hb:∀ b∈bs,y9 n b):∀ (k:Nat) {s:CS},iU n s->iU n (nY bs k s)
 |0,_,h=>h
 |k+1,s,h=>by
  rw[nY];split
  .exact Xf hb k (HI hb h).1
  .exact(HI hb h).1
def amg{args:Nat}(hb:∀ b∈bs,y9 bs.length b)(C:∀ u∈lI args,fH u):iU bs.length (jH bs args):=Xf hb _ (PQ C)
def Yu{b:Nat}:∀ {l:List Int} {L:Nat->List Int} {c:Nat},(∀ i,(L i).length<=c)->∀ i,((l.foldl (ir b) L) i).length<=c+l.length
 |[],_,_,h,i=>h i
 |t::l,L,c,h,i=>by
  have:=Yu (b:=b) (l:=l) (P9 (t:=t) (b:=b) h) i;rw[foldl_cons,length_cons];omega
def P'(C:∀ b∈bs,b.fin.aK.length<=9):∀ (k i:Nat),(cY bs k i).length<=12*k
 |0,_=>by simp[cY]
 |k+1,i=>by
  have ih:=P' C k;have e:cY bs (k+1)=sQ bs (cY bs k) k:=by rw[cY,range_succ,foldl_append];rfl
  rw[e,sQ];cases hx:bs[k]? with
  |none=>have:=ih i;simp only;omega
  |some x=>
   have h1:=Yu (l:=nextR x.fin) (b:=k) ih i;have h2:=Lf x.fin;have J:=C x (bD hx);simp only;omega
def XJ{k:Nat}(hn:bs.length=n)(hk:k<n):(o0 bs)[k]? =some (cY bs n k):=by
 subst hn;simp[o0,hk]
end
def Pn{p q:D}{f:az}{n args:Nat}(hp:Tr p)(hq:Tr q)(iE:p.one=true)(cK:q.one=true)(hn:f.blocks.length=n)(Cq:0<n)(uI:n<=100000)(ha:f.args=args)(uG:args<=1000)(Ey:∀ u∈lI args,fH u)(hb:∀ b∈f.blocks,y9 n b)
 (D2:∀ b x,f.blocks[b]? =some x->∀ y∈x.ins,y.op=19->y.args.length=(cY f.blocks n b).length/\∀ r∈y.args,0<=r/\r<1280):
 aH prog 98 [.agg (bG p q f)] (B (wJ f.blocks args)):=by
 have bE:∀ a∈[D.agg (bG p q f)],Tr a:=.cons (oa hp hq f) .nil;have GO:=GO hp hq iE cK hn Cq uI ha uG Ey hb;have GP:=GP hp hq iE cK hn uI (λb h=>(hb b h).fin.wh) (λb h=>(hb b h).to);have aeu:iU n (jH f.blocks args):=by subst hn;exact amg hb Ey
 refine bx (fo f98) bE (.s _) ?_;refine aA (ag ?_);refine af (br (cH [(0,bG p q f,113)] eH (l:=[(1,.pt (bG p q f))]) eH) ?_);have qJ:wJ f.blocks args=(range n).all (vm f.blocks (jH f.blocks args)):=by rw[wJ,hn]
 rw[qJ];clear qJ;generalize jH f.blocks args=R at GO aeu ⊢;let⟨lw,lr,nA,rg⟩:=aeu;have GO:aH prog 132 [.agg (bG p q f)] (.bu [.sl (dY R.wsq) n,lA R.re]):=by rw[lA,lr];exact GO
 show AW _ _ _ _ (MH _) _;refine ws (ek ?_);refine af (aA (ax ?_));refine af (br (jB (l:=[(1,.pt (bG p q f)),(3,.sl (dY R.wsq) n),(4,lA R.re),(5,cr (o0 f.blocks))]) eH) (ahc (aG (aA ?_))));refine bh ?_
 refine af (cw (λs=>(range n).all (vm f.blocks R)=true) (eB (α:=Nat×Nat)
  (λk=>⟨aD [(1,.pt (bG p q f)),(3,.sl (dY R.wsq) n),(4,lA R.re),(5,cr (o0 f.blocks)),(25,dz f.blocks),(26,I n),(27,I k.1)],λ_=>none,k.2⟩)
  (λk=>k.1<=n/\(range k.1).all (vm f.blocks R)=true) (λk=>n - k.1) (0,1) (jB ⟨rfl,rfl,rfl,rfl,rfl,congrArg (λk:Nat=>I k) hn,rfl,aa⟩) ⟨Nat.zero_le _,rfl⟩ ?_) ?_)
 .rintro⟨k,N⟩ ⟨hk,bd⟩;dsimp only at hk bd ⊢;refine SS ?_;refine af ⟨_,rfl,λh=>?_,λh=>?_⟩
  .have ao:k<n:=s0 h
   have hx:f.blocks[k]? =some f.blocks[k]:=aO oG;have dW:f.blocks[k]∈f.blocks:=eh _;generalize f.blocks[k]=x at hx dW;have mi:=hb x dW;have yc:=D2 k x hx;have hw:R.wsq[k]? =some R.wsq[k]:=aO oG;have qZ:R.re[k]? =some R.re[k]:=aO oG;have qi:=nA _ (eh (h:=by omega):R.wsq[k]∈R.wsq)
   have M:vm f.blocks R k=(!R.re[k]||((lB x R.wsq[k]).2&&(x.ins.takeWhile c8).all (vL f.blocks R k))):=by
    rw[vm,getD_some hw,getD_some qZ,getD_some hx]
   generalize R.wsq[k]=w at hw qi M;generalize R.re[k]=b at qZ M;refine aA (cz ?_);refine af (br (gd (i:=N) (l:=[(1,.pt (bG p q f)),(3,.sl (dY R.wsq) n),(4,lA R.re),(5,cr (o0 f.blocks)),(6,I k),(7,.pt (cE x)),(25,dz f.blocks),(26,I n),(27,I k)]) r9 ⟨rfl,rfl,rfl,rfl,rfl,nh,rfl,rfl,rfl,aa⟩) (aG (al ?_)));refine bh ?_;refine af (cM rfl (λh=>rh (yP ?_)) λh=>cI (aG (zK iO ?_)))
   .have VZ:b=false:=s0 h
    subst VZ;refine ag ?_;refine af (aW (k+1,N+1) (jB eH) ⟨oM,mn bd (by rw[M];rfl)⟩ oM)
   have V0:b=true:=s0 h
   subst V0;have rS:=rS qi mi.len mi.ins mi.fin mi.rl mi.rf;have AF:=PH x w;rw[qi] at AF;generalize lB x w=th at rS M AF;let⟨w1,ok⟩:=th;dsimp only at rS M AF;refine ax ?_;refine aI (ab0 rfl rfl V.h V.h oN oN) ak (ab1 V.h oN oN oG) (aI (nZ rfl V.h V.h (ZE oN)) ak (n9 V.h V.h oP) (ek ?_));refine bJ bM (br (jB (l:=[(1,.pt (bG p q f)),(3,.sl (dY R.wsq) n),(4,lA R.re),(5,cr (o0 f.blocks)),(6,I k),(7,.pt (cE x)),(9,B ok),(25,dz f.blocks),(26,I n),(27,I k)]) eH) (aG (al ?_)));refine ag ?_;refine af (cM rfl (λh=>?_) λh=>cI (aA ?_))
   .have cu:ok=false:=s0 h
    subst cu;refine aG (al (SS ?_));refine af (de (bP (aY (LR (aC (d:=B false) rfl ?_)))));rw[py ao (by rw[M];rfl)]
   have cu:ok=true:=s0 h
   subst cu;have M:vm f.blocks R k=(x.ins.takeWhile c8).all (vL f.blocks R k):=M;refine aQ ?_;have gu:=mi.len
   refine af (eB (α:=Nat×Nat)
    (λj=>⟨aD [(1,.pt (bG p q f)),(3,.sl (dY R.wsq) n),(4,lA R.re),(5,cr (o0 f.blocks)),(6,I k),(25,dz f.blocks),(26,I n),(27,I k),(49,jo x.ins),(50,I x.ins.length),(51,I j.1)],λ_=>none,j.2⟩)
    (λj=>j.1<=x.ins.length/\(∀ y∈x.ins.take j.1,c8 y=true)/\(x.ins.take j.1).all (vL f.blocks R k)=true) (λj=>x.ins.length - j.1) (0,_) (jB eH) ⟨Nat.zero_le _,oS,oS⟩ ?_)
   rintro⟨j,N⟩ ⟨hj,GQ,JL⟩;dsimp only at hj GQ JL ⊢;refine SS ?_;refine af ⟨_,rfl,λh=>?_,λh=>?_⟩
   .have cW:j<x.ins.length:=s0 h
    have hy:x.ins[j]? =some x.ins[j]:=aO cW;have hym:x.ins[j]∈x.ins:=eh cW;generalize x.ins[j]=y at hy hym;refine aA (aQ ?_);refine af (br (gd (i:=N) (l:=[(1,.pt (bG p q f)),(3,.sl (dY R.wsq) n),(4,lA R.re),(5,cr (o0 f.blocks)),(6,I k),(11,.pt (bU y)),(25,dz f.blocks),(26,I n),(27,I k),(49,jo x.ins),(50,I x.ins.length),(51,I j)]) r9 ⟨rfl,rfl,rfl,rfl,rfl,nh,rfl,rfl,rfl,rfl,rfl,rfl,aa⟩) (aG (al ?_)));refine ax ?_;refine af (cM rfl (λh=>rh (apK oC oC (yP ?_))) λh=>cI (aA ?_))
    .have aR:y.op≠19:=s0 h
     refine ag ?_;refine af (aW (k+1,_) (jB eH) ⟨oM,mn bd ?_⟩ oM);rw[M,takeWhile_eq GQ (λy' h'=>by rw[hy] at h';cases h';simpa[c8] using aR)];exact JL
    have gR:y.op=19:=s0 h
    let⟨jl,Wa⟩:=yc y hym gR;have hA:=XJ hn ao
    have Ky:∀ p∈cY f.blocks n k,∃ C:Nat,p=C/\C<n:=λp hp=>by
     let⟨b,h1,h2,_⟩:=KY.1 hp;exact⟨b,h1,h2⟩
    have Wb:vL f.blocks R k y=(range (cY f.blocks n k).length).all (wN f.blocks R k y):=by rw[vL,hn]
    have J:∀ i,wN f.blocks R k y i=(!(R.re.getD ((cY f.blocks n k).getD i 0).toNat false)||nM (jb (f.blocks.getD ((cY f.blocks n k).getD i 0).toNat kM).fin k (lB (f.blocks.getD ((cY f.blocks n k).getD i 0).toNat kM) (R.wsq.getD ((cY f.blocks n k).getD i 0).toNat [])).1) (y.args.getD i 0).toNat):=λi=>by rw[wN,hn]
    have Wc:=P' (λb h=>(hb b h).fin.wh) n k;generalize cY f.blocks n k=A at jl hA Ky Wb J Wc
    have ao8:∀ i,i<A.length->wN f.blocks R k y i=false->(range n).all (vm f.blocks R)=false:=λi hi he=>by
     apply py ao;rw[M];refine Bool.eq_false_iff.2 λht=>?_
     have awy:y∈x.ins.takeWhile c8:=by
      have:x.ins.take (j+1)=x.ins.take j++[y]:=by rw[take_add_one,hy];rfl
      have h2:x.ins=x.ins.take (j+1)++x.ins.drop (j+1):=(take_append_drop _ _).symm;rw[h2,this,takeWhile_append_of_pos]
      .simp
      .intro z hz;rcases mem_append.1 hz with h|h
       .exact GQ z h
       .rw[mem_singleton.1 h];simp[c8,gR]
     have:=bK.1 ht y awy;rw[Wb,py hi he] at this;cases this
    refine cz ?_
    refine af (eB (α:=Nat×Nat)
     (λi=>⟨aD [(1,.pt (bG p q f)),(3,.sl (dY R.wsq) n),(4,lA R.re),(5,cr (o0 f.blocks)),(6,I k),(11,.pt (bU y)),(25,dz f.blocks),(26,I n),(27,I k),(49,jo x.ins),(50,I x.ins.length),(51,I j),(61,aU A),(62,I A.length),(63,I i.1)],λ_=>none,i.2⟩)
     (λi=>i.1<=A.length/\(range i.1).all (wN f.blocks R k y)=true) (λi=>A.length - i.1) (0,_) (jB eH) ⟨Nat.zero_le _,rfl⟩ ?_)
    rintro⟨i,N⟩ ⟨hi,Tu⟩;dsimp only at hi Tu ⊢;refine SS ?_;refine af ⟨_,rfl,λh=>?_,λh=>?_⟩
    .have gh:i<A.length:=s0 h
     have hpi:A[i]? =some A[i]:=aO gh;let⟨C,Kz,r6⟩:=Ky _ (eh gh);rw[Kz] at hpi;clear Kz;have zG:f.blocks[C]? =some f.blocks[C]:=aO oG;have uw:f.blocks[C]∈f.blocks:=eh _;have hwp:R.wsq[C]? =some R.wsq[C]:=aO oG;have hbp:R.re[C]? =some R.re[C]:=aO oG;have UG:=nA _ (eh (h:=by omega):R.wsq[C]∈R.wsq);have We:y.args[i]? =some y.args[i]:=aO oG;have CB:=Wa _ (eh (h:=by omega):y.args[i]∈y.args);have J:=J i;rw[getD_some hpi,eU,getD_some zG,getD_some hwp,getD_some hbp,getD_some We] at J;generalize f.blocks[C]=xp at zG uw J;generalize R.wsq[C]=wp at hwp UG J;generalize R.re[C]=rb at hbp J;generalize y.args[i]=r at We CB J;obtain⟨rn,rfl⟩:=jy CB.1;rw[eU] at J;have X:=hb xp uw;have rS:=Go.Abs.rS UG X.len X.ins X.fin X.rl X.rf;have JM:=PH xp wp;rw[UG] at JM;generalize lB xp wp=tp at rS J JM;let⟨w2,ok2⟩:=tp;dsimp only at rS J JM;have B':=B' (x:=xp.fin) (b:=(k:Int)) (w:=w2) JM (by have:=X.fin.wh;omega) (by have:=X.fin.wr;omega);have jj:=Yo xp.fin k w2;rw[JM] at jj;generalize jb xp.fin k w2=w3 at B' jj J;have pg:=pg (w:=w3) (m:=rn) jj oG;refine ws (bh ?_);refine af (zK iO ?_);refine cJ ?_;refine aI (ab0 rfl rfl V.h V.h oN oN) ak (ab1 V.h oN oN oG) (aI (nZ rfl V.h V.h (ZE oN)) ak (n9 V.h V.h oP) (ek ?_));refine bJ bM (br (gd (i:=N) (l:=[(1,.pt (bG p q f)),(3,.sl (dY R.wsq) n),(4,lA R.re),(5,cr (o0 f.blocks)),(6,I k),(11,.pt (bU y)),(12,I i),(13,I C),(14,.pt (w2.map dV)),(25,dz f.blocks),(26,I n),(27,I k),(49,jo x.ins),(50,I x.ins.length),(51,I j),(61,aU A),(62,I A.length),(63,I i)]) r9 ⟨rfl,rfl,rfl,rfl,rfl,rfl,rfl,rfl,nh,rfl,rfl,rfl,rfl,rfl,rfl,rfl,rfl,rfl,aa⟩) (c6 (hD [(14,15),(14,16),(14,18),(14,19)]) ?_))
     have y4:∀ v:Bool,v=wN f.blocks R k y i->(v=false->(range n).all (vm f.blocks R)=false)/\(v=true->(range (i+1)).all (wN f.blocks R k y)=true):=λv hv=>by
      subst hv;exact⟨ao8 i gh,λh=>mn Tu h⟩
     cases rb with
     |false=>
      let⟨_,U⟩:=y4 true J.symm;have U:=U rfl;refine aX ?_;refine cF rfl rfl (yN rfl rfl V.h V.h (E8) oN) (λhc=>⟨ak,(yO V.h (E8) oN)⟩) (ax ?_);refine cF rfl rfl (nZ rfl V.h V.h (ab2 cd)) (λhc=>⟨ak,(n9 V.h V.h cd)⟩) (aX ?_);refine bJ bM (aB rfl (λh=>oH) λh=>cB ?_);refine ag ?_;refine af (aW (i+1,_) (jB eH) ⟨oM,U⟩ oM)
     |true=>
      let⟨wo,U⟩:=y4 (nM w3 rn) J.symm;generalize nM w3 rn=hv at pg wo U;refine aX ?_;refine cF rfl rfl (yN rfl rfl V.h V.h (E8) oN) (λhc=>⟨ak,(yO V.h (E8) oN)⟩) (ax ?_);refine cF rfl rfl (nZ rfl V.h V.h (ab2 cd)) (λhc=>⟨ak,(n9 V.h V.h cd)⟩) (aX ?_);refine bJ bM (aB rfl (λh=>?_) λh=>cB ?_)
      .have hf:hv=false:=s0 h
       refine ws (SS ?_);refine af (bj (bP (bP (bP (aY (LR (aC (d:=B false) rfl ?_)))))));rw[wo hf]
      .have ht:hv=true:=s0 h
       have U:=U ht;refine ag ?_;refine af (aW (i+1,_) (jB eH) ⟨oM,U⟩ oM)
    .have bt:¬ i<A.length:=s0 h
     have hiA:i=A.length:=by omega
     subst hiA;show aE _ _ _ _ _ _ _ _ _;refine ag ?_;refine af (aW (j+1,_) (jB eH) ⟨oM,λz hz=>?_,?_⟩ oM)
     .dsimp only at hz;rw[take_add_one,hy] at hz;rcases mem_append.1 hz with h|h
      .exact GQ z h
      .rw[mem_singleton.1 h];simp[c8,gR]
     .dsimp only;rw[take_add_one,hy,all_append,JL];simpa[Wb] using Tu
   .have bt:¬ j<x.ins.length:=s0 h
    have J4:j=x.ins.length:=by omega
    subst J4;show aE _ _ _ _ _ _ _ _ _;refine ag ?_;refine af (aW (k+1,_) (jB eH) ⟨oM,mn bd ?_⟩ oM);rw[take_length] at GQ JL;rw[M,takeWhile_eq (j:=x.ins.length) (by rw[take_length];exact GQ) (λy h=>by simp at h),take_length];exact JL
  .have bt:¬ k<n:=s0 h
   have:k=n:=by omega
   subst this;exact bd
 .rintro⟨env,m,nx⟩ bd;refine⟨_,.refl _,al ?_⟩;refine SS ?_;refine af (LR (aC (d:=B true) rfl ?_));rw[bd]
section
def se(f:az):Bool:=decide (f.result=1)||(decide (f.result=2)||(decide (f.result=0)&& !f.iter))
def od(f:az):Bool:=
 kZ f.name&&(eg f.args 0 (if(f.aj.length:Int)<6 then(f.aj.length:Int) else 6)&&(se f&&(!decide ((1200:Int)<f.aj.length)&&(!decide ((60:Int)<f.a6.length)&&eg f.blocks.length 1 1200))))
def sC(f:az):Bool:=
 gk f.aj 3&&(gk (f.aj.take f.args.toNat) 2&&(gk f.a6 2&&(!decide ((6:Int)<f.signals.length)&& !f.signals.any λs=> !isName s)))
def yx(l:List ByteArray)(i:Nat):Bool:=Op.bytesLess (l.getD i .empty).toList (l.getD (i+1) .empty).toList
def rB(f:az):Bool:=(range (f.signals.length - 1)).all (yx f.signals)
def lD(bs:List bI)(k:Nat):List Int:=((bs.take k).filter λx=>x.fin.kind==7).map λx=>x.fin.a
def kD(f:az)(k:Nat):Bool:=
 let x:=f.blocks.getD k kM
 gD f x.fin&&(!decide ((200:Int)<x.ins.length)&& !(x.fin.kind==7&&(lD f.blocks k).any (·==x.fin.a)))
def vo(f:az)(b:Nat)(l:List cq)(j:Nat):Bool:=kG f b (l.getD j eR) ((l.take (j+1)).all c8) (cY f.blocks f.blocks.length b).length
def vq(f:az)(b:Nat):Bool:=(range (f.blocks.getD b kM).ins.length).all (vo f b (f.blocks.getD b kM).ins)
def iX(f:az):Bool:=
 od f&&(sC f&&(rB f&&((range f.blocks.length).all (kD f)&&(range f.blocks.length).all (vq f))))
def eF(f:az):Int:=if iX f=true then(if wJ f.blocks f.args.toNat=true then 0 else 81) else 80
def lb(l:List Int)(r:Int):Prop:=0<=r/\r<l.length
def kE{l:List Int}{r:Int}(h:dc l r≠0):lb l r:=Classical.byContradiction λhn=>h (QC hn)
variable{l:List Int}
def nE{r:Int}(h:fU l r=true):lb l r:=by
 refine kE λe=>?_;simp[fU,e] at h
def vg{l rs:List Int}(h:jC l rs=true):∀ r∈rs,lb l r:=λr hr=>nE (bK.1 h r hr)
def LA{r want of:Int}(h:og l r want of=true)(C:want≠0):lb l r:=by
 rw[og,ai C] at h;split at h
 .refine kE λe=>?_;simp[e] at h
 .split at h
  .refine kE λe=>?_;simp[e] at h
  .split at h
   .exact nE h
   .refine kE λe=>?_;simp[e] at h
structure aev(l:List Int)(x:cq)(s:Shape):Prop where
 to:s.to≠0->lb l x.to
 a:s.a≠0->lb l x.a
 b:s.b≠0->lb l x.b
 args:s.args=5\/s.args=6->x.args.length<=6/\∀ r∈x.args,lb l r
variable{s:Shape}
def QD{x:cq}(h:rC l x s=true):aev l x s:=by
 unfold rC at h;simp[aJ] at h;let⟨h1,h2,J,C,_⟩:=h;refine⟨LA h1,LA h2,LA J,λhs=>?_⟩;unfold tK at C;rcases hs with hs|hs
 .rw[bi hs,aJ] at C;have:=kC.1 C.1;exact⟨oG,vg C.2⟩
 .rw[ai oG,bi hs,aJ] at C;have:(x.args.length:Int)=1:=s0 C.1
  exact⟨oG,vg C.2⟩
def CH{l:List (Int×Shape)}{op:Int}(h:gl l op=some s):(op,s)∈l:=by
 rw[gl,ej] at h;obtain⟨⟨o,s'⟩,h1,rfl⟩:=h;have h2:=find?_some h1;have C:=mem_of_find?_eq_some h1;have:o=op:=s0 h2
 subst this;exact C
def PR{x:cq}(hl:l.length<=1200)(hm:(x.op,s)∈nI\/(x.op,s)∈ko)(h:aev l x s):vK x:=by
 let⟨h1,h2,M,J⟩:=h;unfold lb at h1 h2 M J;have hr:∀ {r:Int},0<=r/\r<l.length->0<=r/\r<1200:=λh=>by omega
 have U:∀ {r:Int},0<=r/\r<l.length-> -1000000<=r/\r<1200:=λh=>by omega
 let⟨op,to,a,b,n,args⟩:=x;dsimp only at h1 h2 M J hm;simp[nI,ko,mem_cons,dp,not_mem_nil,or_false] at hm;rcases hm with hm|hm
 .rcases hm with hm|hm|hm|hm|hm|hm|hm|hm|hm|hm|hm|hm|hm|hm|hm<;>obtain⟨rfl,rfl⟩:=hm<;>refine⟨λr C=>?_,λh=>?_,?_,λh=>?_⟩<;>
   simp_all[dE,eP,bf,sD,wO,qu,sw]<;>first|omega|(rcases C with rfl|rfl<;>omega)|(have:=J.2 r C;omega)
 .rcases hm with hm|hm|hm|hm|hm|hm|hm|hm|hm<;>obtain⟨rfl,rfl⟩:=hm<;>refine⟨λr C=>?_,λh=>?_,?_,λh=>?_⟩<;>
   simp_all[dE,eP,bf,sD,wO,qu,sw]<;>first|omega|(rcases C with rfl|rfl<;>omega)|(rcases C with rfl|rfl|C<;>first|omega|(have:=J.2 r C;omega))
end
def eb{a b:Int}:bm a b=true↔a=b:=by simp[bm]
theorem It{l a6:List Int}{r n:Int}(hs:∀ k∈a6,k≠0)(h:pT l a6 r n=true):lb l r/\0<=n/\n<a6.length:=by
 rw[pT,aJ,kC] at h;let⟨⟨h1,h2⟩,C⟩:=h
 have J:dc a6 n≠0:=by
  obtain⟨k,rfl⟩:=jy h1;have hk:k<a6.length:=by omega
  rw[yu (aO hk)];exact hs _ (eh hk)
 refine⟨kE ?_,h1,oG⟩;rw[show dc l r=dc a6 n by simpa using C];exact J
def Xg{f:az}{b ahead:Int}{x:cq}{phis:Bool}(hl:f.aj.length<=1200)(hs:∀ k∈f.a6,k≠0)(lx:f.a6.length<=60)(h:kG f b x phis ahead=true):
 vK x/\(x.op=19->(x.args.length:Int)=ahead/\phis=true/\0<b/\lb f.aj x.to/\∀ r∈x.args,dc f.aj r=dc f.aj x.to/\lb f.aj r):=by
 unfold kG at h;split at h
 .rename_i U;simp only[aJ,eb] at h;have hr:=kE (l:=f.aj) (r:=x.a) oG;unfold lb at hr;refine⟨⟨λr h'=>?_,λh'=>by omega,?_,λh'=>by omega⟩,λh'=>by omega⟩
  .simp[dE,bf,sD,U] at h';omega
  .simp[eP,bf,qu,sw,U]
 .rename_i U;split at h
  .rename_i M;simp only[aJ,eb] at h;let⟨h1,h2,h3⟩:=It hs h.2.2.2;unfold lb at h1;refine⟨⟨λr h'=>?_,λh'=>by omega,?_,λh'=>by omega⟩,λh'=>by omega⟩
   .simp[dE,bf,sD,wO,M] at h'
   .simp[eP,bf,qu,M];omega
  .rename_i M;split at h
   .rename_i J;simp only[aJ,eb] at h;let⟨h1,h2,h3⟩:=It hs h.2.2.2;unfold lb at h1;refine⟨⟨λr h'=>?_,λh'=>by omega,?_,λh'=>by omega⟩,λh'=>by omega⟩
    .simp[dE,bf,sD,J] at h';omega
    .simp[eP,bf,qu,sw,J]
   .rename_i J;split at h
    .rename_i C;simp only[aJ,eb,decide_eq_true_eq] at h;let⟨g1,g2,X,g4,g5,g6,g7,g8⟩:=h;have hr:=nE X;have hk:dc f.aj x.to≠0:=λe=>by simp[fU,e] at X
     refine⟨⟨λr h'=>?_,λh'=>by omega,?_,λh'=>by omega⟩,λ_=>⟨g7,g1,g2,hr,λr jh=>?_⟩⟩
     .simp[dE,bf,sD,wO,C] at h'
     .unfold lb at hr;simp[eP,bf,qu,C];omega
     .have:bm (dc f.aj r) (dc f.aj x.to)=true:=by
       simp only[Bool.not_eq_true',any_eq_false] at g8;simpa using g8 r jh
      rw[eb] at this;exact⟨this,kE (by rw[this];exact hk)⟩
    .rename_i C;rw[aJ] at h;cases hs:gl nI x.op with
     |none=>rw[hs] at h;simp at h
     |some s=>
      rw[hs] at h;exact⟨PR hl (.inl (CH hs)) (QD h.2),λh'=>absurd h' C⟩
structure NA(f:az)(x:End):Prop where
 fin:Jd x
 wh:x.aK.length<=7
 to:∀ t∈ep x,0<=t/\t<f.blocks.length
def KZ{f:az}{x:End}(h:mu f x=true):x.aK.length<=7/\(∀ w∈x.aK,0<=w.to/\w.to<f.blocks.length)/\(0<=x.others->x.others<f.blocks.length):=by
 rw[mu,aJ,aJ] at h;let⟨h1,h2,C⟩:=h;have h2:(x.aK.length:Int)<=7:=s0 h2
 refine⟨oG,λw J=>?_,λh0=>?_⟩
 .let⟨i,hi⟩:=cV J;have hm:(w,i)∈x.aK.zipIdx:=mem_zipIdx_iff_getElem?.2 hi;have:=bK.1 h1 _ hm;simp[qG,aJ,cS,kC] at this;omega
 .rw[Bool.or_eq_true] at C;rcases C with C|C
  .have:x.others= -1:=s0 C
   omega
  .rw[cS,kC] at C;omega
def aaO{x:End}(h:xc x=true):x.kind=0/\x.a=0/\x.b=0/\x.to=0/\x.ei=0/\x.others= -1/\x.args.length=0/\x.aK.length=0:=by
 simp only[xc,aJ,decide_eq_true_eq] at h;omega
def Rc{f:az}{x:End}(hl:f.aj.length<=1200)(hr:se f=true)(h:gD f x=true):NA f x:=by
 have jw:∀ {r:Int},lb f.aj r->0<=r/\r<1200:=λh=>by unfold lb at h;omega
 rw[gD,aJ] at h;let⟨h,hb⟩:=h;have hb:=aaO hb;have U:∀ {t:Int},cS f t=true->0<=t/\t<f.blocks.length:=λh=>by rw[cS,kC] at h;omega
 let⟨kind,a,b,to,ei,name,ins,args,aK,others⟩:=x;simp only[fL] at h hb;by_cases h1:kind=1
 .subst h1;simp only[if_true] at h hb;have J:=U h;have C:aK=[]:=length_eq_zero_iff.1 hb.2.2.2.2.2.2.2;subst C;refine⟨⟨λr h'=>?_,?_,oS,oS,oS⟩,oS,λt ht=>?_⟩
  .simp[dM,bf] at h'
  .simp[fY,bf]
  .simp[ep,kQ,bf] at ht;subst ht;exact J
 by_cases h2:kind=2
 .subst h2;simp only[Int.reduceEq,if_false,if_true,aJ,eb] at h hb;have C:aK=[]:=length_eq_zero_iff.1 hb.2.2.2.2.2.2.2;subst C;have HC:=jw (kE (l:=f.aj) (r:=a) oG);have J:=U h.2.1;have qg:=U h.2.2;refine⟨⟨λr h'=>?_,?_,oS,oS,oS⟩,oS,λt ht=>?_⟩
  .simp[dM,bf] at h';subst h';exact HC
  .simp[fY,bf]
  .simp[ep,kQ,bf] at ht;rcases ht with rfl|rfl
   .exact J
   .exact qg
 by_cases h3:kind=3
 .subst h3;simp only[Int.reduceEq,if_false,if_true] at h hb;have C:aK=[]:=length_eq_zero_iff.1 hb.2.2.2.2.2.2.2;subst C;refine⟨⟨λr h'=>?_,?_,oS,oS,oS⟩,oS,λt ht=>?_⟩
  .simp[dM,bf] at h';obtain⟨h1,rfl⟩:=h';split at h
   .rename_i hc;rw[eb] at h;exact jw (kE (by rw[h];exact hc.1))
   .rw[eb] at h;exact absurd h h1
  .simp[fY,bf]
  .simp[ep,bf] at ht
 by_cases h4:kind=4
 .subst h4;simp only[Int.reduceEq,if_false,if_true] at h hb;have C:aK=[]:=length_eq_zero_iff.1 hb.2.2.2.2.2.2.2;subst C;refine⟨⟨λr h'=>?_,?_,oS,oS,oS⟩,oS,λt ht=>?_⟩
  .simp[dM,bf] at h'
  .simp[fY,bf]
  .simp[ep,bf] at ht
 by_cases h5:kind=5
 .subst h5;simp[Int.reduceEq,if_false,if_true,aJ] at h hb;let⟨g1,g2,X,M⟩:=h;let⟨zH,KA,KB⟩:=KZ M;have J:=U X
  have hi:vK ins:=by
   cases hs:gl ko ins.op with
   |none=>rw[hs] at g1;simp at g1
   |some s=>rw[hs] at g2;exact PR hl (.inr (CH hs)) (QD g2)
  refine⟨⟨λr h'=>?_,?_,?_,λ_=>hi.ar,oS⟩,zH,λt ht=>?_⟩
  .simp[dM,bf] at h';exact hi.rd r h'
  .simp only[fY,if_true];exact hi.wr
  .dsimp only at zH ⊢;omega
  .simp[ep,kQ,bf] at ht;rcases ht with rfl|⟨w,C,rfl⟩|⟨h0,rfl⟩
   .exact J
   .exact KA w C
   .exact⟨h0,KB h0⟩
 by_cases h6:kind=6
 .subst h6;simp[Int.reduceEq,if_false,if_true,aJ,Bool.or_eq_true,eb,decide_eq_true_eq] at h hb;let⟨g1,g2,X,M,g5,g6⟩:=h;let⟨zH,KA,KB⟩:=KZ g6;have J:=U g5;have hv:=vg X;refine⟨⟨λr h'=>?_,?_,?_,oS,λ_=>?_⟩,zH,λt ht=>?_⟩
  .simp[dM,bf] at h';exact jw (hv r h')
  .simp only[fY,bf];rcases M with M|M
   .simp[M]
   .have:=jw (nE M);simp;omega
  .dsimp only at zH ⊢;omega
  .dsimp only;omega
  .simp[ep,kQ,bf] at ht;rcases ht with rfl|⟨w,C,rfl⟩|⟨h0,rfl⟩
   .exact J
   .exact KA w C
   .exact⟨h0,KB h0⟩
 by_cases h7:kind=7
 .subst h7;simp only[Int.reduceEq,if_false,if_true,aJ,eb,decide_eq_true_eq] at h hb;let⟨g1,g2,X,M,g5⟩:=h;have C:aK=[]:=length_eq_zero_iff.1 hb.2.2.2.2.2.2.2;subst C;have J:=U g5;have hv:=vg X;have HC:=jw (kE (l:=f.aj) (r:=a) oG);refine⟨⟨λr h'=>?_,?_,oS,oS,λ_=>?_⟩,oS,λt ht=>?_⟩
  .simp[dM,bf] at h';exact jw (hv r h')
  .simp only[fY,bf];simp;omega
  .dsimp only;omega
  .simp[ep,kQ,bf] at ht;subst ht;exact J
 by_cases h8:kind=8
 .subst h8;simp[Int.reduceEq,if_false,if_true,aJ,eb] at h hb;let⟨g1,g2,X,M,g5⟩:=h;let⟨zH,KA,KB⟩:=KZ g5;have J:=U X;have qg:=U M;have HC:=jw (kE (l:=f.aj) (r:=a) oG);have Pd:=jw (nE g2);refine⟨⟨λr h'=>?_,?_,?_,oS,oS⟩,zH,λt ht=>?_⟩
  .simp[dM,bf] at h';subst h';exact HC
  .simp[fY,bf];omega
  .dsimp only at zH ⊢;omega
  .simp[ep,kQ,bf] at ht;rcases ht with rfl|rfl|⟨w,C,rfl⟩|⟨h0,rfl⟩
   .exact J
   .exact qg
   .exact KA w C
   .exact⟨h0,KB h0⟩
 by_cases h9:kind=9
 .subst h9;simp only[Int.reduceEq,if_false,if_true,aJ,eb] at h hb;let⟨g1,g2,X⟩:=h;have C:aK=[]:=length_eq_zero_iff.1 hb.2.2.2.2.2.2.2;subst C;have J:=U X
  have HC:=jw (kE (l:=f.aj) (r:=a) (by
   rw[g2];intro e
   simp[se,e,g1] at hr))
  refine⟨⟨λr h'=>?_,?_,oS,oS,oS⟩,oS,λt ht=>?_⟩
  .simp[dM,bf] at h';subst h';exact HC
  .simp[fY,bf]
  .simp[ep,kQ,bf] at ht;subst ht;exact J
 .simp[h1,h2,h3,h4,h5,h6,h7,h8,h9] at h
section
variable{P:Program}{env:Env}{m:Mem}{nx:Nat}{x y:Operand}{t e:TypeId}{k:IntKind}
def ami{α:Type}{f:α->D}{l:List α}{b:Int}(hx:(opd env x).core=.sl (l.map f) l.length)(he:aT P t=e)(hs:P.cellsOf e=1)(hb:(opd env y).core=.s (.int .i64 b))(hc:bH P t=true)(C:0<=b/\b<=l.length):
 Ef P (.slice t x none (some y) none) env m nx ⟨True,.sl ((l.take b.toNat).map f) (l.take b.toNat).length,[],[],0⟩:=by
 have h:=CU (P:=P) (env:=env) (m:=m) (nx:=nx) (t:=t) (lo:=none) (hi:=some y) (a:=0) (b:=b) (es':=(l.take b.toNat).map f) hx he hs (by simp[gg]) (by simp[gg,hb,D.int?]) (by simp[map_take])
 have h2:(bH P t=true/\(0:Int)<=0/\(0:Int)<=b/\b<=(l.length:Int))=True:=by
  apply propext;constructor
  .exact λ_=>trivial
  .exact λ_=>⟨hc,oG,C.1,C.2⟩
 have J:(b - 0).toNat=(l.take b.toNat).length:=by rw[length_take];omega
 rw[h2,J] at h;exact h
def zP{i j sz:Nat}{C:List D}{r:Row}(J:j≠i)(hm:m j=some r)(h:Row.sub (dq i C sz) r=r):(if j=i then none else(m j).map (Row.sub (dq i C sz)))=some r:=by
 rw[ai J,hm];exact congrArg some h
def mq{i:Nat}{cs:List D}{l:List (Nat×D)}{ml:List (Nat×Row)}(hm:m i=some (.cells cs e))(hl:pG l λt=>sub (dq i cs (P.cellsOf e)) (env t))(C:IN ml λj=>if j=i then none else(m j).map (Row.sub (dq i cs (P.cellsOf e)))):aP P ⟨env,m,nx⟩ ⟨aD l,bA ml,nx⟩:=
 (aP.freeze env m nx i cs e hm).trans (bp hl C)
end
section
def hd6:∀ b1 b2 b3 b4 b5 b6:Bool,(if(if(if(if(if(!b1)=true then true else !b2)=true then true else !b3)=true then true else b4)=true then true else b5)=true then true else !b6)= !(b1&&(b2&&(b3&&(!b4&&(!b5&&b6))))):=by decide
def hd5:∀ b1 b2 b3 b4 b5:Bool,(if(if(if(if(!b1)=true then true else !b2)=true then true else !b3)=true then true else b4)=true then true else b5)= !(b1&&(b2&&(b3&&(!b4&& !b5)))):=by decide
def OM:∀ b1 b2 b3 b4:Bool,(if(if b1=true then true else b2)=true then true else if b3=true then !b4 else false)=(b1||(b2||(b3&& !b4))):=by decide
def ra(l:List Int):List (Value×D):=l.map λa=>(.int .i64 a,B true)
def RQ(a:Int):∀ l:List Int,(fF (.int .i64 a) (ra l)).map (·.2)=if(l.any (·==a))=true then some (B true) else none
 |[]=>rfl
 |b::l=>by
  have ih:=RQ a l;unfold ra at ih ⊢;simp only[map_cons,fF,tk,xu,any_cons,beq_self_eq_true,Bool.true_and] at ih ⊢;by_cases h:b=a
  .subst h;simp
  .have hb:(b==a)=false:=s0 h
   simp only[hb,Bool.false_eq_true,if_false,Option.map_map,Bool.false_or];exact ih
variable{P:Program}
def ao9{t:TypeId}(hz:rF P (qL P t)=B false)(a:Int)(l:List Int):lg P t false (fF (.int .i64 a) (ra l))=B (l.any (·==a)):=by
 have h:=RQ a l;cases h1:fF (.int .i64 a) (ra l) with
 |none=>
  rw[h1] at h;cases h2:l.any (·==a) with
  |true=>rw[h2] at h;simp at h
  |false=>simp[lg,hz]
 |some x=>
  rw[h1] at h;cases h2:l.any (·==a) with
  |false=>rw[h2] at h;simp at h
  |true=>rw[h2] at h;simp at h;simp[lg,h]
def ao'{a:Int}{l:List Int}(h:l.any (·==a)=false):mG (.int .i64 a) (B true) (ra l)=ra (l++[a]):=by
 have h1:=RQ a l;rw[h] at h1;unfold mG;cases h2:fF (.int .i64 a) (ra l) with
 |none=>simp[ra]
 |some x=>rw[h2] at h1;simp at h1
variable{kt:TypeId}
def aaP(hk:P.underlying kt=some (.int .i64))(l:List Int):(ra l).all (λe=>ew P kt e.1)=true:=by
 refine bK.2 λx hx=>?_;obtain⟨y,_,rfl⟩:=mem_map.1 hx;simp[ew,hk]
def ab3(hk:P.underlying kt=some (.int .i64))(a:Int):ew P kt (.int .i64 a)=true:=by simp[ew,hk]
def anX{i sz:Nat}{C:List D}(l:List Int):Row.sub (dq i C sz) (.map (ra l))=.map (ra l):=by
 show Row.map ((ra l).map _)=_;rw[ra,map_map];rfl
def agQ{bs:List bI}{k:Nat}{x:bI}(hx:bs[k]? =some x):lD bs (k+1)=if(x.fin.kind==7)=true then lD bs k++[x.fin.a] else lD bs k:=by
 unfold lD;rw[List.take_add_one,hx];by_cases h:(x.fin.kind==7)=true
 .simp[h]
 .simp[h]
end
def Po:prog.underlying 3=some (.int .i64):=kr
def arP:rF prog (qL prog 194)=B false:=kr
def Wf{f:az}:aH prog 97 [.agg (aL f)] (B (iX f)):=by
 have bE:∀ a∈[D.agg (aL f)],Tr a:=.cons (.agg (gS f)) .nil;refine bx (fo f97) bE (.s _) ?_;refine aA (ag ?_);refine af (br (gd (i:=0) (l:=[(1,.pt (aL f))]) rfl eH) (aA ?_));have UH:=UH (f:=f);refine SS ?_;refine cl UH ?_;refine SS ?_;refine dH (jV (cs':=bG _ _ _) rfl rfl rfl rfl) ak (eO V.h V.h bk (by rfl)) (af (br (gd (i:=1) (l:=[(1,.pt (aL f)),(3,.pt (bG P0 Q0 f))]) rfl eH) (aA ?_)));refine aX ?_;refine cJ ?_;refine ag ?_;refine af (br (jB (l:=[(1,.pt (aL f)),(3,.pt (bG P0 Q0 f)),(4,B (se f))]) ⟨rfl,rfl,congrArg B (OM (f.result==1) (f.result==2) (f.result==0) f.iter),aa⟩) (aG (al ?_)));have T2:iX f=(od f&&(sC f&&(rB f&&((range f.blocks.length).all (kD f)&&(range f.blocks.length).all (vq f))))):=rfl;rw[T2];have M:od f=(kZ f.name&&(eg f.args 0 (if(f.aj.length:Int)<6 then(f.aj.length:Int) else 6)&&(se f&&(!decide ((1200:Int)<f.aj.length)&&(!decide ((60:Int)<f.a6.length)&&eg f.blocks.length 1 1200))))):=rfl;generalize qJ:se f=EH at M ⊢;refine ag ?_;refine cl xD ?_;refine ek ?_;refine cF rfl rfl (acn rfl rfl) (λhc=>⟨ak,rfl⟩) (gc qj ?_);refine aX ?_;refine aX ?_;refine aQ ?_;refine gc qj ?_;refine ag ?_;refine af (cM rfl (λh=>?_) λh=>cI (aG (al ?_)))
 .have h:=(hd6 _ _ _ _ _ _).symm.trans h;rw[<- M] at h;have h:od f=false:=by simpa using h
  refine aG (al (SS ?_));refine af (de (aC (d:=B false) rfl ?_));rw[h];rfl
 have h:=(hd6 _ _ _ _ _ _).symm.trans h;rw[<- M] at h;have hh:od f=true:=by simpa using h
 rw[hh,Bool.true_and];rw[M] at hh;simp[aJ,kC,Bool.not_eq_true',decide_eq_false_iff_not] at hh;let⟨_,ha,hr,uH,U,dd⟩:=hh;subst hr;clear h M
 have uG:0<=f.args/\f.args<=f.aj.length/\f.args<=6:=by
  split at ha<;>omega
 have hK:sC f=(gk f.aj 3&&(gk (f.aj.take f.args.toNat) 2&&(gk f.a6 2&&(!decide ((6:Int)<f.signals.length)&& !f.signals.any λs=> !isName s)))):=rfl;have NP:=NP (l:=f.signals) (g:=127) (fs:=[]) (cs:=[]) (p:=λs=> !isName s) (.fn oS oS) (λx _=>awu);have ha2:0<=f.args/\f.args<=f.aj.length:=⟨uG.1,uG.2.1⟩
 refine ag ?_;refine cl UF ?_;refine cz ?_;refine cF rfl rfl (ami rfl OX c5 rfl GC ha2) (λhc=>⟨(by repeat' (first|exact trivial|exact hc|exact rfl|refine And.intro ?_ ?_)),aa⟩) ?_;refine gc UF ?_;refine bh ?_;refine gc UF ?_;refine aX ?_;refine ag ?_;refine gc NP ?_;refine SS ?_;refine af (cM rfl (λh=>?_) λh=>cI (aG (aA ?_)))
 .have h:=(hd5 _ _ _ _ _).symm.trans h;rw[<- hK] at h;have h:sC f=false:=s0 h
  refine aG (al (SS ?_));refine af (de (aC (d:=B false) rfl ?_));rw[h];rfl
 have h:=(hd5 _ _ _ _ _).symm.trans h;rw[<- hK] at h;have hh:sC f=true:=s0 h
 rw[hh,Bool.true_and];rw[hK] at hh;simp[aJ,Bool.not_eq_true',decide_eq_false_iff_not] at hh;let⟨_,_,rZ,hsg,_⟩:=hh;clear h hK NP;have hS:rB f=(range (f.signals.length - 1)).all (yx f.signals):=rfl;rw[hS];have nQ:f.signals.length<=6:=by omega
 refine SS ?_;refine af (cw (λs=>aP prog s ⟨aD [(1,.pt (aL f)),(3,.pt (bG P0 Q0 f))],λ_=>none,2⟩/\(range (f.signals.length - 1)).all (yx f.signals)=true) (cT (α:=Nat) (λk=>⟨aD [(1,.pt (aL f)),(3,.pt (bG P0 Q0 f)),(5,I (k+1:Nat))],λ_=>none,2⟩) (λk=>k<=f.signals.length - 1/\(range k).all (yx f.signals)=true) (λk=>f.signals.length - k) 0 (jB eH) ⟨Nat.zero_le _,rfl⟩ ?_) ?_)
 .rintro k ⟨hk,C⟩;refine bh ?_;refine af ⟨_,rfl,λh=>?_,λh=>?_⟩
  .have ao:k+1<f.signals.length:=by have:((k+1:Nat):Int)<f.signals.length:=by simpa using h
                                    omega
   have h1:f.signals[k]? =some f.signals[k]:=aO oG;have h2:f.signals[k+1]? =some f.signals[k+1]:=aO oG;have U:yx f.signals k=Op.bytesLess f.signals[k].toList f.signals[k+1].toList:=by rw[yx,getD_some h1,getD_some h2]
   generalize f.signals[k]=s1 at h1 U;generalize f.signals[k+1]=s2 at h2 U;have uu:((k+1:Nat):Int) - 1=(k:Int)/\ -9223372036854775808<=(k:Int)/\(k:Int)<=9223372036854775807:=by omega
   refine c6 iO (aX ?_);refine ag ?_;refine aI (abj rfl rfl) ak aa (bJ bM (aB rfl (λh=>?_) λh=>cB ?_))
   .have hf:yx f.signals k=false:=by rw[U];simpa using h
    refine ws (SS ?_);refine af (bj (bP (aY (aC (d:=B false) rfl ?_))));rw[py oG hf];rfl
   .have ht:yx f.signals k=true:=by rw[U];simpa using h
    refine ax ?_;exact af (aW (k+1) (jB eH) ⟨oG,mn C ht⟩ oG)
  .have bt:¬ k+1<f.signals.length:=by intro hh;simp at h;omega
   have:k=f.signals.length - 1:=by omega
   subst this;exact⟨jB eH,C⟩
 rintro s ⟨hg,C⟩;rw[C,Bool.true_and];clear C hS;refine⟨_,hg,aA ?_⟩;refine ag ?_;refine af (br (bp (l:=[(1,.pt (aL f)),(3,.pt (bG P0 Q0 f)),(6,.mp 2)]) (ml:=[(2,.map (ra []))]) eH eH) (aG (aA ?_)));refine aQ ?_;generalize hn:f.blocks.length=n at dd ⊢;refine af (cw (λs=>∃ N,aP prog s ⟨aD [(1,.pt (aL f)),(3,.pt (bG P0 Q0 f))],λ_=>none,N⟩/\(range n).all (kD f)=true) (eB (α:=Nat×Nat) (λk=>⟨aD [(1,.pt (aL f)),(3,.pt (bG P0 Q0 f)),(6,.mp 2),(123,dz f.blocks),(124,I n),(125,I k.1)],bA [(2,.map (ra (lD f.blocks k.1)))],k.2⟩) (λk=>k.1<=n/\(range k.1).all (kD f)=true/\3<=k.2) (λk=>n - k.1) (0,3) (bp eH eH) ⟨Nat.zero_le _,rfl,bY _⟩ ?_) ?_)
 .rintro⟨k,N⟩ ⟨hk,C,hN⟩;dsimp only at hk C hN ⊢;refine SS ?_;refine af ⟨_,rfl,λh=>?_,λh=>?_⟩
  .have ao:k<n:=by simpa using h
   have hx:f.blocks[k]? =some f.blocks[k]:=aO oG;generalize f.blocks[k]=x at hx;have J:kD f k=(gD f x.fin&&(!decide ((200:Int)<x.ins.length)&& !(x.fin.kind==7&&(lD f.blocks k).any (·==x.fin.a)))):=by rw[kD,getD_some hx]
   have fv:=agQ hx;have N2:=N2 (f:=f) (x:=x.fin);generalize lD f.blocks k=l at J fv;refine aA (aQ ?_);refine af (br (mq (i:=N) (l:=[(1,.pt (aL f)),(3,.pt (bG P0 Q0 f)),(6,.mp 2),(8,.pt (cE x)),(123,dz f.blocks),(124,I n),(125,I k)]) (ml:=[(2,.map (ra l))]) r9 ⟨rfl,rfl,rfl,nh,rfl,rfl,rfl,aa⟩ ⟨zP oG (ay oG (ay oG rfl)) (anX l),aa⟩) (aG (al ?_)));generalize gD f x.fin=e at N2 J;refine ax ?_;refine cl N2 ?_;refine ek ?_;refine af (cM rfl (λh=>?_) λh=>cI (al ?_))
   .have hf:kD f k=false:=by
     rw[J];cases e with
     |false=>rfl
     |true=>have:decide ((200:Int)<x.ins.length)=true:=by simpa using h
            rw[this];rfl
    refine aG (al (SS ?_));refine af (de (bP (aY (aC (d:=B false) rfl ?_))));rw[py ao hf];rfl
   have J:kD f k= !(x.fin.kind==7&&l.any (·==x.fin.a)):=by
    rw[J];cases e with
    |false=>simp at h
    |true=>have:decide ((200:Int)<x.ins.length)=false:=by simpa using h
           rw[this];rfl
   refine aQ ?_;refine af (aB rfl (λh7=>?_) λh7=>cB ?_)
   .rw[h7] at J fv;refine aG (al (aQ ?_));refine aI (QO rfl rfl rfl Tv (ao9 arP _ _)) aM ⟨Tw,ab3 Po _,aaP Po _⟩ (af (cM rfl (λh=>?_) λh=>cI (gj ?_)))
    .have hf:kD f k=false:=by rw[J,h];rfl
     refine aG (al (SS ?_));refine af (de (bP (aY (aC (d:=B false) rfl ?_))));rw[py ao hf];rfl
    .have ht:kD f k=true:=by rw[J,h];rfl
     refine aQ ?_;refine dH (IE rfl rfl rfl rfl Tv) aM ⟨Tw,ab3 Po _,aaP Po _⟩ (af (ag ?_));refine af (aW (k+1,_) (bp eH ⟨?_,aa⟩) ⟨oM,mn C ht,oM⟩ oM);dsimp only;rw[fv,bi rfl, <- ao' h];exact aw _ _ _
   .rw[h7] at J fv;refine ag ?_;refine af (aW (k+1,_) (bp eH ⟨?_,aa⟩) ⟨oM,mn C J,oM⟩ oM);dsimp only;rw[fv,ai oS];rfl
  .have bt:¬ k<n:=by simpa using h
   have:k=n:=by omega
   subst this;exact⟨N,jB eH,C⟩
 rintro s ⟨N,hg,C⟩;rw[C,Bool.true_and]
 have hE:∀ x∈f.blocks,NA f x.fin:=λx hx=>by
  let⟨k,hk⟩:=cV hx;have ao:k<n:=by rw[<- hn];exact(bQ.1 hk).1
  have:=bK.1 C k (by simpa using ao);rw[kD,getD_some hk] at this;simp only[aJ] at this;exact Rc oG qJ this.1
 have GP:=GP (f:=f) pU pV rfl rfl hn oG (λb h=>by have:=(hE b h).wh;omega) (λb h t ht=>hn▸(hE b h).to t (PS.1 ht));refine⟨_,hg,al ?_⟩;refine SS ?_;refine cl GP ?_;refine SS ?_;refine af (aG (aA (aQ ?_)));refine af (cw (λs=>(range n).all (vq f)=true) (eB (α:=Nat×Nat) (λk=>⟨aD [(1,.pt (aL f)),(3,.pt (bG P0 Q0 f)),(9,cr (o0 f.blocks)),(157,dz f.blocks),(158,I n),(159,I k.1)],λ_=>none,k.2⟩) (λk=>k.1<=n/\(range k.1).all (vq f)=true) (λk=>n - k.1) (0,N) (jB ⟨rfl,rfl,rfl,rfl,congrArg (λk:Nat=>I k) hn,rfl,aa⟩) ⟨Nat.zero_le _,rfl⟩ ?_) ?_)
 .rintro⟨k,N⟩ ⟨hk,C⟩;dsimp only at hk C ⊢;refine SS ?_;refine af ⟨_,rfl,λh=>?_,λh=>?_⟩
  .have ao:k<n:=by simpa using h
   have hx:f.blocks[k]? =some f.blocks[k]:=aO oG;have dW:f.blocks[k]∈f.blocks:=eh _;generalize f.blocks[k]=x at hx dW;have hA:=XJ hn ao;have tG:vq f k=(range x.ins.length).all (vo f k x.ins):=by rw[vq,getD_some hx]
   have X:∀ j,vo f k x.ins j=kG f k (x.ins.getD j eR) ((x.ins.take (j+1)).all c8) (cY f.blocks n k).length:=λj=>by rw[vo,hn]
   generalize cY f.blocks n k=A at hA X;refine aA (cz ?_);refine af (br (gd (i:=N) (l:=[(1,.pt (aL f)),(3,.pt (bG P0 Q0 f)),(9,cr (o0 f.blocks)),(10,I k),(11,.pt (cE x)),(157,dz f.blocks),(158,I n),(159,I k)]) r9 ⟨rfl,rfl,rfl,rfl,nh,rfl,rfl,rfl,aa⟩) (al ?_));refine SS ?_;refine af (aA (aQ ?_))
   have eS:x.ins.length<=200:=by
    have:=bK.1 ‹(range n).all (kD f)=true› k (by simpa using ao);rw[kD,getD_some hx] at this;simp only[aJ,Bool.not_eq_true',decide_eq_false_iff_not] at this;omega
   refine af (eB (α:=Nat×Nat) (λj=>⟨aD [(1,.pt (aL f)),(3,.pt (bG P0 Q0 f)),(9,cr (o0 f.blocks)),(10,I k),(12,B ((x.ins.take j.1).all c8)),(157,dz f.blocks),(158,I n),(159,I k),(165,jo x.ins),(166,I x.ins.length),(167,I j.1)],λ_=>none,j.2⟩) (λj=>j.1<=x.ins.length/\(range j.1).all (vo f k x.ins)=true) (λj=>x.ins.length - j.1) (0,N+1) (jB eH) ⟨Nat.zero_le _,rfl⟩ ?_);rintro⟨j,N⟩ ⟨hj,Tx⟩;dsimp only at hj Tx ⊢;refine SS ?_;refine af ⟨_,rfl,λh=>?_,λh=>?_⟩
   .have cW:j<x.ins.length:=by simpa using h
    have hy:x.ins[j]? =some x.ins[j]:=aO cW;generalize x.ins[j]=y at hy;have eV:(x.ins.take (j+1)).all c8=((x.ins.take j).all c8&&c8 y):=by rw[take_add_one,hy,all_append];simp
    have X:=X j;rw[getD_some hy] at X;generalize (x.ins.take j).all c8=ph at eV;refine aA (aQ ?_);refine af (br (gd (i:=N) (l:=[(1,.pt (aL f)),(3,.pt (bG P0 Q0 f)),(9,cr (o0 f.blocks)),(10,I k),(12,B ph),(14,.pt (bU y)),(157,dz f.blocks),(158,I n),(159,I k),(165,jo x.ins),(166,I x.ins.length),(167,I j)]) r9 ⟨rfl,rfl,rfl,rfl,rfl,nh,rfl,rfl,rfl,rfl,rfl,rfl,aa⟩) (aA ?_));refine ek ?_;refine af (br (jB (l:=[(1,.pt (aL f)),(3,.pt (bG P0 Q0 f)),(9,cr (o0 f.blocks)),(10,I k),(12,B ((x.ins.take (j+1)).all c8)),(14,.pt (bU y)),(157,dz f.blocks),(158,I n),(159,I k),(165,jo x.ins),(166,I x.ins.length),(167,I j)]) ⟨rfl,rfl,rfl,rfl,?_,rfl,rfl,rfl,rfl,rfl,rfl,rfl,aa⟩) (c6 iO ?_))
    .rw[eV];cases ph<;>rfl
    have N5:=N5 (f:=f) (b:=(k:Int)) (ahead:=(A.length:Int)) (x:=y) (phis:=(x.ins.take (j+1)).all c8);rw[<- X] at N5;refine aX ?_;refine ag ?_;refine bJ bM (aB rfl (λh=>?_) λh=>cB ?_)
    .have hf:vo f k x.ins j=false:=by simpa using h
     refine ws (SS ?_);refine af (bj (bP (bP (aY (aC (d:=B false) rfl ?_)))));rw[py ao (by rw[tG];exact py cW hf)]
    .have ht:vo f k x.ins j=true:=by simpa using h
     refine ag ?_;exact af (aW (j+1,_) (jB eH) ⟨oM,mn Tx ht⟩ oM)
   .have bt:¬ j<x.ins.length:=by simpa using h
    have J4:j=x.ins.length:=by omega
    subst J4;show aE _ _ _ _ _ _ _ _ _;refine ag ?_;exact af (aW (k+1,_) (jB eH) ⟨oM,mn oN (tG.trans Tx)⟩ oM)
  .have bt:¬ k<n:=by simpa using h
   have:k=n:=by omega
   subst this;show(range k).all (vq f)=true
   assumption
 .rintro⟨env,m,nx⟩ C;refine⟨_,.refl _,al ?_⟩;refine SS ?_;refine af (aC (d:=B true) rfl ?_);rw[C]
end Go.Abs
end
