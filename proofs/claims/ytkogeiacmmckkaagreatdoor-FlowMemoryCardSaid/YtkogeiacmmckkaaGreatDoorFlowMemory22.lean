/- Part 22. -/
import Derived.Test.YtkogeiacmmckkaaGreatDoorFlowMemory4
import Derived.Test.YtkogeiacmmckkaaGreatDoorFlowMemory9
import Derived.Test.YtkogeiacmmckkaaGreatDoorFlowMemory18
import Derived.Test.YtkogeiacmmckkaaGreatDoorFlowMemory19
import Derived.Test.YtkogeiacmmckkaaGreatDoorFlowMemory21
import Derived.Lib.ItoaNum
import Derived.Lib.Join
set_option linter.all false
set_option maxHeartbeats 16000000
set_option maxRecDepth 10000
section
open Go Go.Abs Go.Proofs Go.Argus
namespace Go.Argus
def oX(b:bp)(w:Nat):List D:=fg b.ins::Ru b.fin (.rs w 0 b.fin.aD.length)
def oK(l:List bp)(w:Nat->Nat)(k:Nat):List D:=(List.range k).flatMap fun i=>oX (l.getD i mL) (w i)
structure BY(M:Mem)(lo hi:Nat)(l:List bp)(w:Nat->Nat)(k:Nat):Prop where
 s1:∀ i,i<k->lo<=w i/\w i<hi
 s2:∀ i j,i<j->j<k->w i<w j
 mw:∀ (i:Nat) b,l[i]? =some b->i<k->M (w i)=some (.cells (b.fin.aD.flatMap dQ) 82)
theorem BY.mono{M C:Mem}{lo hi J:Nat}{l:List bp}{w:Nat->Nat}{k:Nat}(h:BY M lo hi l w k)(hm:∀ j,lo<=j->j<hi->C j=M j)(hh:hi<=J):BY C lo J l w k:=
 ⟨fun i hi=>by have:=h.s1 i hi;omega,h.s2,fun i b hb hi=>by have:=h.s1 i hi;rw[hm _ oG oG];exact h.mw i b hb hi⟩
theorem BY.zero{M:Mem}{lo hi:Nat}{l:List bp}{w:Nat->Nat}:BY M lo hi l w 0:=⟨fun i h=>by omega,fun i j _ h=>by omega,fun i b _ h=>by omega⟩
theorem BY.snoc{M:Mem}{lo hi C q:Nat}{l:List bp}{w:Nat->Nat}{k:Nat}{b:bp}(h:BY M lo hi l w k)(hb:l[k]? =some b)(h0:lo<=hi)(h1:hi<=q)(O:q<C)(hq:M q=some (.cells (b.fin.aD.flatMap dQ) 82)):BY M lo C l (up w k q) (k+1):=by
 refine⟨fun i hi=>?_,fun i j J hj=>?_,fun i c hc hi=>?_⟩
 .by_cases e:i=k
  .subst e;rw[ai];omega
  .rw[aA _ _ e];have:=h.s1 i oG;omega
 .rw[aA w _ (by omega:i≠k)];have U:=h.s1 i oG;by_cases e:j=k
  .subst e;rw[ai];omega
  .rw[aA _ _ e];exact h.s2 i j J oG
 .by_cases e:i=k
  .subst e;rw[ai];rw[hb] at hc;cases hc;exact hq
  .rw[aA _ _ e];exact h.mw i c hc oG
theorem Yq{l:List bp}{w:Nat->Nat}{k q:Nat}{b:bp}(hb:l[k]? =some b):oK l (up w k q) (k+1)=oK l w k++oX b q:=by
 unfold oK;rw[List.range_succ,List.flatMap_append];congr 1
 .refine Ei fun i hi=>?_;have:i≠k:=by have:=List.mem_range.1 hi;omega
  rw[aA _ _ this]
 .simp[ai,hb,dN]
theorem ZA(l:List bp)(w:Nat->Nat)(k:Nat):(oK l w k).length=k*16:=by
 unfold oK;rw[List.length_flatMap];simp[oX,Ru]
 induction k with
 |zero=>rfl
 |succ k ih=>rw[List.range_succ,List.map_append,List.sum_append,ih];simp;omega
def fx(f:aU)(a g x:D):List D:=[S f.name,B f.iter,I f.args,U8 f.result,a,ej f.bz,g,x]
def fh(x:End)(a h:D):List D:=[U8 x.kind,I x.a,I x.b,I x.to,I x.gX,S x.name,U8 x.ins.op,I x.ins.to,I x.ins.a,I x.ins.b,I x.ins.n,az x.ins.args,a,h,I x.others]
def j9(b:bp)(s a w:Nat):List D:=.rs s 0 b.ins.length::fh b.fin (.rs a 0 b.fin.args.length) (.rs w 0 b.fin.aD.length)
def oL(l:List bp)(s a w:Nat->Nat)(k:Nat):List D:=(List.range k).flatMap fun i=>j9 (l.getD i mL) (s i) (a i) (w i)
def rR(l:List bp)(w:Nat->Nat)(k:Nat):List D:=((List.range l.length).drop k).flatMap fun i=>oX (l.getD i mL) (w i)
theorem Yr{l:List bp}{w:Nat->Nat}{k:Nat}{b:bp}(hb:l[k]? =some b):rR l w k=oX b (w k)++rR l w (k+1):=by
 have hk:k<l.length:=(bU.1 hb).1;unfold rR;rw[List.drop_eq_getElem_cons (by simpa using hk),List.flatMap_cons,List.getElem_range,show l.getD k mL=b by simp[dN,hb]]
theorem ZB{l:List bp}{w:Nat->Nat}:rR l w l.length=[]:=by
 unfold rR;rw[List.drop_eq_nil_of_le oS];rfl
theorem Ys{l:List bp}{s a w:Nat->Nat}{k p q:Nat}{b:bp}(hb:l[k]? =some b):oL l (up s k p) (up a k q) w (k+1)=oL l s a w k++j9 b p q (w k):=by
 unfold oL;rw[List.range_succ,List.flatMap_append];congr 1
 .refine Ei fun i hi=>?_;have:i≠k:=by have:=List.mem_range.1 hi;omega
  rw[aA _ _ this,aA _ _ this]
 .simp[ai,hb,dN]
theorem ZD(l:List bp)(s a w:Nat->Nat)(k:Nat):(oL l s a w k).length=k*16:=by
 unfold oL;rw[List.length_flatMap];simp[j9,fh]
 induction k with
 |zero=>rfl
 |succ k ih=>rw[List.range_succ,List.map_append,List.sum_append,ih];simp;omega
structure XB(M:Mem)(L hi:Nat)(l:List bp)(p s a:Nat->Nat)(t:Nat->Nat->Nat)(k:Nat):Prop where
 b1:∀ i,i<k->L<=p i/\p i<=s i/\s i<a i/\a i<hi
 b2:∀ i j,i<j->j<k->a i<p j
 bs:∀ (i:Nat) b,l[i]? =some b->i<k->M (s i)=some (.cells (mV b.ins (t i) b.ins.length) 45)
 bt:∀ (i:Nat) b,l[i]? =some b->i<k->TR M (p i) (s i) b.ins (t i) b.ins.length
 ba:∀ (i:Nat) b,l[i]? =some b->i<k->M (a i)=some (.cells (b.fin.args.map I) 3)
theorem XB.zero{M:Mem}{L hi:Nat}{l:List bp}{p s a:Nat->Nat}{t:Nat->Nat->Nat}:XB M L hi l p s a t 0:=⟨fun i h=>by omega,fun i j _ h=>by omega,fun i b _ h=>by omega,fun i b _ h=>by omega,fun i b _ h=>by omega⟩
theorem XB.mono{M C:Mem}{L hi J:Nat}{l:List bp}{p s a:Nat->Nat}{t:Nat->Nat->Nat}{k:Nat}(h:XB M L hi l p s a t k)(hm:∀ j,L<=j->j<hi->C j=M j)(hh:hi<=J):XB C L J l p s a t k:=by
 refine⟨fun i hi=>by have:=h.b1 i hi;omega,h.b2,fun i b hb hi=>?_,fun i b hb hi=>?_,fun i b hb hi=>?_⟩
 .have:=h.b1 i hi;rw[hm _ oG oG];exact h.bs i b hb hi
 .have:=h.b1 i hi;exact(h.bt i b hb hi).mono (fun j h1 h2=>hm j oG oG) (a6 _)
 .have:=h.b1 i hi;rw[hm _ oG oG];exact h.ba i b hb hi
theorem XB.snoc{M:Mem}{L hi J C s0 a0:Nat}{l:List bp}{p s a t0:Nat->Nat}{t:Nat->Nat->Nat}{k:Nat}{b:bp}(h:XB M L hi l p s a t k)(hb:l[k]? =some b)(h0:L<=hi)(h1:hi<=C)(h2:C<=s0)(U:s0<a0)(X:a0<J)
 (hs:M s0=some (.cells (mV b.ins t0 b.ins.length) 45)) (ht:TR M C s0 b.ins t0 b.ins.length) (ha:M a0=some (.cells (b.fin.args.map I) 3)):XB M L J l (up p k C) (up s k s0) (up a k a0) (up t k t0) (k+1):=by
 refine⟨fun i hi=>?_,fun i j O hj=>?_,fun i c hc hi=>?_,fun i c hc hi=>?_,fun i c hc hi=>?_⟩
 .by_cases e:i=k
  .subst e;rw[ai,ai,ai];omega
  .rw[aA _ _ e,aA _ _ e,aA _ _ e];have:=h.b1 i oG;omega
 .rw[aA a _ (by omega:i≠k)];have h5:=h.b1 i oG;by_cases e:j=k
  .subst e;rw[ai];omega
  .rw[aA _ _ e];exact h.b2 i j O oG
 .by_cases e:i=k
  .subst e;rw[ai,ai];rw[hb] at hc;cases hc;exact hs
  .rw[aA _ _ e,aA _ _ e];exact h.bs i c hc oG
 .by_cases e:i=k
  .subst e;rw[ai,ai,ai];rw[hb] at hc;cases hc;exact ht
  .rw[aA _ _ e,aA _ _ e,aA _ _ e];exact h.bt i c hc oG
 .by_cases e:i=k
  .subst e;rw[ai];rw[hb] at hc;cases hc;exact ha
  .rw[aA _ _ e];exact h.ba i c hc oG
structure RX(M:Mem)(i g j q lo:Nat)(f:aU)(w:Nat->Nat)(rs:List D)(bs:List D):Prop where
 r2:M 4=some (.cells ln 26)
 rg:M q=some (.cells (fx f (.rs i 0 f.al.length) (.rs g 0 f.signals.length) (.rs j 0 f.blocks.length)) 26)
 ri:M i=some (.cells rs 5)
 rh:M g=some (.cells (f.signals.map S) 9)
 rj:M j=some (.cells bs 69)
 HN:BY M lo j f.blocks w f.blocks.length
 o1:4<i
 o2:i<g
 o3:g<lo
 o4:lo<=j
 o5:j<q
theorem RX.mono{M C:Mem}{i g j q lo:Nat}{f:aU}{w:Nat->Nat}{rs bs:List D}(h:RX M i g j q lo f w rs bs)(hm:∀ k,k<=q->C k=M k):RX C i g j q lo f w rs bs:=by
 have h1:=h.o1;have h2:=h.o2;have J:=h.o3;have O:=h.o4;have U:=h.o5;exact⟨by rw[hm _ oG];exact h.r2,by rw[hm _ oG];exact h.rg,by rw[hm _ oG];exact h.ri,by rw[hm _ oG];exact h.rh,by rw[hm _ oG];exact h.rj,h.HN.mono (fun k _ hk=>hm k oG) (a6 _),h1,h2,J,O,U⟩
theorem RX.Nv{M:Mem}{i g j q lo:Nat}{f:aU}{w:Nat->Nat}{rs C bs:List D}(h:RX M i g j q lo f w rs bs):RX (up M i (some (.cells C 5))) i g j q lo f w C bs:=by
 have h1:=h.o1;have h2:=h.o2;have J:=h.o3;have O:=h.o4;have U:=h.o5;exact⟨ah oG h.r2,ah oG h.rg,ai _ _ _,ah oG h.rh,ah oG h.rj,h.HN.mono (fun k _ hk=>aA _ _ oG) (a6 _),h1,h2,J,O,U⟩
theorem RX.pw{M:Mem}{i g j q lo:Nat}{f:aU}{w:Nat->Nat}{rs C bs:List D}(h:RX M i g j q lo f w rs bs):RX (up M j (some (.cells C 69))) i g j q lo f w rs C:=by
 have h1:=h.o1;have h2:=h.o2;have J:=h.o3;have O:=h.o4;have U:=h.o5;exact⟨ah oG h.r2,ah oG h.rg,ah oG h.ri,ah oG h.rh,ai _ _ _,h.HN.mono (fun k _ hk=>aA _ _ oG) (a6 _),h1,h2,J,O,U⟩
structure KX(M:Mem)(L n s0:Nat)(l:List bp)(p s a:Nat->Nat)(t:Nat->Nat->Nat)(k:Nat)(il:List bn)(N:Nat)(t0:Nat->Nat):Prop where
 hX:XB M L n l p s a t k
 hs:M s0=some (.cells (mV il t0 N) 45)
 ht:TR M n s0 il t0 N
 o1:L<=n
 o2:n<=s0
theorem KX.up{M:Mem}{L n s0 j:Nat}{r:Option Row}{l:List bp}{p s a:Nat->Nat}{t:Nat->Nat->Nat}{k:Nat}{il:List bn}{N:Nat}{t0:Nat->Nat}(h:KX M L n s0 l p s a t k il N t0)(hj:j<L):KX (Abs.up M j r) L n s0 l p s a t k il N t0:=by
 have h1:=h.o1;have h2:=h.o2;exact⟨h.hX.mono (fun i hi _=>aA _ _ oG) (a6 _),(aA _ _ oG).trans h.hs,h.ht.mono (fun i hi _=>aA _ _ oG) (a6 _),h1,h2⟩
def H3:List D->List D->Prop
 |[],[]=>True
 |a::xs,b::ys=>Wk a b/\H3 xs ys
 |_,_=>False
theorem JT:∀ {xs ys:List D},H3 xs ys->ys.length=xs.length/\∀ (k:Nat) (d d':D),xs[k]? =some d->ys[k]? =some d'->Wk d d'
 |[],[],_=>⟨rfl,fun k d d' h=>by simp at h⟩
 |a::xs,b::ys,h=>by
  obtain⟨h1,h2⟩:=JT h.2;refine⟨by simp[h1],fun k d d' hd C=>?_⟩;cases k with
  |zero=>simp at hd C;subst hd C;exact h.1
  |succ k=>simp at hd C;exact h2 k d d' hd C
end Go.Argus
namespace Go.Proofs.Tryz.K
theorem adD{b:bp}{m:Mem}{nx:Nat}(h:vQ b):dB prog 177 [.agg (bi b)] m nx fun r m' an=>∃ w,nx<=w/\w<an/\r=.agg (oX b w)/\m' w=some (.cells (b.fin.aD.flatMap dQ) 82)/\∀ k,k<nx->m' k=m k:=by
 obtain⟨h1,h2,X,h4,h5⟩:=h;have oW:=oW (l:=b.ins) (g:=178) (fs:=[]) (cs:=[]) (p:=fun x=>x) oG (.fn oS oS) (fun x hx=>UZ (h2 x hx));rw[List.map_id'] at oW;have kA:=pv (l:=b.fin.args) X;have kI:=pv (l:=b.fin.ins.args) h5;have kW:=TM (l:=b.fin.aD) h4;refine lF TN ?_;rw[TO];refine ws ?_;refine ab ?_;refine aa ?_;refine cL (fun st=>∃ M:Mem,M nx=some (.cells (bi b) 69)/\M (nx+1)=some (.cells vm 69)/\(∀ k,k<nx->M k=m k)/\aC prog st ⟨ay [(1,.rp nx 0),(2,.rp (nx+1) 0)],M,nx+1+1⟩) (gq ?_) ?_
 .have af:∀ {a},up (up m nx (some (.cells (bi b) 69))) (nx+1) a nx=some (.cells (bi b) 69):=ah oG (ai _ _ _);refine ab ?_;refine oF oW rfl aO ?_;refine SS ?_;refine bD (di (d:=.sl _ _) (cs':=bi b) rfl rfl af rfl rfl) aO (bN t67 wH ⟨rfl,bf rfl⟩ rfl) ?_;refine aa ⟨_,ai _ _ _,?_,?_,ao eH⟩
  .repeat (first|exact ai _ _ _|refine ah oG ?_)
  .intro k hk
   repeat (first|exact rfl|refine ah oG ?_)
 rintro st ⟨M,J,O,U,C⟩;refine⟨_,C,?_⟩;clear C oW;refine cL (fun st=>∃ M:Mem,M nx=some (.cells (oX b (nx+1+1)) 69)/\M (nx+1)=some (.cells vm 69)/\M (nx+1+1)=some (.cells (b.fin.aD.flatMap dQ) 82)/\(∀ k,k<nx->M k=m k)/\aC prog st ⟨ay [(1,.rp nx 0),(2,.rp (nx+1) 0)],M,nx+1+1+1⟩) (BV Po ?_) ?_
 .have af:=J;have kd:(bi b).drop (0+1+6+5)=az b.fin.ins.args::(bE b.fin).drop 12:=rfl;refine bj ?_;refine oF kI rfl aO ?_;have kd:(bi b).drop (0+1+12)=az b.fin.args::(bE b.fin).drop 13:=rfl;refine aJ ?_;refine oF kA rfl aO ?_;have kd:(bi b).drop (0+1+13)=jB b.fin.aD::(bE b.fin).drop 14:=rfl;refine aJ ?_;refine rP kW rfl aO ?_;have af:∀ {a},up M (nx+1+1) a nx=_:=ah oG J;refine aJ ?_;refine bD (di (d:=.sl _ _) (cs':=bi b) rfl rfl af rfl rfl) aO (bN t35 qX ⟨rfl,bf rfl⟩ rfl) ?_;have af:∀ {M:Mem} {c},up M nx c nx=c:=ai _ _ _;refine ab ?_;refine bD (di (d:=.sl _ _) (cs':=bi b) rfl rfl af rfl rfl) aO (bN t35 qX ⟨rfl,bf rfl⟩ rfl) ?_;refine ab ?_;refine bD (di (d:=.rs _ _ _) (cs':=oX b (nx+1+1)) rfl rfl af rfl rfl) aO (bN t46 HM ⟨rfl,bf rfl⟩ rfl) ?_;refine cG (by simp[mF];try omega) ⟨_,ai _ _ _,?_,?_,?_,ao eH⟩
  .repeat (first|exact O|refine ah oG ?_)
  .repeat (first|exact ai _ _ _|refine ah oG ?_)
  .intro k hk
   repeat (first|exact U k hk|refine ah oG ?_)
 clear J O U;rintro st ⟨M,J,O,q5,U,C⟩;refine⟨_,C,ap ?_⟩;clear C;refine au (dI (vs:=oX b (nx+1+1)) rfl J HI sG rfl) aO (dJ t69 sG (bf rfl)) ?_;refine bD (eI (cs':=oX b (nx+1+1)) rfl rfl O rfl) aO (bN t69 sG ⟨rfl,bf rfl⟩ rfl) ?_;refine aa (lh (iM (cs:=oX b (nx+1+1)) (vs:=oX b (nx+1+1)) rfl (ai _ _ _) HI sG rfl t69 (bf rfl)) ⟨nx+1+1,oG,Nat.lt_succ_self _,rfl,?_,?_⟩)
 .dsimp only
  repeat (first|exact q5|refine ah oG ?_)
 .intro k hk;dsimp only
  repeat (first|exact U k hk|refine ah oG ?_)
theorem adE{l:List bp}{O:Mem}{C:Nat}(hl:l.length<=100000)(hg:∀ b∈l,vQ b):dB prog 176 [cF l,.fn (.func 177) [] []] O C fun d m' an=>∃ r w,C<=r/\r<an/\d=.rs r 0 l.length/\m' r=some (.cells (oK l w l.length) 69)/\BY m' C r l w l.length/\∀ k,k<C->m' k=O k:=by
 refine lF TP ?_;rw[TQ];refine ws ?_;refine SS ?_;refine aa (aI ?_);refine SS ?_;refine aa ⟨_,.mE _ _ _ 5 69 rfl,aX (aI ?_)⟩;refine aJ ?_
 refine aa (c6 (fun st=>∃ r w m nx,C<=r/\r<nx/\m r=some (.cells (oK l w l.length) 69)/\BY m C r l w l.length/\(∀ k,k<C->m k=O k)/\aC prog st ⟨ay [(5,.rs r 0 l.length)],m,nx⟩) (cZ (α:=Nat×Nat×(Nat->Nat)×Mem×Nat)
  (fun s=>⟨ay [(1,.fn (.func 177) [] []),(5,.rs s.2.1 0 s.1),(8,cF l),(9,I l.length),(10,I s.1)],s.2.2.2.1,s.2.2.2.2⟩)
  (fun s=>s.1<=l.length/\C<=s.2.1/\s.2.1<s.2.2.2.2/\s.2.2.2.1 s.2.1=some (.cells (oK l s.2.2.1 s.1) 69)/\BY s.2.2.2.1 C s.2.1 l s.2.2.1 s.1/\∀ k,k<C->s.2.2.2.1 k=O k) (fun s=>l.length - s.1) (0,C,fun _=>0,_,_)
  (ao eH) ⟨Nat.zero_le _,a6 _,Nat.lt_succ_self _,ai _ _ _,BY.zero,fun k hk=>aA _ _ oG⟩ ?_) ?_)
 .rintro⟨j,r,w,m,nx⟩ ⟨hj,U,hr,af,J,hm⟩;dsimp only at hj U hr af J hm ⊢;refine SS ?_;refine aa ⟨_,rfl,fun h=>?_,fun h=>?_⟩
  .have c8:j<l.length:=by simpa using h
   clear h;obtain⟨x,hx⟩:∃ x,l[j]? =some x:=⟨_,bx c8⟩
   have hS:=hg x (cX hx);have kX:=ZA l w j;refine ws ?_;refine bj ?_;refine aa (fv ?_);refine aJ ?_;refine fU (adD hS) rfl aO ?_;rintro d M an ⟨q,h1,h3,rfl,h5,X⟩;dsimp only[St.put];refine SS ?_;have Nw:M r=some (.cells (oK l w j) 69):=(X r oG).trans (ah oG (ah oG af));have hM:∀ k,k<nx->M k=m k:=fun k hk=>(X k oG).trans ((aA _ _ oG).trans (aA _ _ oG));refine lZ (lN rfl (ah oG Nw) rfl Ns sG (sT (ai _ _ _) rfl) rfl) aO ⟨Mm,rfl,bf rfl,oC,by rw[kX];omega,by unfold maxLen;omega,by rw[Nt];omega,by simp;omega⟩ ?_;refine SS ?_;refine aa ?_;refine ab ?_;refine aa (bQ (j+1,an+1,up w j q,_,_) (ao eH) ⟨oM,oM,Nat.lt_succ_self _,?_,?_,?_⟩ oM)
   .dsimp only;rw[Yq hx];exact ai _ _ _
   .dsimp only;refine BY.snoc (hi:=r) (J.mono (fun i h7 h8=>?_) (a6 _)) hx oG oG oG ?_
    .exact(aA _ _ oG).trans ((aA _ _ oG).trans ((aA _ _ oG).trans (hM i oG)))
    .exact ah oG (ah oG (ah oG h5))
   .intro k hk;dsimp only;exact(aA _ _ oG).trans ((aA _ _ oG).trans ((aA _ _ oG).trans ((hM k oG).trans (hm k hk))))
  .have bC:¬ j<l.length:=by simpa using h
   have:j=l.length:=by omega
   subst this;exact⟨r,w,m,nx,U,hr,af,J,hm,ao eH⟩
 .rintro st ⟨r,w,m,nx,U,hr,af,J,hm,bh⟩;refine⟨_,bh,ap ?_⟩;refine ab ?_;exact aa (aN rfl ⟨r,w,U,hr,rfl,af,J,hm⟩)
theorem adF{f:aU}{m:Mem}{nx:Nat}(h1:f.al.length<=100000)(h2:f.bz.length<=100000)(h3:f.signals.length<=100000)(h4:f.blocks.length<=100000)(h5:∀ b∈f.blocks,vQ b):
 dB prog 102 [.agg (aF f)] m nx fun d m' an=>∃ i g r w lo,nx<=i/\i<g/\g<lo/\lo<=r/\r<an/\d=.agg (fx f (.rs i 0 f.al.length) (.rs g 0 f.signals.length) (.rs r 0 f.blocks.length))/\m' i=some (.cells (f.al.map U8) 5)/\m' g=some (.cells (f.signals.map S) 9)/\m' r=some (.cells (oK f.blocks w f.blocks.length) 69)/\BY m' lo r f.blocks w f.blocks.length/\∀ k,k<nx->m' k=m k:=by
 have kR:=La (l:=f.al) h1;have kS:=UY (l:=f.bz) h2;have kG:=TL (l:=f.signals) h3;refine lF TS ?_;rw[TT];refine ws ?_;refine ab ?_;refine aa ?_;refine cL (fun st=>∃ M:Mem,M nx=some (.cells (fx f (.rs (nx+1+1) 0 f.al.length) (.rs (nx+1+1+1) 0 f.signals.length) (cF f.blocks)) 26)/\M (nx+1)=some (.cells ln 26)/\M (nx+1+1)=some (.cells (f.al.map U8) 5)/\M (nx+1+1+1)=some (.cells (f.signals.map S) 9)/\(∀ k,k<nx->M k=m k)/\aC prog st ⟨ay [(1,.rp nx 0),(2,.rp (nx+1) 0)],M,nx+1+1+1+1⟩) (BV Pp ?_) ?_
 .have af:∀ {a},up (up m nx (some (.cells (aF f) 26))) (nx+1) a nx=some (.cells (aF f) 26):=ah oG (ai _ _ _);refine ab ?_;refine rP kR rfl aO ?_;have af:∀ {a b},up (up (up m nx (some (.cells (aF f) 26))) (nx+1) a) (nx+1+1) b nx=some (.cells (aF f) 26):=ah oG (ah oG (ai _ _ _));refine ab ?_;refine oF kS rfl aO ?_;refine ab ?_;refine rP kG rfl aO ?_;have af:∀ {a b c},up (up (up (up m nx (some (.cells (aF f) 26))) (nx+1) a) (nx+1+1) b) (nx+1+1+1) c nx=some (.cells (aF f) 26):=ah oG (ah oG (ah oG (ai _ _ _)));refine SS ?_;refine bD (di (d:=.rs _ _ _) (cs':=headD f (cF f.blocks) (.rs (nx+1+1) 0 f.al.length)) rfl rfl af rfl rfl) aO (bN t22 Ny ⟨rfl,bf rfl⟩ rfl) ?_;have af:∀ {M:Mem} {c},up M nx c nx=c:=ai _ _ _;refine SS ?_;refine bD (di (d:=.sl _ _) (cs':=headD f (cF f.blocks) (.rs (nx+1+1) 0 f.al.length)) rfl rfl af rfl rfl) aO (bN t22 Ny ⟨rfl,bf rfl⟩ rfl) ?_;refine SS ?_;refine bD (di (d:=.rs _ _ _) (cs':=fx f (.rs (nx+1+1) 0 f.al.length) (.rs (nx+1+1+1) 0 f.signals.length) (cF f.blocks)) rfl rfl af rfl rfl) aO (bN t23 Wn ⟨rfl,bf rfl⟩ rfl) ?_;refine cG (by simp[mF];try omega) ⟨_,ai _ _ _,?_,?_,?_,?_,ao eH⟩
  .repeat (first|exact ai _ _ _|refine ah oG ?_)
  .repeat (first|exact ai _ _ _|refine ah oG ?_)
  .repeat (first|exact ai _ _ _|refine ah oG ?_)
  .intro k hk
   repeat (first|exact rfl|refine ah oG ?_)
 rintro st ⟨M,O,q2,q3,q4,q5,J⟩;refine⟨_,J,ap ?_⟩;clear J;have af:=O;have kd:(fx f (.rs (nx+1+1) 0 f.al.length) (.rs (nx+1+1+1) 0 f.signals.length) (cF f.blocks)).drop (0+7)=cF f.blocks::[]:=rfl;refine ab ?_;refine fU (adE h4 h5) rfl aO ?_;rintro d M' an ⟨r,w,U,X,rfl,g3,g4,C⟩;dsimp only[St.put];have af:=(C nx oG).trans O;refine SS ?_;refine bD (di (d:=.rs _ _ _) (cs':=fx f (.rs (nx+1+1) 0 f.al.length) (.rs (nx+1+1+1) 0 f.signals.length) (.rs r 0 f.blocks.length)) rfl rfl af rfl rfl) aO (bN t24 Wo ⟨rfl,bf rfl⟩ rfl) ?_;refine er ?_;refine au (dI (vs:=fx f (.rs (nx+1+1) 0 f.al.length) (.rs (nx+1+1+1) 0 f.signals.length) (.rs r 0 f.blocks.length)) rfl (ai _ _ _) sH jT rfl) aO (dJ t26 jT (bf rfl)) ?_;refine bD (eI (cs':=fx f (.rs (nx+1+1) 0 f.al.length) (.rs (nx+1+1+1) 0 f.signals.length) (.rs r 0 f.blocks.length)) rfl rfl (ah oG ((C (nx+1) oG).trans q2)) rfl) aO (bN t26 jT ⟨rfl,bf rfl⟩ rfl) ?_;refine aa (lh (iM (cs:=fx f (.rs (nx+1+1) 0 f.al.length) (.rs (nx+1+1+1) 0 f.signals.length) (.rs r 0 f.blocks.length)) (vs:=fx f (.rs (nx+1+1) 0 f.al.length) (.rs (nx+1+1+1) 0 f.signals.length) (.rs r 0 f.blocks.length)) rfl (ai _ _ _) sH jT rfl t26 (bf rfl)) ⟨nx+1+1,nx+1+1+1,r,w,nx+1+1+1+1,oG,oG,oG,U,X,rfl,?_,?_,?_,?_,?_⟩)
 .exact ah oG (ah oG ((C _ oG).trans q3))
 .exact ah oG (ah oG ((C _ oG).trans q4))
 .exact ah oG (ah oG g3)
 .exact g4.mono (fun i h h'=>ah oG (ah oG rfl)) (a6 _)
 .intro k hk;exact ah oG (ah oG ((C k oG).trans (q5 k hk)))
theorem G3{f:aU}{to:List Int}(gW:to.length<=100000)(h0:pT f to=0)(hF:JJ f f.al.length):
 dB prog 50 [.agg (aF f),az to] (fun _=>none) 2 fun d M n=>∃ i g j q lo w p s a t,d=.aT [.agg (fx f (.rs i 0 f.al.length) (.rs g 0 f.signals.length) (.rs j 0 f.blocks.length)),I 0]/\q<n/\
  (∃ rs:List Int,rs.length=f.al.length/\M i=some (.cells (rs.map U8) 5))/\M g=some (.cells (f.signals.map S) 9)/\M j=some (.cells (oL (f.blocks.map (cO to)) s a w f.blocks.length) 69)/\BY M lo j f.blocks w f.blocks.length/\XB M (q+1) n (f.blocks.map (cO to)) p s a t f.blocks.length/\4<i/\i<g/\g<lo/\lo<=j/\j<q:=by
 have hc:gB f=0:=by
  unfold pT at h0;split at h0
  .assumption
  .exact h0
 have hp:nJ to f.al.length f.args=true:=by
  unfold pT at h0;rw[if_pos hc] at h0;cases h:nJ to f.al.length f.args with
  |true=>rfl
  |false=>rw[h] at h0;simp at h0
 have jz:=jz (f:=f);refine lF U1 ?_;rw[U2];refine aI ?_;refine bj ?_;refine aa ⟨_,(uC (i:=2) (cs:=aF f) (e:=26) rfl (l:=[(2,.pt (aF f)),(3,.rp 3 0),(4,.rp 4 0),(5,I 0)]) eH (ml:=[(3,.cells [az to] 35),(4,.cells ln 26)]) eH).trans (uC (i:=3) (cs:=[az to]) (e:=35) rfl (l:=[(2,.pt (aF f)),(3,.pt [az to]),(4,.rp 4 0),(5,I 0)]) eH (ml:=[(4,.cells ln 26)]) eH),aX (ap ?_)⟩;refine SS ?_;refine cl jz ?_;refine SS ?_;refine aa (aX (ap ?_));refine ab ?_;rw[hc];rw[hc] at jz;refine aa (dP rfl (fun h=>by simp at h) fun _=>eF (aX (ap ?_)));have vP:=vP (to:=to) (N:=f.al.length) (fixed:=f.args) hF.l1 gW;refine dV ?_;refine cl vP ?_;refine SS ?_;rw[hp];refine aa (dP rfl (fun h=>by simp at h) fun _=>eF ?_)
 have hlen:to.length=f.al.length:=by
  unfold nJ at hp;rw[aw] at hp;have:=hp.2;simp at this;omega
 have kT:∀ k,k<to.length->∃ v:Nat,v<to.length/\to[k]? =some (v:Int):=fun k hk=>by
  unfold nJ at hp;rw[aw,cv] at hp;have:=hp.1 k (List.mem_range.2 hk);unfold rQ at this;rw[aw,tD (bx hk),iO] at this;obtain⟨v,hv⟩:=gd this.1.1;exact⟨v,oG,by rw[bx hk,hv]⟩
 clear hp h0 jz vP hc;refine cL (fun st=>∃ M i g j q lo w,RX M i g j q lo f w (f.al.map U8) (oK f.blocks w f.blocks.length)/\aC prog st ⟨ay [(2,.pt (aF f)),(3,.pt [az to]),(4,.rp 4 0),(5,I 0),(7,.rp q 0)],M,q+1⟩) (gq ?_) ?_
 .refine SS ?_;refine fU (adF hF.l1 hF.l2 hF.l3 hF.l4 hF.l5) rfl aO ?_;rintro r M q ⟨i,g,j,w,lo,h1,h2,h3,h4,h5,rfl,h6,h7,h8,h9,Bg⟩;dsimp only[St.put];refine SS ?_;have af:∀ {M:Mem} {c},up M q c q=c:=ai _ _ _;refine bD (eI (cs':=fx f (.rs i 0 f.al.length) (.rs g 0 f.signals.length) (.rs j 0 f.blocks.length)) rfl rfl (ai _ _ _) rfl) aO (bN t26 jT ⟨rfl,bf rfl⟩ rfl) ?_;refine aa ⟨_,i,g,j,q,lo,w,⟨?_,ai _ _ _,?_,?_,?_,h9.mono (fun k _ hk=>ah oG (ah oG rfl)) (a6 _),oG,h2,h3,h4,h5⟩,ao eH⟩
  .exact ah oG (ah oG (Bg 4 oG))
  .exact ah oG (ah oG h6)
  .exact ah oG (ah oG h7)
  .exact ah oG (ah oG h8)
 rintro st ⟨M,i,g,j,q,lo,w,hR,X⟩;have h1:=hR.o1;have h2:=hR.o2;have h3:=hR.o3;have h4:=hR.o4;have h5:=hR.o5;refine⟨_,X,aX (aI ?_)⟩;clear X;refine bj ?_
 refine aa (c6 (fun st=>∃ M,RX M i g j q lo f w ((putAt to f.al f.al f.al.length).map U8) (oK f.blocks w f.blocks.length)/\aC prog st ⟨ay [(2,.pt (aF f)),(3,.pt [az to]),(4,.rp 4 0),(5,I 0),(7,.rp q 0)],M,q+1⟩) (cZ (α:=Nat×Mem)
  (fun st=>⟨ay [(2,.pt (aF f)),(3,.pt [az to]),(4,.rp 4 0),(5,I 0),(7,.rp q 0),(31,ej f.al),(32,I f.al.length),(33,I st.1)],st.2,q+1⟩)
  (fun st=>st.1<=f.al.length/\RX st.2 i g j q lo f w ((putAt to f.al f.al st.1).map U8) (oK f.blocks w f.blocks.length)) (fun st=>f.al.length - st.1) (0,M)
  (ao eH) ⟨Nat.zero_le _,hR⟩ ?_) ?_)
 .rintro⟨k,M⟩ ⟨hk,hR⟩;dsimp only at hk hR ⊢;refine SS ?_;refine aa ⟨_,rfl,fun h=>?_,fun h=>?_⟩
  .have ag:k<f.al.length:=by simpa using h
   clear h;obtain⟨v,hv,hg⟩:=kT k oG;obtain⟨x,hx⟩:∃ x,f.al[k]? =some x:=⟨_,bx ag⟩
   have DF:=It to f.al f.al k;rw[tD hg,tD hx,iv] at DF;have ng:=sQ to f.al f.al k;generalize putAt to f.al f.al k=qq at*
   refine ws ?_;refine bV ?_;refine aa (EM Pr ?_);have af:=hR.rg;have bM:=hR.ri;have kd:(fx f (.rs i 0 f.al.length) (.rs g 0 f.signals.length) (.rs j 0 f.blocks.length)).drop (0+4)=.rs i 0 f.al.length::[ej f.bz,.rs g 0 f.signals.length,.rs j 0 f.blocks.length]:=rfl;refine dc ?_;refine bD (di (d:=.s (.int _ _)) (cs':=(qq.set v x).map U8) rfl rfl bM rfl (by rw[List.map_set])) aO (bN t5 c5 ⟨rfl,by simp;omega⟩ rfl) ?_;refine cG cP ?_;refine ab ?_;exact aa (bQ (k+1,_) (ao eH) ⟨oM,by dsimp only;rw[DF];exact hR.Nv⟩ oM)
  .have bC:¬ k<f.al.length:=by simpa using h
   have:k=f.al.length:=by omega
   subst this;exact⟨M,hR,ao eH⟩
 rintro st ⟨M,hR,X⟩;refine⟨_,X,aX (aI ?_)⟩;clear X kT;have hl4:=hF.l4;have ng:=sQ to f.al f.al f.al.length;generalize putAt to f.al f.al f.al.length=rs at*
 have af:=hR.rg;have kd:(fx f (.rs i 0 f.al.length) (.rs g 0 f.signals.length) (.rs j 0 f.blocks.length)).drop (0+7)=.rs j 0 f.blocks.length::[]:=rfl;have bM:=hR.rj;refine bj ?_
 refine aa (c6 (fun st=>∃ M n p s a t,RX M i g j q lo f w (rs.map U8) (oL (f.blocks.map (cO to)) s a w f.blocks.length)/\q<n/\XB M (q+1) n (f.blocks.map (cO to)) p s a t f.blocks.length/\aC prog st ⟨ay [(4,.rp 4 0),(5,I 0),(7,.rp q 0)],M,n⟩) (cZ (α:=Nat×Mem×Nat×(Nat->Nat)×(Nat->Nat)×(Nat->Nat)×(Nat->Nat->Nat))
  (fun st=>⟨ay [(3,.pt [az to]),(4,.rp 4 0),(5,I 0),(7,.rp q 0),(49,I f.blocks.length),(50,I st.1)],st.2.1,st.2.2.1⟩)
  (fun st=>st.1<=f.blocks.length/\q<st.2.2.1/\RX st.2.1 i g j q lo f w (rs.map U8) (oL (f.blocks.map (cO to)) st.2.2.2.2.1 st.2.2.2.2.2.1 w st.1++rR f.blocks w st.1)/\XB st.2.1 (q+1) st.2.2.1 (f.blocks.map (cO to)) st.2.2.2.1 st.2.2.2.2.1 st.2.2.2.2.2.1 st.2.2.2.2.2.2 st.1) (fun st=>f.blocks.length - st.1) (0,M,q+1,fun _=>0,fun _=>0,fun _=>0,fun _ _=>0)
  (ao eH) ⟨Nat.zero_le _,Nat.lt_succ_self _,hR,XB.zero⟩ ?_) ?_)
 .clear af bM hR kd;rintro⟨k,M,n,p,s,a,t⟩ ⟨hk,hn,hR,hX⟩;dsimp only at hk hn hR hX ⊢;refine SS ?_;refine aa ⟨_,rfl,fun h=>?_,fun h=>?_⟩
  .have ag:k<f.blocks.length:=by simpa using h
   clear h;obtain⟨b,hb⟩:∃ b,f.blocks[k]? =some b:=⟨_,bx ag⟩
   have nZ:=cX hb;have hI:=hF.ins b nZ;have hE:=hF.ends b nZ;have hS:=hF.l5 b nZ;have fM:(f.blocks.map (cO to))[k]? =some (cO to b):=by rw[List.getElem?_map,hb];rfl
   have hA:=ZD (f.blocks.map (cO to)) s a w k;have dG:∀ p0 q0,oL (f.blocks.map (cO to)) (up s k p0) (up a k q0) w (k+1)++rR f.blocks w (k+1)=oL (f.blocks.map (cO to)) s a w k++(j9 (cO to b) p0 q0 (w k)++rR f.blocks w (k+1)):=fun p0 q0=>by rw[Ys fM,List.append_assoc]
   rw[Yr hb] at hR;generalize hAA:oL (f.blocks.map (cO to)) s a w k=A at*
   generalize Nz:rR f.blocks w (k+1)=C at*
   have hL:∀ (d0:D) (y:Argus.End) (O J:D),(A++(d0::fh y O J++C)).length=k*16+(16+C.length):=fun d0 y O J=>by
    rw[List.length_append,List.length_append,hA];rfl
   refine ws ?_;refine ab ?_;refine aa (aI ?_);have af:=hR.rg;have bM:=hR.rj;have kd:(fx f (.rs i 0 f.al.length) (.rs g 0 f.signals.length) (.rs j 0 f.blocks.length)).drop (0+7)=.rs j 0 f.blocks.length::[]:=rfl;refine bV ?_;refine aa ⟨_,ao (l:=[(3,.pt [az to]),(4,.rp 4 0),(5,I 0),(7,.rp q 0),(49,I f.blocks.length),(50,I k),(11,.rp j (k*16))]) eH,?_⟩;have ain:to.length=f.al.length:=hlen;rw[<- hlen] at hI hE
   have yu:∀ {r:Int},0<=r/\r<to.length->∃ k:Nat,∃ v,r=k/\to[k]? =some v/\bO to r=v:=fun {r} h=>by
    obtain⟨k,rfl⟩:=gd h.1;exact⟨k,_,rfl,bx oG,by simp[bO,dN,bx (show k<to.length by omega)]⟩
   have pS:=TU (l:=b.fin.args) (g:=107) (fs:=[]) (cs:=[.pt [az to]]) (p:=bO to) (by have:=hS.ea;omega) (.fn oS (.cons (.pt (.cons (cC _) .nil)) .nil)) (fun r hr=>UU (hE.args r hr));generalize hq:k*16=q2 at*
   have jN:(b.ins.map (bZ to)).length=b.ins.length:=List.length_map _;obtain⟨J,Wp⟩:∃ J:D,J=.rs (w k) 0 b.fin.aD.length:=⟨_,rfl⟩
   have e0:oX b (w k)=fg b.ins::fh b.fin (az b.fin.args) J:=by rw[Wp];rfl
   rw[e0] at hR bM;refine cL (fun st=>∃ M U s0 t0,n<=s0/\s0<U/\RX M i g j q lo f w (rs.map U8) (A++(.rs s0 0 b.ins.length::fh b.fin (az b.fin.args) J++C))/\XB M (q+1) n (f.blocks.map (cO to)) p s a t k/\M s0=some (.cells (mV (b.ins.map (bZ to)) t0 b.ins.length) 45)/\TR M n s0 (b.ins.map (bZ to)) t0 b.ins.length/\aC prog st ⟨ay [(3,.pt [az to]),(4,.rp 4 0),(5,I 0),(7,.rp q 0),(49,I f.blocks.length),(50,I k),(11,.rp j q2)],M,U⟩) (gq ?_) ?_
   .clear kd af;have af:=hR.rj;have kd:(A++(fg b.ins::fh b.fin (az b.fin.args) J++C)).drop (q2+0)=fg b.ins::(fh b.fin (az b.fin.args) J++C):=kF (j:=0) hA rfl;refine dV ?_;refine fU (afo (by have:=hS.ins;omega) hI) rfl aO ?_;rintro d M2 U ⟨s0,t0,g1,g2,rfl,g3,g4,g5⟩;dsimp only[St.put];have af:=(g5 j oG).trans hR.rj;refine ab ?_;refine bD (di (d:=.rs _ _ _) (cs':=A++(.rs s0 0 b.ins.length::fh b.fin (az b.fin.args) J++C)) rfl rfl af rfl (sg (j:=0) hA rfl)) aO (bN t67 wH ⟨rfl,by rw[hL];omega⟩ rfl) ?_;have pb:RX M2 i g j q lo f w (rs.map U8) (A++(fg b.ins::fh b.fin (az b.fin.args) J++C)):=hR.mono fun k hk=>g5 k oG;exact aa ⟨_,U,s0,t0,g1,g2,pb.pw,hX.mono (fun k pd wB=>(aA _ _ oG).trans (g5 k oG)) (a6 _),ah oG g3,g4.mono (fun k pd wB=>aA _ _ oG) (a6 _),ao eH⟩
   clear hR af bM kd hX e0;rintro st ⟨M,U,s0,t0,m1,m2,hR,hX,mg,nd,X⟩;refine⟨_,X,ap ?_⟩;clear X;obtain⟨N,hN⟩:∃ N,N=b.ins.length:=⟨_,rfl⟩
   obtain⟨O,NA⟩:∃ O,O=az b.fin.args:=⟨_,rfl⟩
   rw[<- hN] at hR mg nd;rw[<- NA] at hR;have hK:KX M (q+1) n s0 (f.blocks.map (cO to)) p s a t k (b.ins.map (bZ to)) N t0:=⟨hX,mg,nd,oG,m1⟩
   clear hX mg nd jN;have af:=hR.rj;refine bj ?_;refine aa (cL (fun st=>∃ M,RX M i g j q lo f w (rs.map U8) (A++((.rs s0 0 N::fh (iq to b.fin) O J)++C))/\KX M (q+1) n s0 (f.blocks.map (cO to)) p s a t k (b.ins.map (bZ to)) N t0/\aC prog st ⟨ay [(3,.pt [az to]),(4,.rp 4 0),(5,I 0),(7,.rp q 0),(49,I f.blocks.length),(50,I k),(12,.rp j (q2+1))],M,U⟩) (ap ?_) ?_)
   .have kd:(A++((.rs s0 0 N::fh b.fin O J)++C)).drop (q2+1+0)=U8 b.fin.kind::_:=kF (j:=1) hA rfl;refine bj ?_;refine aa (ot ?_);clear kd;generalize b.fin=x at*
    have nk:∀ y:Argus.End,(A++((.rs s0 0 N::fh (y) O J)++C)).length=q2+(16+C.length):=fun y=>hL _ y O J;refine cL (fun st=>aC prog st ⟨ay [(3,.pt [az to]),(4,.rp 4 0),(5,I 0),(7,.rp q 0),(49,I f.blocks.length),(50,I k),(12,.rp j (q2+1)),(72,U8 x.kind),(73,B (aR [2,8,9,7] x.kind))],M,U⟩) (ap ?_) fun st hg=>⟨_,hg,?_⟩
    .refine ab ?_;refine aa (aE rfl (fun h=>bJ ?_) fun e1=>ap ?_)
     .have h:x.kind=2:=by simpa using h
      refine ao ⟨rfl,rfl,rfl,rfl,rfl,rfl,rfl,rfl,?_,trivial⟩;show D.s (.bool (x.kind==2))=_;rw[h];rfl
     refine ab ?_;refine aa (aE rfl (fun h=>bJ ?_) fun e2=>ap ?_)
     .have h:x.kind=8:=by simpa using h
      refine ao ⟨rfl,rfl,rfl,rfl,rfl,rfl,rfl,rfl,?_,trivial⟩;show D.s (.bool (x.kind==8))=_;rw[h];rfl
     refine ab ?_;refine aa (aE rfl (fun h=>bJ ?_) fun e3=>gq ?_)
     .have h:x.kind=9:=by simpa using h
      refine ao ⟨rfl,rfl,rfl,rfl,rfl,rfl,rfl,rfl,?_,trivial⟩;show D.s (.bool (x.kind==9))=_;rw[h];rfl
     refine ab ?_;refine aa (ao ⟨rfl,rfl,rfl,rfl,rfl,rfl,rfl,rfl,?_,trivial⟩);show D.s (.bool (x.kind==7))=_;simp only[aR,List.any_cons,List.any_nil,e1,e2,e3,Bool.false_or,Bool.or_false]
    clear hg;refine aE rfl (fun qW=>uJ Ps ?_) fun qW=>?_
    .obtain⟨kk,v,ha,hv,e⟩:=yu (hE.a qW);have kd:(A++((.rs s0 0 N::fh (x) O J)++C)).drop (q2+1+1)=I kk::_:=(kF (j:=2) hA (r:=((.rs s0 0 N::fh (x) O J)++C).drop 3) rfl).trans (by rw[ha]);refine dc ?_;refine ab ?_;refine bD (di (d:=.s (.int _ _)) (cs':=A++((.rs s0 0 N::fh (iq to x) O J)++C)) rfl rfl af rfl (sg (j:=2) hA (by rw[Sr qW,e];rfl))) aO (bN t3 c3 ⟨rfl,by rw[nk];omega⟩ rfl) ?_;exact cG cP ⟨_,hR.pw,hK.up oG,ao eH⟩
    refine cL (fun st=>aC prog st ⟨ay [(3,.pt [az to]),(4,.rp 4 0),(5,I 0),(7,.rp q 0),(49,I f.blocks.length),(50,I k),(12,.rp j (q2+1)),(72,U8 x.kind),(88,B (aR [3,6] x.kind))],M,U⟩) (ap ?_) fun st hg=>⟨_,hg,?_⟩
    .refine ab ?_;refine aa (aE rfl (fun h=>bJ ?_) fun e1=>gq ?_)
     .have h:x.kind=3:=by simpa using h
      refine ao ⟨rfl,rfl,rfl,rfl,rfl,rfl,rfl,rfl,?_,trivial⟩;show D.s (.bool (x.kind==3))=_;rw[h];rfl
     refine ab ?_;refine aa (ao ⟨rfl,rfl,rfl,rfl,rfl,rfl,rfl,rfl,?_,trivial⟩);show D.s (.bool (x.kind==6))=_;simp only[aR,List.any_cons,List.any_nil,e1,Bool.false_or,Bool.or_false]
    clear hg;refine aE rfl (fun uk=>ap ?_) fun uk=>ap ?_
    .have e0:=Ss (to:=to) qW uk;have kd:(A++((.rs s0 0 N::fh (x) O J)++C)).drop (q2+1+1)=I x.a::_:=kF (j:=2) hA rfl;refine bV ?_;refine aa (aE rfl (fun h0=>uJ Pt ?_) fun h0=>sU ?_)
     .have h0:0<=x.a:=by simpa using h0
      obtain⟨kk,v,ha,hv,e⟩:=yu ⟨h0,hE.a2 uk h0⟩;rw[if_pos h0,e] at e0;rw[ha] at kd;refine dc ?_;refine ab ?_;refine bD (di (d:=.s (.int _ _)) (cs':=A++((.rs s0 0 N::fh (iq to x) O J)++C)) rfl rfl af rfl (sg (j:=2) hA (by rw[e0];rfl))) aO (bN t3 c3 ⟨rfl,by rw[nk];omega⟩ rfl) ?_;exact cG cP ⟨_,hR.pw,hK.up oG,ao eH⟩
     .have h0:¬ 0<=x.a:=by simpa using h0
      rw[if_neg h0] at e0;exact⟨_,by rw[e0];exact hR,hK,ao eH⟩
    .have e0:=Su (to:=to) qW uk;refine ab ?_;refine aa (aE rfl (fun h5=>uJ Pu ?_) fun h5=>sU ?_)
     .have h5:x.kind=5:=by simpa using h5
      rw[if_pos h5] at e0;have tN:=tN (hE.ins h5);refine bj ?_;refine au (dI (vs:=bc x.ins) rfl af ui jS (Sq (j:=7) hA rfl)) aO (dJ t45 jS (by rw[nk];omega)) ?_;refine SS ?_;refine cl tN ?_;refine ab ?_;refine bD (eI (vs:=bc (bZ to x.ins)) (cs':=A++((.rs s0 0 N::fh (iq to x) O J)++C)) rfl rfl af (EP (j:=7) hA (by simp[bc]) (by rw[e0];rfl))) aO (bN t45 jS ⟨rfl,by rw[nk];omega⟩ rfl) ?_;exact cG cP ⟨_,hR.pw,hK.up oG,ao eH⟩
     .have h5:¬ x.kind=5:=by simpa using h5
      rw[if_neg h5] at e0;exact⟨_,by rw[e0];exact hR,hK,ao eH⟩
   clear hR af hK;rintro st ⟨M,hR,hK,X⟩;refine⟨_,X,?_⟩;clear X;have af:=hR.rj
   have Wq:∀ p0 q0,j9 (cO to b) p0 q0 (w k)=.rs p0 0 N::fh { iq to b.fin with b:=if b.fin.kind=8 then bO to b.fin.b else b.fin.b } (.rs q0 0 b.fin.args.length) J:=fun p0 q0=>by
    rw[Wp,hN];show D.rs p0 0 (b.ins.map (bZ to)).length::fh _ (.rs q0 0 (b.fin.args.map (bO to)).length) _=_;rw[List.length_map,List.length_map];rfl
   have nk:∀ y:Argus.End,(A++((.rs s0 0 N::fh (y) O J)++C)).length=q2+(16+C.length):=fun y=>hL _ y O J;have um:=hE.b;have y1:(iq to b.fin).kind=b.fin.kind:=rfl;have y2:(iq to b.fin).b=b.fin.b:=rfl;have y3:(iq to b.fin).args=b.fin.args:=rfl;generalize iq to b.fin=y at*
   rw[<- y1, <- y2] at um Wq;rw[<- y3] at pS NA;clear hE hI hS nZ hL;refine cL (fun st=>∃ M,RX M i g j q lo f w (rs.map U8) (A++((.rs s0 0 N::fh { y with b:=if y.kind=8 then bO to y.b else y.b } O J)++C))/\KX M (q+1) n s0 (f.blocks.map (cO to)) p s a t k (b.ins.map (bZ to)) N t0/\aC prog st ⟨ay [(3,.pt [az to]),(4,.rp 4 0),(5,I 0),(7,.rp q 0),(49,I f.blocks.length),(50,I k),(12,.rp j (q2+1))],M,U⟩) (ap ?_) ?_
   .have kd:(A++((.rs s0 0 N::fh (y) O J)++C)).drop (q2+1+0)=U8 y.kind::_:=kF (j:=1) hA rfl;refine bV ?_;refine aa (aE rfl (fun h8=>BV Pv ?_) fun h8=>bJ ?_)
    .have h8:y.kind=8:=by simpa using h8
     obtain⟨kk,v,ha,hv,e⟩:=yu (um h8);rw[if_pos h8,e];have kd:(A++((.rs s0 0 N::fh (y) O J)++C)).drop (q2+1+2)=I kk::_:=(kF (j:=3) hA (r:=((.rs s0 0 N::fh (y) O J)++C).drop 4) rfl).trans (by rw[ha]);refine dc ?_;refine ab ?_;refine bD (di (d:=.s (.int _ _)) (cs':=A++((.rs s0 0 N::fh { y with b:=v } O J)++C)) rfl rfl af rfl (sg (j:=3) hA rfl)) aO (bN t3 c3 ⟨rfl,by rw[nk];omega⟩ rfl) ?_;exact cG cP ⟨_,hR.pw,hK.up oG,ao eH⟩
    .have h8:¬ y.kind=8:=by simpa using h8
     rw[if_neg h8];exact⟨_,hR,hK,ao eH⟩
   clear hR af hK;rintro st ⟨M,hR,hK,X⟩;refine⟨_,X,fv ?_⟩;clear X;generalize (if y.kind=8 then bO to y.b else y.b)=yb at*
   have af:=hR.rj;have kd:(A++((.rs s0 0 N::fh { y with b:=yb } O J)++C)).drop (q2+1+12)=az y.args::_:=(kF (j:=13) hA rfl).trans (by rw[NA]);refine dV ?_;refine rP pS rfl aO ?_;have af:∀ {c},up M U c j=some (.cells (A++((.rs s0 0 N::fh { y with b:=yb } O J)++C)) 69):=ah oG hR.rj;refine ab ?_;refine bD (di (d:=.rs _ _ _) (cs':=A++((.rs s0 0 N::fh { y with b:=yb } (.rs U 0 y.args.length) J)++C)) rfl rfl af rfl (sg (j:=13) hA rfl)) aO (bN t35 qX ⟨rfl,by rw[nk];omega⟩ rfl) ?_;refine aa ?_;refine ab ?_;have pb:RX (up M U (some (.cells ((y.args.map (bO to)).map I) 3))) i g j q lo f w (rs.map U8) (A++((.rs s0 0 N::fh { y with b:=yb } O J)++C)):=hR.mono fun k hk=>aA _ _ oG;refine aa (bQ (k+1,_,U+1,up p k n,up s k s0,up a k U,up t k t0) (ao eH) ⟨oM,oM,?_,?_⟩ oM)
   .show RX (up (up M U (some (.cells ((y.args.map (bO to)).map I) 3))) j (some (.cells (A++((.rs s0 0 N::fh { y with b:=yb } (.rs U 0 y.args.length) J)++C)) 69))) i g j q lo f w (rs.map U8) (oL (f.blocks.map (cO to)) (up s k s0) (up a k U) w (k+1)++rR f.blocks w (k+1));rw[Nz,dG,Wq, <- y3];exact pb.pw
   .dsimp only;have hX2:XB (up (up M U (some (.cells ((y.args.map (bO to)).map I) 3))) j (some (.cells (A++((.rs s0 0 N::fh { y with b:=yb } (.rs U 0 y.args.length) J)++C)) 69))) (q+1) n (f.blocks.map (cO to)) p s a t k:=hK.hX.mono (fun k pd wB=>(aA _ _ oG).trans (aA _ _ oG)) (a6 _);refine hX2.snoc fM oG (a6 _) m1 m2 (Nat.lt_succ_self _) ?_ ?_ ?_
    .show _=some (Row.cells (mV (b.ins.map (bZ to)) t0 (b.ins.map (bZ to)).length) 45);rw[List.length_map, <- hN];exact ah oG (ah oG hK.hs)
    .show TR _ n s0 (b.ins.map (bZ to)) t0 (b.ins.map (bZ to)).length;rw[List.length_map, <- hN];exact hK.ht.mono (fun k pd wB=>(aA _ _ oG).trans (aA _ _ oG)) (a6 _)
    .show _=some (Row.cells ((b.fin.args.map (bO to)).map I) 3);rw[<- y3];exact ah oG (ai _ _ _)
  .have bC:¬ k<f.blocks.length:=by simpa using h
   have:k=f.blocks.length:=by omega
   subst this;rw[ZB,List.append_nil] at hR;exact⟨M,n,p,s,a,t,hR,hn,hX,ao eH⟩
 rintro st ⟨M,n,p,s,a,t,hR,hn,hX,X⟩;refine⟨_,X,ap ?_⟩;clear X af bM kd;have af:=hR.rg;refine au (dI (vs:=fx f (.rs i 0 f.al.length) (.rs g 0 f.signals.length) (.rs j 0 f.blocks.length)) rfl af sH jT rfl) aO (dJ t26 jT (bf rfl)) ?_;have bM:=hR.r2;refine bD (eI (cs':=fx f (.rs i 0 f.al.length) (.rs g 0 f.signals.length) (.rs j 0 f.blocks.length)) rfl rfl bM rfl) aO (bN t26 jT ⟨rfl,bf rfl⟩ rfl) ?_;refine SS ?_;have g4:up M 4 (some (Row.cells (fx f (.rs i 0 f.al.length) (.rs g 0 f.signals.length) (.rs j 0 f.blocks.length)) 26)) 4=some (.cells (fx f (.rs i 0 f.al.length) (.rs g 0 f.signals.length) (.rs j 0 f.blocks.length)) 26):=ai _ _ _;refine aa (Bx (iM (cs:=fx f (.rs i 0 f.al.length) (.rs g 0 f.signals.length) (.rs j 0 f.blocks.length)) (vs:=fx f (.rs i 0 f.al.length) (.rs g 0 f.signals.length) (.rs j 0 f.blocks.length)) rfl g4 sH jT rfl t26 (bf rfl)) rfl ⟨i,g,j,q,lo,w,p,s,a,t,rfl,hn,⟨rs,oG,?_⟩,?_,?_,?_,?_,h1,h2,h3,h4,h5⟩)
 .exact ah oG hR.ri
 .exact ah oG hR.rh
 .exact ah oG hR.rj
 .exact hR.HN.mono (fun k _ hk=>aA _ _ oG) (a6 _)
 .exact hX.mono (fun k hk _=>aA _ _ oG) (a6 _)
end Go.Proofs.Tryz.K
namespace Go.Abs
theorem adZ{xs ys:List D}(h:H3 xs ys):Wk (.agg xs) (.agg ys):=fun F β w v hv=>by
 obtain⟨hl,C⟩:=JT h;cases hv with
 |agg _ vs jt h'=>
  refine .agg ys vs oG fun k d v hd hv=>?_;have hk:k<xs.length:=by have:=(bU.1 hd).1;omega
  exact C k xs[k] d (bx hk) hd F β w v (h' k xs[k] v (bx hk) hv)
theorem ad0{xs ys:List D}(h:H3 xs ys):Wk (.aT xs) (.aT ys):=fun F β w v hv=>by
 obtain⟨hl,C⟩:=JT h;cases hv with
 |aT _ vs jt h'=>
  refine .aT ys vs oG fun k d v hd hv=>?_;have hk:k<xs.length:=by have:=(bU.1 hd).1;omega
  exact C k xs[k] d (bx hk) hd F β w v (h' k xs[k] v (bx hk) hv)
theorem Z9{P:Program}{f:FuncId}{args:List D}{r r':D}(h:aG P f args r)(O:Wk r r'):aG P f args r':=
 ⟨h.1,h.2.1,fun F w vs J hR=>(h.2.2 F w vs J hR).mono fun _ _ ⟨v,h1,h2,C⟩=>⟨v,h1,O _ _ _ _ h2,C⟩⟩
end Go.Abs
namespace Go.Argus
def zF:aU:=⟨⟨#[]⟩,false,0,0,[],[],[],[]⟩
theorem ag'{e:Int}:Wk (.aT [.agg ln,I e]) (.aT [.agg (aF zF),I e]):=
 ad0 ⟨adZ ⟨uV _,uV _,uV _,uV _,CR,CR,CR,CR,trivial⟩,uV _,trivial⟩
theorem ZI{f:aU}(h:jV f=true):f.al.length<=40/\f.bz.length<=10/\f.blocks.length<=30:=by
 unfold jV at h;rw[aw] at h;have h:=h.1;unfold yr at h;simp only[Bool.not_eq_true',Bool.or_eq_false_iff,decide_eq_false_iff_not] at h;omega
def yw(f:aU)(to:List Int):aU:=if pT f to=0 then vS f to else zF
def gJ(wsq:List ByteArray):ByteArray:=Go.Proofs.Tryz.K.xV wsq ⟨#[32]⟩++⟨#[10]⟩
def fc(n:Int):ByteArray:=⟨(Lib.itoa n).toArray⟩
def i64(n:Int):Prop:= -9223372036854775808<=n/\n<=9223372036854775807
abbrev jg(n:Int):Int:=IntKind.i64.wrap n
theorem zL(n:Int):i64 (jg n):=by unfold i64 jg;rw[IntKind.wrap_i64];omega
def vT(x:bn):List Int:=jg x.op::x.to::x.a::x.b::x.n::x.args
def G6(x:bn):Prop:=∀ n∈vT x,i64 n
def Vd(word:ByteArray)(x:bn):ByteArray:=gJ (word::(vT x).map fc)
def vU(a:ByteArray):List Int:=a.data.toList.map fun c=>(c.toNat:Int)
theorem adG(a:ByteArray):eV a=kB (vU a):=by simp[eV,kB,vU]
theorem acK(a:ByteArray):mkStr (vU a)=a:=by
 unfold mkStr vU;rw[List.map_map];have:(fun n:Int=>UInt8.ofNat n.toNat) ∘ (fun c:UInt8=>(c.toNat:Int))=id:=by funext c;simp
 rw[this,List.map_id]
theorem abj(a:ByteArray):(vU a).length=a.size:=by simp[vU]
theorem abk(a:ByteArray):∀ x∈vU a,0<=x/\x<256:=by
 intro x hx;obtain⟨c,_,rfl⟩:=List.mem_map.1 hx;have:=c.toNat_lt;omega
def xW:ByteArray:=⟨#[102,108,111,119]⟩
def Ua:ByteArray:=⟨#[112,114,111,99]⟩
def Ub:ByteArray:=⟨#[105,116,101,114]⟩
def Av:ByteArray:=⟨#[114,101,103,115]⟩
def Cd:ByteArray:=⟨#[115,108,111,116,115]⟩
def Et:ByteArray:=⟨#[115,105,103,110,97,108,115]⟩
def oz:ByteArray:=⟨#[98,108,111,99,107]⟩
def si:ByteArray:=⟨#[105,110,115]⟩
def Mu:ByteArray:=⟨#[101,110,100]⟩
def Gx:ByteArray:=⟨#[110,97,109,101]⟩
def AM:ByteArray:=⟨#[116,114,121]⟩
def Uc:ByteArray:=⟨#[119,104,101,110]⟩
def fk:List (List ByteArray)->ByteArray
 |[]=>ByteArray.empty
 |l::ls=>gJ l++fk ls
theorem Ix:∀ a b:List (List ByteArray),fk (a++b)=fk a++fk b
 |[],b=>by simp[fk]
 |l::a,b=>by simp only[List.cons_append,fk,Ix a b,ByteArray.append_assoc]
theorem QC(a:List (List ByteArray))(l:List ByteArray):fk (a++[l])=fk a++gJ l:=by rw[Ix];simp[fk]
theorem ad2{a b:List (List ByteArray)}(h:a<+:b):(fk a).size<=(fk b).size:=by
 obtain⟨c,rfl⟩:=h;rw[Ix,ByteArray.size_append];omega
def mW(word:ByteArray)(x:bn):List ByteArray:=word::(vT x).map fc
def vV(x:End):List Int:=jg x.kind::x.a::x.b::x.to::x.gX::x.others::x.args
def tP(x:End):List ByteArray:=Mu::(vV x).map fc
def kH(x:End):List (List ByteArray):=if x.name.toList=[] then [] else [[Gx,x.name]]
def ma(x:End):List (List ByteArray):=if x.kind=5 then [mW AM x.ins] else []
def lR(w:gr):List ByteArray:=[Uc,w.name,fc w.to]
def tF(b:bp):List (List ByteArray):=b.ins.map (mW si)
def nG(b:bp):List (List ByteArray):=[oz]::(tF b++(tP b.fin::(kH b.fin++(ma b.fin++b.fin.aD.map lR))))
def rS(f:aU):ByteArray:=if f.iter then Ub else Ua
def GC(f:aU):List (List ByteArray):=[[xW,f.name,rS f,fc f.args,fc (jg f.result)],Av::(f.al.map jg).map fc,Cd::(f.bz.map jg).map fc,Et::f.signals]
def mM(f:aU):List (List ByteArray):=GC f++f.blocks.flatMap nG
def Au(f:aU):ByteArray:=fk (mM f)
structure Cc(f:aU):Prop where
 args:i64 f.args
 al:f.al.length<=100000
 bz:f.bz.length<=100000
 sigs:f.signals.length<=100000
 aiE:f.blocks.length<=100000
 aiF:∀ b∈f.blocks,b.ins.length<=100000
 ins:∀ b∈f.blocks,∀ x∈b.ins,G6 x/\x.args.length<=10000
 fin:∀ b∈f.blocks,(∀ n∈vV b.fin,i64 n)/\b.fin.args.length<=10000/\G6 b.fin.ins/\b.fin.ins.args.length<=10000/\b.fin.aD.length<=100000/\∀ w∈b.fin.aD,i64 w.to
 size:(Au f).size<=140737488355328
def ku(f:aU)(k:Nat):List (List ByteArray):=GC f++(f.blocks.take k).flatMap nG
theorem Qo{f:aU}{k:Nat}{b:bp}(h:f.blocks[k]? =some b):ku f (k+1)=ku f k++nG b:=by
 unfold ku;rw[List.take_add_one,h];simp[List.flatMap_append]
theorem IS{f:aU}{k:Nat}{b:bp}(h:f.blocks[k]? =some b){p:List (List ByteArray)}(hp:p<+:nG b):ku f k++p<+:mM f:=by
 have h1:ku f k++p<+:ku f (k+1):=by rw[Qo h];exact(List.prefix_append_right_inj _).2 hp
 refine h1.trans ?_;refine⟨(f.blocks.drop (k+1)).flatMap nG,?_⟩;unfold ku mM;rw[List.append_assoc, <- List.flatMap_append,List.take_append_drop]
theorem Cc.le{f:aU}(h:Cc f){p:List (List ByteArray)}{l:List ByteArray}(hp:p++[l]<+:mM f):(fk p).size+(gJ l).size<=140737488355328:=by
 have h1:=ad2 hp;rw[QC,ByteArray.size_append] at h1;have:=h.size;unfold Au at this;omega
end Go.Argus
namespace Go.Proofs.Tryz.K
theorem adJ{f g:aU}{F:FuncId}{args:List D}{e:Int}(h:aG prog F args (.aT [.agg (if e=0 then aF f else ln),I e]))(hg:g=if e=0 then f else zF):aG prog F args (.aT [.agg (aF g),I e]):=by
 subst hg;by_cases he:e=0
 .rw[if_pos he] at h ⊢;exact h
 .rw[if_neg he] at h ⊢;exact Z9 h ag'
theorem abm{f:aU}(h1:f.al.length<=1000000)(h2:f.bz.length<=1000000):aG prog 52 [.agg (aF f),.agg (aF f)] (B true):=by
 have:=HL (f:=f) (g:=f) h1 h2 h1 h2
 rwa[IQ.2 rfl] at this
end Go.Proofs.Tryz.K
end
namespace Go.Proofs.Tryz.K
open Go.Abs
theorem abl:cb (Z dj 8)=some [(1,6),(2,6),(6,7),(6,8),(6,9),(1,10),(2,10)]:=kr
theorem ZG:cb (Z dj 30)=some [(1,5),(2,5)]:=kr
theorem Vh:dj=(S1 (G1 dj 0) (S1 (S1 (G1 dj 1) (S1 (G1 dj 2) (C1 17 (S1 (G1 dj 3) .ret) K1))) (S1 (G1 dj 4) (S1 (G1 dj 5) (S1 (S1 (G1 dj 6) (C1 22 (G1 dj 7) K1)) (S1 (G2 dj 8) (S1 (G1 dj 9) (S1 (G1 dj 10) (S1 (G1 dj 11) (S1 (S1 (G1 dj 12) (B1 0 (.loop (S1 (G1 dj 13) (S1 (C1 56 K1 (X1 0)) (S1 (B1 1 (S1 (G1 dj 14) (S1 (G1 dj 15) (S1 (S1 (G1 dj 16) (B1 2 (.loop (S1 (G1 dj 17) (S1 (C1 66 K1 (X1 2)) (S1 (B1 3 (S1 (G1 dj 18) (G1 dj 19))) (G1 dj 20))))))) (S1 (G1 dj 21) (S1 (G1 dj 22) (S1 (S1 (G1 dj 23) (C1 96 (G1 dj 24) K1)) (S1 (S1 (G1 dj 25) (C1 104 (G1 dj 26) K1)) (S1 (G1 dj 27) (B1 4 (.loop (S1 (G1 dj 28) (S1 (C1 113 K1 (X1 4)) (S1 (B1 5 (S1 (G1 dj 29) (G2 dj 30))) (G1 dj 31))))))))))))))) (G1 dj 32))))))) (S1 (G1 dj 33) .ret))))))))))):=kr
theorem ZE:cb (Z ET 0)=some [(1,4),(2,4)]:=kr
theorem afO:ET=(G2 ET 0):=kr
theorem afQ:JS=(G1 JS 0):=kr
theorem afL:EU=(S1 (G1 EU 0) (S1 (G1 EU 1) .ret)):=kr
theorem afS:EV=(S1 (G1 EV 0) (G1 EV 1)):=kr
theorem ZF:cb (Z BW 1)=some [(4,6),(4,7),(4,8),(4,9)]:=kr
theorem afU:BW=(S1 (G1 BW 0) (S1 (G2 BW 1) .ret)):=kr
theorem afF:zR=(S1 (G1 zR 0) (S1 (G1 zR 1) (S1 (G1 zR 2) (S1 (G1 zR 3) .ret)))):=kr
theorem afG:rE=(S1 (G1 rE 0) (S1 (G1 rE 1) (S1 (S1 (G1 rE 2) (B1 0 (.loop (S1 (G1 rE 3) (S1 (C1 11 K1 (X1 0)) (S1 (B1 1 (S1 (G1 rE 4) (G1 rE 5))) (G1 rE 6))))))) (S1 (G1 rE 7) .ret)))):=kr
theorem afH:rF=(S1 (G1 rF 0) (S1 (G1 rF 1) (S1 (S1 (G1 rF 2) (B1 0 (.loop (S1 (G1 rF 3) (S1 (C1 11 K1 (X1 0)) (S1 (B1 1 (S1 (G1 rF 4) (G1 rF 5))) (G1 rF 6))))))) (S1 (G1 rF 7) .ret)))):=kr
theorem afJ:E'=(S1 (G1 E' 0) (S1 (G1 E' 1) .ret)):=kr
theorem aiH:cU=(S1 (G1 cU 0) (S1 (S1 (G1 cU 1) (C1 29 (S1 (G1 cU 2) .ret) K1)) (S1 (G1 cU 3) (S1 (G1 cU 4) (S1 (S1 (G1 cU 5) (C1 47 (S1 (G1 cU 6) .ret) K1)) (S1 (G1 cU 7) (S1 (S1 (G1 cU 8) (B1 0 (.loop (S1 (G1 cU 9) (S1 (C1 59 K1 (X1 0)) (S1 (B1 1 (S1 (G1 cU 10) (S1 (S1 (G1 cU 11) (B1 2 (.loop (S1 (G1 cU 12) (S1 (C1 69 K1 (X1 2)) (S1 (B1 3 (S1 (G1 cU 13) (S1 (S1 (G1 cU 14) (B1 4 (.loop (S1 (G1 cU 15) (S1 (C1 83 K1 (X1 4)) (S1 (B1 5 (S1 (G1 cU 16) (G1 cU 17))) (G1 cU 18))))))) (G1 cU 19)))) (G1 cU 20))))))) (S1 (S1 (G1 cU 21) (B1 6 (.loop (S1 (G1 cU 22) (S1 (C1 117 K1 (X1 6)) (S1 (B1 7 (S1 (G1 cU 23) (G1 cU 24))) (G1 cU 25))))))) (S1 (S1 (G1 cU 26) (B1 8 (.loop (S1 (G1 cU 27) (S1 (C1 139 K1 (X1 8)) (S1 (B1 9 (S1 (G1 cU 28) (G1 cU 29))) (G1 cU 30))))))) (G1 cU 31)))))) (G1 cU 32))))))) (S1 (S1 (G1 cU 33) (B1 10 (.loop (S1 (G1 cU 34) (S1 (C1 161 K1 (X1 10)) (S1 (B1 11 (S1 (G1 cU 35) (G1 cU 36))) (G1 cU 37))))))) (S1 (S1 (G1 cU 38) (B1 12 (.loop (S1 (G1 cU 39) (S1 (C1 172 K1 (X1 12)) (S1 (B1 13 (S1 (G1 cU 40) (G1 cU 41))) (G1 cU 42))))))) (S1 (G1 cU 43) (S1 (G1 cU 44) (S1 (G1 cU 45) .ret)))))))))))):=kr
end Go.Proofs.Tryz.K
namespace Go.Abs
section
variable{P:Program}{Y:fm}{rf:Bool}{ops:Array Oper}{dr:Bool}{cf:List (Nat×Nat)}{Q:Exit->St->Prop}{rest:List Oper}{env:Env}{m:Mem}{nx:Nat}{tr:kO}{t:Nat}{op:Op}{ty:TypeId}{pos:String}{after:Array Edge}{v:D}{rd:List Nat}
theorem B8{d:Option Nat}{e:cR}(he:cI P (aZ env op) m nx op e)(ha:fz env op.operands.toList)(K:aj P Y ops dr cf Q rest (St.put ⟨env,bT m e.aL,nx+e.new⟩ d e.val) (tr++[(e.rd,e.aL.map (·.1))])):
 aj P Y ops dr cf Q (⟨d,op,ty,pos,after,none⟩::rest) ⟨env,m,nx⟩ tr:=.inr ⟨.inl rfl,oh ha,e,he,K⟩
theorem AG(he:cI P (aZ env op) m nx op ⟨True,v,[],rd,0⟩)(ha:fz env op.operands.toList)(K:aj P Y ops dr cf Q rest ⟨up env t v,m,nx⟩ (tr++[(rd,[])])):
 aj P Y ops dr cf Q (⟨some t,op,ty,pos,after,none⟩::rest) ⟨env,m,nx⟩ tr:=B8 he ha K
theorem Up{row:Row}(he:cI P (aZ env op) m nx op ⟨True,v,[(nx,some row)],rd,1⟩)(ha:fz env op.operands.toList)(K:aj P Y ops dr cf Q rest ⟨up env t v,up m nx (some row),nx+1⟩ (tr++[(rd,[nx])])):
 aj P Y ops dr cf Q (⟨some t,op,ty,pos,after,none⟩::rest) ⟨env,m,nx⟩ tr:=B8 he ha K
theorem ahm{i:Nat}{row:Row}(he:cI P (aZ env op) m nx op ⟨True,v,[(i,none),(nx,some row)],rd,1⟩)(ha:fz env op.operands.toList)(K:aj P Y ops dr cf Q rest ⟨up env t v,up (up m i none) nx (some row),nx+1⟩ (tr++[(rd,[i,nx])])):
 aj P Y ops dr cf Q (⟨some t,op,ty,pos,after,none⟩::rest) ⟨env,m,nx⟩ tr:=B8 he ha K
theorem ahn{i:Nat}(he:cI P (aZ env op) m nx op ⟨True,v,[(i,none)],rd,0⟩)(ha:fz env op.operands.toList)(K:aj P Y ops dr cf Q rest ⟨up env t v,up m i none,nx⟩ (tr++[(rd,[i])])):
 aj P Y ops dr cf Q (⟨some t,op,ty,pos,after,none⟩::rest) ⟨env,m,nx⟩ tr:=B8 he ha K
theorem Uq{i:Nat}{row:Option Row}(he:cI P (aZ env op) m nx op ⟨True,v,[(i,row)],rd,0⟩)(ha:fz env op.operands.toList)(K:aj P Y ops dr cf Q rest ⟨env,up m i row,nx⟩ (tr++[(rd,[i])])):
 aj P Y ops dr cf Q (⟨none,op,ty,pos,after,none⟩::rest) ⟨env,m,nx⟩ tr:=B8 he ha K
variable{x y z:Operand}{src dst tt u p:TypeId}{a b:ByteArray}{l:List Int}{i off n:Nat}{cs es:List D}{k k':IntKind}
theorem aej(hx:(opd env x).core=.s (.string a))(hy:(opd env y).core=.s (.string b))(h:a.size+b.size<=maxLen):cI P (aZ env (.binOp .add tt x y p)) m nx (.binOp .add tt x y p) ⟨True,.s (.string (a++b)),[],[],0⟩:=.add tt p x y a b hx hy h
theorem YV{s:Operand}{e:TypeId}(hs:(opd env s).core=.z)(hx:(opd env x).core=.s (.string b))(he:aq P tt=e)(ht:pc P tt)(hu:eN P u=true)(hb:b.size<=140737488355328)(h1:P.bytesOf e=1):
 cI P (aZ env (.call { callee:=.builtin .append,args:= #[s,x],argTypes:= #[tt,u] })) m nx (.call { callee:=.builtin .append,args:= #[s,x],argTypes:= #[tt,u] }) ⟨True,.rs nx 0 b.size,[(nx,some (.cells (eV b) e))],[],1⟩:=by
 subst he;exact .uQ _ s x tt u b rfl hs hx ht hu (by unfold maxLen;omega) (by rw[h1];omega)
theorem aap{s:Operand}{e:TypeId}(hs:(opd env s).core=.rs i off n)(hx:(opd env x).core=.s (.string b))(hi:m i=some (.cells cs e))(he:aq P tt=e)(ht:pc P tt)(hu:eN P u=true)(hf:off+n=cs.length)(hb:n+b.size<=140737488355328)(h1:P.bytesOf e=1):
 cI P (aZ env (.call { callee:=.builtin .append,args:= #[s,x],argTypes:= #[tt,u] })) m nx (.call { callee:=.builtin .append,args:= #[s,x],argTypes:= #[tt,u] }) ⟨True,.rs nx 0 (n+b.size),[(i,none),(nx,some (.cells (cs.drop off++eV b) e))],[i],1⟩:=by
 subst he;exact .vd _ s x tt u b i off n cs rfl hs hx hi ht hu hf (by unfold maxLen;omega) (by rw[h1];omega)
theorem ab7{s:Operand}{r:Row}(hs:(opd env s).core=.rs i off n)(hi:m i=some r)(hn:0<n):cI P (aZ env (.call { callee:=.builtin .unsafeSliceData,args:= #[s],argTypes:= #[tt] })) m nx (.call { callee:=.builtin .unsafeSliceData,args:= #[s],argTypes:= #[tt] }) ⟨True,.rp i off,[],[i],0⟩:=.vr _ s tt i off n r rfl hs hi hn
theorem adj{s:Operand}{e:TypeId}(hp:(opd env x).core=.rp i off)(hn:(opd env y).core=.s (.int k n))(C:l.length=n)(hi:m i=some (.cells cs e))(hl:(cs.drop off).take n=kB l)(h0:0<n)(ht:P.underlying tt=some (.pointer e))(he:P.cellsOf e=1)(hm:n<=maxLen)(hr:∀ x∈l,0<=x/\x<256):
 cI P (aZ env (.call { callee:=.builtin .unsafeString,args:= #[x,y],argTypes:= #[tt,u] })) m nx (.call { callee:=.builtin .unsafeString,args:= #[x,y],argTypes:= #[tt,u] }) ⟨True,.s (.string (mkStr l)),[(i,none)],[i],0⟩:=by
 subst C;exact .vH _ x y tt u e l i off cs k rfl hp hn hi hl (List.length_pos_iff.1 h0) ht he hm hr
theorem adk{d:D}(hb:yc tt=true)(hx:((opd env x).core).cells=[.s (.pointer none),d])(hd:d.one=true)(hs:P.cellsOf tt=2):cI P (aZ env (.box tt x)) m nx (.box tt x) ⟨True,.rp nx 0,[(nx,some (.bs false d tt))],[],1⟩:=.ye tt x d hb hx hd hs
theorem ED{q:Bool}{d:D}{T:TypeId}(ha:(opd env x).core=.rp i 1)(hi:m i=some (.bs q d T))(ht:aB P tt=true)(hg:bq P tt=false):cI P (aZ env (.load tt x)) m nx (.load tt x) ⟨True,d,[],[i],0⟩:=.xL tt x i q d T ha hi ht hg
theorem PZ{q:Bool}{d d':D}{T:TypeId}(ha:(opd env x).core=.rp i 1)(hi:m i=some (.bs q d T))(ht:aB P tt=true)(hg:bq P tt=false)(hy:(opd env y).core=d')(h1:d'.one=true):cI P (aZ env (.store tt x y)) m nx (.store tt x y) ⟨True,.aT [],[(i,some (.bs q d' T))],[i],0⟩:=by
 subst hy;exact .ve tt x y i q d T ha hi ht hg h1
end
end Go.Abs
section
open Go Go.Abs Go.Proofs Go.Argus
namespace Go.Proofs.Tryz.K
theorem TX{P:Program}{t e:TypeId}(h1:aW P t=true)(h2:aq P t=e)(C:P.underlying e=some (.int .u8))(J:P.cellsOf e=1):pc P t:=⟨h1,by rw[h2];exact C,by rw[h2];exact J⟩
theorem XY(a b:ByteArray):eV (a++b)=eV a++eV b:=by simp[eV]
def uq(m:Mem)(x:D)(a:ByteArray):Option Nat->Prop
 |none=>x=.z/\a=ByteArray.empty
 |some i=>x=.rs i 0 a.size/\m i=some (.cells (eV a) 5)
def clr(m:Mem):Option Nat->Mem
 |none=>m
 |some i=>up m i none
def Bh(m:Mem)(nx j:Nat)(T:TypeId)(a:ByteArray)(o:Option Nat):Mem:=up (up (clr m o) nx (some (.cells (eV a) 5))) j (some (.bs true (.rs nx 0 a.size) T))
theorem afC{m:Mem}{nx j:Nat}{r r':Row}{c:Row}:up (up (up m j (some r)) nx (some c)) j (some r')=up (up m nx (some c)) j (some r'):=by
 funext k;simp only[uE];by_cases hj:k=j<;>simp[hj]
theorem afD{m:Mem}{nx i j:Nat}{r r':Row}{c:Row}:up (up (up (up m j (some r)) i none) nx (some c)) j (some r')=up (up (up m i none) nx (some c)) j (some r'):=by
 funext k;simp only[uE];by_cases hj:k=j<;>simp[hj]
theorem Mq{m:Mem}{nx j:Nat}{u:Bool}{x:D}{T:TypeId}{a s:ByteArray}{o:Option Nat}(hj:m j=some (.bs u x T))(hl:liesAt prog prog.depth T (2 / prog.cellsOf T) 0 158 1=true)
 (hb:uq m x a o) (ho:∀ i,o=some i->i≠j/\i<nx) (U:j<nx) (C:a.size+s.size<=140737488355328):
 dB prog 182 [.rp j 0,S s] m nx fun d m' an=>d=.aT [I s.size,.s .nilIface]/\m'=Bh m nx j T (a++s) o/\an=nx+1:=by
 refine lF afE ?_;rw[afF];refine ws ?_;refine ab ?_;refine er ?_;refine au (ie (v:=.rp _ _) rfl) aO trivial ?_;refine fU (UR hj hl) rfl aO fun d m' an h=>?_;obtain⟨rfl,rfl,rfl⟩:=h;refine aa ?_;dsimp only[St.put];refine ws ?_;have af:up m j (some (Row.bs true x T)) j=some (.bs true x T):=ai _ _ _;cases o with
 |none=>
  obtain⟨rfl,rfl⟩:=hb;replace C:s.size<=140737488355328:=by simpa using C
  refine bj ?_;refine AG (ED rfl af V.h V.h) ak ?_;refine SS ?_;refine Up (YV rfl rfl V.h (TX V.h V.h V.h V.h) V.h C V.h) ak ?_;refine au (FC rfl (ah oG af)) ak trivial ?_;refine au (nt rfl (ah oG af) V.h) ak (lP V.h) ?_;refine Uq (PZ rfl (ah oG af) V.h V.h rfl rfl) ak ?_;refine er ?_;refine bj ?_;refine aa (zY (d:=I s.size) (e:=.s .nilIface) rfl rfl ⟨rfl,?_,rfl⟩);show up (up (up m j (some (.bs true .z T))) _ (some (.cells (eV s) 5))) j (some (.bs true (.rs _ 0 s.size) T))=Bh m _ j T (ByteArray.empty++s) none;rw[afC,ByteArray.empty_append];rfl
 |some i=>
  obtain⟨rfl,hi⟩:=hb;have J:=(ho i rfl).1;have O:=(ho i rfl).2;have bM:up m j (some (Row.bs true (.rs i 0 a.size) T)) i=some (.cells (eV a) 5):=ah J hi;have hlen:(eV a).length=a.size:=by simp[eV]
  refine bj ?_;refine AG (ED rfl af V.h V.h) ak ?_;refine SS ?_;refine ahm (aap rfl rfl bM V.h (TX V.h V.h V.h V.h) V.h (by first|rfl|omega|(simp;done)|(simp;omega)) C V.h) ak ?_;refine au (FC rfl (ah oG (ah oG af))) ak trivial ?_;refine au (nt rfl (ah oG (ah oG af)) V.h) ak (lP V.h) ?_;refine Uq (PZ rfl (ah oG (ah oG af)) V.h V.h rfl rfl) ak ?_;refine er ?_;refine bj ?_;refine aa (zY (d:=I s.size) (e:=.s .nilIface) rfl rfl ⟨rfl,?_,rfl⟩);show up (up (up (up m j (some (.bs true (.rs i 0 a.size) T))) i none) _ (some (.cells ((eV a).drop 0++eV s) 5))) j (some (.bs true (.rs _ 0 (a.size+s.size)) T))=Bh m _ j T (a++s) (some i);rw[afD,List.drop_zero, <- XY,Bh,ByteArray.size_append];rfl
theorem Lc{l:List Int}{g:FuncId}{fs cs:List D}{p:Int->ByteArray}(hl:l.length<=1000000)(ht:Tr (.fn (.func g) fs cs))(hg:∀ x∈l,aG prog g (fs++[I x]++cs) (S (p x))):gC prog 185 [az l,.fn (.func g) fs cs] ((l.map p).map S) l.length 9:=by
 refine X9 TY.he (.cons (cC _) (.cons ht .nil)) fun U=>?_;have hlen:=(U (az l) oS).sl.1;unfold maxLen at hlen;refine sF TY (.cons (cC _) (.cons ht .nil)) (.map fun _=>.s _) ?_;rw[afG];refine ws ?_;refine SS ?_;refine aa (aI ?_);refine SS ?_;refine aa ⟨_,.mE _ _ _ 5 9 rfl,aX (aI ?_)⟩;refine aJ ?_
 refine aa (c6 (fun s=>∃ r m nx,aC prog s ⟨ay [(5,.rs r 0 l.length)],m,nx⟩/\m r=some (.cells ((l.map p).map S) 9)) (cZ (α:=Nat×Nat×Mem×Nat)
  (fun s=>⟨ay [(1,.fn (.func g) fs cs),(5,.rs s.2.1 0 s.1),(8,az l),(9,I l.length),(10,I s.1)],s.2.2.1,s.2.2.2⟩)
  (fun s=>s.1<=l.length/\s.2.1<s.2.2.2/\s.2.2.1 s.2.1=some (.cells (((l.take s.1).map p).map S) 9)) (fun s=>l.length - s.1) (0,_,_,_)
  (ao eH) ⟨Nat.zero_le _,Nat.lt_succ_self _,rfl⟩ ?_) ?_)
 .rintro⟨j,r,m,nx⟩ ⟨hj,hr,af⟩;dsimp only at hj hr af ⊢;refine SS ?_;refine aa ⟨_,rfl,fun h=>?_,fun h=>?_⟩
  .have O:j<l.length:=by simpa using h
   have hx:l[j]? =some l[j]:=by simp[O]
   have J:=hg l[j] (eE _)
   have C:((l.take (j+1)).map p).map S=((l.take j).map p).map S++[S (p l[j])]:=by
    rw[List.take_add_one,hx,List.map_append,List.map_append];rfl
   have X:(((l.take j).map p).map S).length=j:=by simp;omega
   generalize l[j]=x at hx J C;generalize ((l.take j).map p).map S=ds at af C X;refine ws ?_;refine aJ ?_;refine aa (fv ?_);refine aJ ?_;refine cl J ?_;refine SS ?_;refine lZ (lN rfl (ah oG af) rfl V.h V.h (sT (ai _ _ _) rfl) rfl) ak ⟨V.h,rfl,(by first|omega|exact bf rfl|(simp;done)|(simp;omega)),oC,(by first|rfl|(simp;done)|(simp;omega)),(by unfold maxLen;first|omega|(simp;omega)),(by rw[b9];first|omega|(simp;omega)),(by first|(simp;done)|(simp;omega))⟩ ?_;refine SS ?_;refine aa ?_;refine ab ?_;refine aa (bQ (j+1,nx+1,_,_) (ao eH) ⟨oM,oM,?_⟩ oM);dsimp only;rw[C];exact ai _ _ _
  .have bC:¬ j<l.length:=by simpa using h
   have:j=l.length:=by omega
   subst this;rw[List.take_length] at af;exact⟨r,m,nx,ao eH,af⟩
 .rintro s ⟨r,m,nx,hg,af⟩;refine⟨_,hg,ap ?_⟩;refine ab ?_;refine aa (aN rfl ⟨r,rfl,af⟩)
theorem Mr{l:List Int}{g:FuncId}{fs cs:List D}{p:Int->Int}(hl:l.length<=1000000)(ht:Tr (.fn (.func g) fs cs))(hg:∀ x∈l,aG prog g (fs++[U8 x]++cs) (I (p x))):aG prog 186 [ej l,.fn (.func g) fs cs] (az (l.map p)):=by
 refine qb TZ.he (.cons (nv _) (.cons ht .nil)) fun U=>?_;have hlen:=(U (ej l) oS).sl.1;unfold maxLen at hlen;refine bK TZ (.cons (nv _) (.cons ht .nil)) (cC _) ?_;rw[afH];refine ws ?_;refine SS ?_;refine aa (aI ?_);refine SS ?_;refine aa ⟨_,.mE _ _ _ 5 3 rfl,aX (aI ?_)⟩;refine aJ ?_
 refine aa (c6 (fun s=>∃ r m nx,aC prog s ⟨ay [(5,.rs r 0 l.length)],m,nx⟩/\m r=some (.cells ((l.map p).map I) 3)) (cZ (α:=Nat×Nat×Mem×Nat)
  (fun s=>⟨ay [(1,.fn (.func g) fs cs),(5,.rs s.2.1 0 s.1),(8,ej l),(9,I l.length),(10,I s.1)],s.2.2.1,s.2.2.2⟩)
  (fun s=>s.1<=l.length/\s.2.1<s.2.2.2/\s.2.2.1 s.2.1=some (.cells (((l.take s.1).map p).map I) 3)) (fun s=>l.length - s.1) (0,_,_,_)
  (ao eH) ⟨Nat.zero_le _,Nat.lt_succ_self _,rfl⟩ ?_) ?_)
 .rintro⟨j,r,m,nx⟩ ⟨hj,hr,af⟩;dsimp only at hj hr af ⊢;refine SS ?_;refine aa ⟨_,rfl,fun h=>?_,fun h=>?_⟩
  .have O:j<l.length:=by simpa using h
   have hx:l[j]? =some l[j]:=by simp[O]
   have J:=hg l[j] (eE _)
   have C:((l.take (j+1)).map p).map I=((l.take j).map p).map I++[I (p l[j])]:=by
    rw[List.take_add_one,hx,List.map_append,List.map_append];rfl
   have X:(((l.take j).map p).map I).length=j:=by simp;omega
   generalize l[j]=x at hx J C;generalize ((l.take j).map p).map I=ds at af C X;refine ws ?_;refine aJ ?_;refine aa (fv ?_);refine aJ ?_;refine cl J ?_;refine aJ ?_;refine aa ?_;refine ab ?_;refine aa (bQ (j+1,nx+1,_,_) (ao eH) ⟨oM,oM,?_⟩ oM);dsimp only;rw[C];exact ai _ _ _
  .have bC:¬ j<l.length:=by simpa using h
   have:j=l.length:=by omega
   subst this;rw[List.take_length] at af;exact⟨r,m,nx,ao eH,af⟩
 .rintro s ⟨r,m,nx,hg,af⟩;refine⟨_,hg,aI ?_⟩;refine ab ?_;refine aa (ca (mv af (l:=[(4,az (l.map p))]) ⟨?_,trivial⟩) (aN rfl rfl));exact(zq (by rw[c3];simp)).trans oS
theorem aiz{n:Int}:aG prog 187 [U8 n] (I (jg n)):=by
 refine bK afI (by simp[Tr.s]) (Tr.s _) ?_;rw[afJ];refine ws ?_;refine SS ?_;refine er ?_;refine aJ ?_;exact aa (aN rfl rfl)
theorem Vb{l:List Int}(hl:l.length<=1000000):aG prog 111 [ej l] (az (l.map jg)):=by
 have Mr:=Mr (l:=l) (g:=187) (fs:=[]) (cs:=[]) (p:=jg) hl (.fn oS oS) fun x _=>aiz;refine bK afK (.cons (nv _) .nil) (cC _) ?_;rw[afL];refine ws ?_;refine SS ?_;refine er ?_;refine SS ?_;refine cl Mr ?_;refine SS ?_;exact aa (aN rfl rfl)
theorem Vc{m:Mem}{nx j k n:Nat}{u:Bool}{x:D}{a:ByteArray}{o:Option Nat}{wsq:List ByteArray}(hj:m j=some (.bs u x 160))(hk:m k=some (.cells (wsq.map S) 9))(hb:uq m x a o)(hn:n=wsq.length)
 (ho:∀ i,o=some i->i≠j/\i<nx) (O:j<nx) (U:wsq.length<=1000000) (hs:a.size+(gJ wsq).size<=140737488355328):
 dB prog 108 [.rp j 0,.rs k 0 n] m nx fun d m' an=>d=.aT []/\m'=Bh m nx j 160 (a++gJ wsq) o/\an=nx+1:=by
 subst hn;have br:(gJ wsq).size=(xV wsq ⟨#[32]⟩).size+1:=by rw[gJ,ByteArray.size_append];rfl
 have G4:=G4 (l:=wsq) (sep:=⟨#[32]⟩) oG (by
  have:(xV wsq ⟨#[32]⟩).size=(Lib.join (wsq.map (·.data.toList)) [32]).length:=rfl;show(Lib.join (wsq.map (·.data.toList)) [32]).length<=_
  omega)
 have C:(0:Nat)=0->jM prog [k] m [.rs k 0 wsq.length,S ⟨#[32]⟩] [iz wsq,S ⟨#[32]⟩]:=fun _=>⟨Cl hk oS (by rw[c9,List.drop_zero,dR oS]) (.map fun _=>.s _),cz (.s _),trivial⟩
 have Mq:=Mq (s:=gJ wsq) hj Rp hb ho O hs;refine lF afN ?_;rw[afO];have af:=hj;refine JE ZE kr ?_
 have J:(xV wsq ⟨#[32]⟩).size+(⟨#[10]⟩:ByteArray).size<=maxLen:=by
  show(xV wsq ⟨#[32]⟩).size+1<=_;unfold maxLen;omega
 refine bj ?_;refine aeL G4 rfl (C rfl) rfl ak ?_;refine AG (aej rfl rfl J) ak ?_;refine cG cP ?_;refine fU Mq rfl aO fun d m' an h=>?_;obtain⟨rfl,rfl,rfl⟩:=h;exact aa (xz ⟨rfl,rfl,rfl⟩)
def Cn(m:Mem)(nx j:Nat)(a:ByteArray)(o:Option Nat)(d:D)(m':Mem)(an:Nat):Prop:=
 d=.aT []/\∃ q,q≠j/\nx<=q/\q<an/\m' j=some (.bs true (.rs q 0 a.size) 160)/\m' q=some (.cells (eV a) 5)/\∀ i,i<nx->i≠j->o≠some i->m' i=m i
theorem Qn{m C:Mem}{nx n0 j:Nat}{a:ByteArray}{o:Option Nat}(hj:j<n0)(hn:n0<=nx)(hm:∀ i,i<n0->m i=C i):Cn C n0 j a o (.aT []) (Bh m nx j 160 a o) (nx+1):=by
 refine⟨rfl,nx,oG,hn,oG,ai _ _ _,(aA _ _ oG).trans (ai _ _ _),fun i hi h1 h2=>?_⟩;refine((aA _ _ h1).trans (aA _ _ oG)).trans ?_;cases o with
 |none=>exact hm i hi
 |some k=>exact(aA _ _ (fun e=>h2 (by rw[e]))).trans (hm i hi)
theorem uq.mono{m m':Mem}{x:D}{a:ByteArray}{o:Option Nat}(h:uq m x a o)(hm:∀ i,o=some i->m' i=m i):uq m' x a o:=by
 cases o with
 |none=>exact h
 |some i=>exact⟨h.1,(hm i rfl).trans h.2⟩
theorem G5{m:Mem}{nx j:Nat}{u:Bool}{x y:D}{a word:ByteArray}{o:Option Nat}{l:List Int}(hj:m j=some (.bs u x 160))(hb:uq m x a o)
 (ho:∀ i,o=some i->i≠j/\i<nx) (X:j<nx) (hy:y=az l\/∃ k,k<nx/\y=.rs k 0 l.length/\m k=some (.cells (l.map I) 3)) (hi:∀ n∈l,i64 n) (hl:l.length<=100000)
 (hs:a.size+(gJ (word::l.map fc)).size<=140737488355328):
 dB prog 110 [.rp j 0,S word,y] m nx (Cn m nx j (a++gJ (word::l.map fc)) o):=by
 have Lc:=Lc (l:=l) (g:=109) (fs:=[]) (cs:=[]) (p:=fc) oG (.fn oS oS) fun n hn=>Ms (hi n hn).1 (hi n hn).2;have O:Tr (.fn (.func 109) [] []):=.fn oS oS
 have key:∃ a7,jM prog a7 (up m nx (some (.cells [S word] 9))) [y,.fn (.func 109) [] []] [az l,.fn (.func 109) [] []]:=by
  rcases hy with rfl|⟨k,hk,rfl,o7⟩
  .exact⟨[],cz (cC l),cz O,trivial⟩
  .exact⟨[k],Cl (ah oG o7) oS (by rw[c3,List.drop_zero,dR oS]) (.map fun _=>.s _),cz O,trivial⟩
 obtain⟨a7,kN⟩:=key;have U:=Lc.snap (nx:=nx+1) kN (by simp[D.gL]);have C:y.core=y:=by rcases hy with rfl|⟨k,_,rfl,_⟩<;>rfl
 have J:y.ask:=by rcases hy with rfl|⟨k,_,rfl,_⟩<;>trivial
 refine lF afP ?_;rw[afQ];refine lJ ?_;refine aJ ?_;refine au (ie (v:=y) C) (by repeat' (first|exact trivial|exact J|refine And.intro ?_ ?_)) trivial ?_;refine fU U (by show some (185,[y.core,D.fn (Fn.func 109) [] []])=_;rw[C]) (by repeat' (first|exact trivial|exact C|exact J|exact rfl|refine And.intro ?_ ?_)) fun d m' an h=>?_;obtain⟨rfl,rfl,rfl⟩:=h;dsimp only[St.put];refine lZ (lN rfl (ah oG (ai _ _ _)) rfl V.h V.h (sT (ai _ _ _) rfl) rfl) ak ⟨V.h,rfl,(by first|omega|exact bf rfl|(simp;done)|(simp;omega)),oC,(by first|rfl|(simp;done)|(simp;omega)),(by unfold maxLen;first|omega|(simp;omega)),(by rw[b9];first|omega|(simp;omega)),(by first|(simp;done)|(simp;omega))⟩ ?_;refine fU (Vc (k:=nx+1+1) (wsq:=word::l.map fc) (ah oG (ah oG (ah oG (ah oG hj)))) ((ai _ _ _).trans (by rw[List.drop_zero,List.drop_zero,dR oS];rfl)) (hb.mono fun i hi=>?_) oP (fun i hi=>⟨(ho i hi).1,by have:=(ho i hi).2;omega⟩) oG oP hs) rfl aO fun d m' an h=>?_
 .have:=(ho i hi).2;exact ah oG (ah oG (ah oG (ah oG rfl)))
 obtain⟨rfl,rfl,rfl⟩:=h;refine aa (xz (Qn X oG fun i hi=>?_));exact ah oG (ah oG (ah oG (ah oG rfl)))
theorem Ve{m:Mem}{nx j:Nat}{u:Bool}{y:D}{a word:ByteArray}{o:Option Nat}{x:bn}(hj:m j=some (.bs u y 160))(hb:uq m y a o)
 (ho:∀ i,o=some i->i≠j/\i<nx) (iF:j<nx) (hi:G6 x) (hl:x.args.length<=10000) (hs:a.size+(Vd word x).size<=140737488355328):
 dB prog 112 [.rp j 0,S word,.agg (bc x)] m nx (Cn m nx j (a++Vd word x) o):=by
 refine lF afR ?_;rw[afS];refine ws ?_;refine SS ?_;refine aa (lJ ?_);have af:up m nx (some (Row.cells (bc x) 45)) nx=some (.cells [U8 x.op,I x.to,I x.a,I x.b,I x.n,az x.args] 45):=ai _ _ _;have l0:(x.args.map I).take (x.args.length*1)=x.args.map I:=dR oS;refine bI ?_;refine bV ?_;refine au (nt rfl (ah oG af) V.h) ak (lP V.h) ?_;refine au (fQ rfl (ah oG af) rfl V.h) ak (fR V.h V.h rfl) ?_;refine lZ (lN rfl (ai _ _ _) rfl DG c3 (uF l0) rfl) aO ⟨Mt,rfl,oS,oC,rfl,by unfold maxLen;omega,by rw[b3];omega,oS⟩ ?_;refine fU (G5 (y:=.rs (nx+1+1) 0 (5+x.args.length)) (l:=vT x) (word:=word) (ah oG (ah oG (ah oG (ah oG hj)))) (hb.mono fun i hi=>?_) (fun i hi=>⟨(ho i hi).1,by have:=(ho i hi).2;omega⟩) oG (.inr ⟨nx+1+1,oG,congrArg (D.rs _ 0) (by simp[vT];omega),ai _ _ _⟩) hi (by simp[vT];omega) hs) rfl aO fun d m' an h=>?_
 .have:=(ho i hi).2;exact ah oG (ah oG (ah oG (ah oG rfl)))
 refine aa (xz ?_);obtain⟨rfl,q,h1,h2,C,J,O,U⟩:=h;exact⟨rfl,q,h1,oG,C,J,O,fun i hi X h8=>(U i oG X h8).trans (ah oG (ah oG (ah oG (ah oG rfl))))⟩
theorem aiA{m:Mem}{nx j i:Nat}{u:Bool}{a:ByteArray}{T:TypeId}(hj:m j=some (.bs u (.rs i 0 a.size) T))(hi:m i=some (.cells (eV a) 5))(h0:0<a.size)(hs:a.size<=140737488355328):
 dB prog 113 [.rp j 0] m nx fun d m' an=>d=S a/\m'=up m i none/\an=nx:=by
 refine lF afT ?_;rw[afU];refine ws ?_;refine SS ?_;refine aa (gZ ZF ?_);have af:=hj;have bM:=hi;have kn:=abj a;have X:((eV a).drop 0).take a.size=kB (vU a):=by rw[List.drop_zero,dR (by simp[eV]),adG]
 have J:=h0;have O:(prog).underlying 245=some (.pointer 5):=kr;have U:a.size<=maxLen:=by unfold maxLen;omega
 have C:=abk a;refine aJ ?_;refine AG (ED rfl af V.h V.h) ak ?_;refine AG (ab7 rfl bM (by first|assumption|omega)) ak ?_;refine aJ ?_;refine AG (ED rfl af V.h V.h) ak ?_;refine SS ?_;refine ahn (adj (s:=.tmp 0) rfl rfl kn bM X J O c5 U C) aO ?_;refine SS ?_;refine cG cP (aN rfl ⟨?_,rfl,rfl⟩);exact congrArg (fun s=>D.s (.string s)) (acK a)
end Go.Proofs.Tryz.K
namespace Go.Proofs.Tryz.K
def l9(q:Nat)(a:ByteArray):Mem:=cq [(1,.bs true (.rs q 0 a.size) 160),(q,.cells (eV a) 5)]
theorem qY{q:Nat}{a:ByteArray}:l9 q a 1=some (.bs true (.rs q 0 a.size) 160):=by simp[l9,cq]
theorem NE{q:Nat}{a:ByteArray}(h:q≠1):l9 q a q=some (.cells (eV a) 5):=by simp[l9,cq,h]
theorem tE{q:Nat}{a:ByteArray}(h:q≠1):uq (l9 q a) (.rs q 0 a.size) a (some q):=⟨rfl,NE h⟩
theorem rT{m m':Mem}{nx an:Nat}{O:List (List ByteArray)}{w:List ByteArray}{o:Option Nat}{d:D}(h:Cn m nx 1 (fk O++gJ w) o d m' an)(h1:1<nx):
 ∃ q,1<q/\nx<=q/\q<an/\∀ (env:Env) (l:List (Nat×D)),lj l env->aC prog ⟨env,m',an⟩ ⟨ay l,l9 q (fk (O++[w])),an⟩:=by
 obtain⟨_,q,h2,U,X,C,J,_⟩:=h;rw[<- QC] at C J;exact⟨q,oG,U,X,fun env l hl=>bY hl ⟨C,J,trivial⟩⟩
theorem Co{m:Mem}{nx j k n:Nat}{u:Bool}{x:D}{a:ByteArray}{o:Option Nat}{wsq:List ByteArray}(hj:m j=some (.bs u x 160))(hk:m k=some (.cells (wsq.map S) 9))(hb:uq m x a o)(hn:n=wsq.length)
 (ho:∀ i,o=some i->i≠j/\i<nx) (C:j<nx) (J:wsq.length<=1000000) (hs:a.size+(gJ wsq).size<=140737488355328):
 dB prog 108 [.rp j 0,.rs k 0 n] m nx (Cn m nx j (a++gJ wsq) o):=
 (Vc hj hk hb hn ho C J hs).mono fun d m' an h=>by
  obtain⟨rfl,rfl,rfl⟩:=h;exact Qn C (a6 _) fun _ _=>rfl
theorem abU{σ:D->D}(h:∀ n,sub σ (.s n)=.s n)(a:ByteArray):(eV a).map (sub σ)=eV a:=by
 unfold eV;rw[List.map_map];exact List.map_congr_left fun c _=>h _
theorem Gw{P:Program}{env:Env}{m:Mem}{nx n' q:Nat}{a:ByteArray}{cs:List D}{e:TypeId}{l:List (Nat×D)}(hm:m nx=some (.cells cs e))(h1:m 1=l9 q a 1)(h2:m q=l9 q a q)(bG:1<q)(C:q<nx)
 (hl:lj l fun t=>sub (c7 nx cs (P.cellsOf e)) (env t)):aC P ⟨env,m,n'⟩ ⟨ay l,l9 q a,n'⟩:=by
 refine uC hm hl ⟨?_,?_,trivial⟩
 .show(if 1=nx then none else(m 1).map _)=_;rw[if_neg oG,h1,qY];show some (Row.bs true (sub (c7 nx cs (P.cellsOf e)) (.rs q 0 a.size)) 160)=_;rw[Ql oG]
 .show(if q=nx then none else(m q).map _)=_;rw[if_neg oG,h2,NE oG];show some (Row.cells ((eV a).map (sub (c7 nx cs (P.cellsOf e)))) 5)=_;rw[abU fun _=>rfl]
theorem EQ{i sz:Nat}{cs:List D}:sub (c7 i cs sz) (.rp i 0)=.pt cs:=pI.trans (by rw[List.drop_zero])
end Go.Proofs.Tryz.K
namespace Go.Proofs.Tryz.K
theorem Ld{n:Int}(h:i64 n):aG prog 109 [I n] (S (fc n)):=Ms h.1 h.2
theorem acL{f:aU}(lE:gB f=0)(ht:Cc f):aG prog 51 [.agg (aF f)] (.aT [S (Au f),I 0]):=by
 have jz:=jz (f:=f);rw[lE] at jz;have kR:=Vb (l:=f.al) (by have:=ht.al;omega);have kS:=Vb (l:=f.bz) (by have:=ht.bz;omega);have hsg:=ht.sigs
 have Vf:∀ l:List Int,∀ n∈l.map jg,i64 n:=fun l n hn=>by
  obtain⟨x,_,rfl⟩:=List.mem_map.1 hn;exact zL x
 have Dj:(fk []).size+(gJ [xW,f.name,rS f,fc f.args,fc (jg f.result)]).size<=140737488355328:=ht.le ⟨_,rfl⟩;have Dk:(fk [[xW,f.name,rS f,fc f.args,fc (jg f.result)]]).size+(gJ (Av::(f.al.map jg).map fc)).size<=140737488355328:=ht.le ⟨_,rfl⟩;have Wr:(fk [[xW,f.name,rS f,fc f.args,fc (jg f.result)],Av::(f.al.map jg).map fc]).size+(gJ (Cd::(f.bz.map jg).map fc)).size<=140737488355328:=ht.le ⟨_,rfl⟩;have Ws:(fk [[xW,f.name,rS f,fc f.args,fc (jg f.result)],Av::(f.al.map jg).map fc,Cd::(f.bz.map jg).map fc]).size+(gJ (Et::f.signals)).size<=140737488355328:=ht.le ⟨_,rfl⟩;refine bK Vg (.cons (.agg (nz f)) .nil) (.aT (.cons (.s _) (.cons (.s _) .nil))) ?_;rw[Vh];refine aI ?_;refine aJ ?_;refine aa (ca (dX [(0,aF f,26)] eH (l:=[(1,.pt (aF f))]) eH) (aX (ap ?_)));refine SS ?_;refine cl jz ?_;refine SS ?_;refine aa (aX (ap ?_));refine ab ?_;refine aa (K8 (eF (ap ?_)));refine SS ?_;refine Up (adk rfl rfl rfl V.h) ak ?_;refine SS ?_;refine er ?_;refine SS ?_;refine aa (cL (fun s=>aC prog s ⟨ay [(1,.pt (aF f)),(5,.rp 1 0),(6,S (rS f))],cq [(1,.bs false .z 160)],2⟩) (ap ?_) fun s hs=>⟨_,hs,Xt abl kr ?_⟩)
 .refine ab ?_;refine aa (aE rfl (fun hi=>?_) fun hi=>?_)
  .refine lJ ?_;refine SS ?_;refine aa (bY ⟨rfl,rfl,?_,trivial⟩ eH);rw[rS,hi];rfl
  .refine ig (bY ⟨rfl,rfl,?_,trivial⟩ eH);rw[rS,hi];rfl
 refine dV ?_;refine oF (Ld ht.args) rfl aO ?_;refine aJ ?_;refine oF (Ld (zL f.result)) rfl aO ?_;refine SS ?_;refine cG cP ?_;refine fU (Co (wsq:=[xW,f.name,rS f,fc f.args,fc (jg f.result)]) (a:=fk []) (o:=none) rfl rfl ⟨rfl,rfl⟩ rfl (fun i hi=>by cases hi) oG oS Dj) rfl aO fun d m nx h=>?_;refine aa ?_;dsimp only[St.put];obtain⟨q,bG,_,C,hg⟩:=rT h oG;refine⟨_,hg _ [(1,.pt (aF f)),(5,.rp 1 0)] ⟨rfl,rfl,trivial⟩,aI ?_⟩;clear hg h;refine aJ ?_;refine oF kR rfl aO ?_;refine fU (G5 (word:=Av) qY (tE oG) (fun i hi=>by cases hi;omega) oG (.inl rfl) (Vf _) (by simp;have:=ht.al;omega) Dk) rfl aO fun d m nx h=>?_;refine aa ?_;dsimp only[St.put];obtain⟨q,bG,_,C,hg⟩:=rT h oG;refine⟨_,hg _ [(1,.pt (aF f)),(5,.rp 1 0)] ⟨rfl,rfl,trivial⟩,aI ?_⟩;clear hg h;refine aJ ?_;refine oF kS rfl aO ?_;refine fU (G5 (word:=Cd) qY (tE oG) (fun i hi=>by cases hi;omega) oG (.inl rfl) (Vf _) (by simp;have:=ht.bz;omega) Wr) rfl aO fun d m nx h=>?_;refine aa ?_;dsimp only[St.put];obtain⟨q,bG,_,C,hg⟩:=rT h oG;refine⟨_,hg _ [(1,.pt (aF f)),(5,.rp 1 0)] ⟨rfl,rfl,trivial⟩,aI ?_⟩;clear hg h;have X:(f.signals.map S).take (f.signals.length*1)=f.signals.map S:=dR oS;refine bj ?_;refine lZ (lN rfl (ai _ _ _) rfl y4 c9 (uF X) rfl) aO ⟨CO,rfl,oS,oC,rfl,by unfold maxLen;omega,by rw[b9];omega,oS⟩ ?_;refine fU (Co (wsq:=Et::f.signals) (ah oG (ah oG (ah oG qY))) (ai _ _ _) ((tE oG).mono fun i hi=>?_) oP (fun i hi=>by cases hi;omega) oG oP Ws) rfl aO fun d m nx h=>?_
 .cases hi;exact ah oG (ah oG (ah oG rfl))
 refine aa ?_;dsimp only[St.put];obtain⟨q,bG,_,C,hg⟩:=rT h oG;refine⟨_,hg _ [(1,.pt (aF f)),(5,.rp 1 0)] ⟨rfl,rfl,trivial⟩,aX (aI ?_)⟩;clear hg h;refine bj ?_;have CP:ku f f.blocks.length=mM f:=by rw[ku,List.take_length];rfl
 have dz:=ht.aiE
 refine aa (c6 (fun s=>∃ q nx,1<q/\q<nx/\aC prog s ⟨ay [(5,.rp 1 0)],l9 q (fk (mM f)),nx⟩) (cZ (α:=Nat×Nat×Nat)
  (fun s=>⟨ay [(5,.rp 1 0),(53,cF f.blocks),(54,I f.blocks.length),(55,I s.1)],l9 s.2.1 (fk (ku f s.1)),s.2.2⟩)
  (fun s=>s.1<=f.blocks.length/\1<s.2.1/\s.2.1<s.2.2) (fun s=>f.blocks.length - s.1) (0,q,nx)
  (ao eH) ⟨Nat.zero_le _,bG,C⟩ ?_) ?_)
 .clear Dj Dk Wr Ws kR kS bG C X;rintro⟨k,q,nx⟩ ⟨hk,bG,C⟩;dsimp only at hk bG C ⊢;refine SS ?_;refine aa ⟨_,rfl,fun h=>?_,fun h=>?_⟩
  .have gU:k<f.blocks.length:=by simpa using h
   clear h;obtain⟨b,hb⟩:∃ b,f.blocks[k]? =some b:=⟨_,bx gU⟩
   have lX:=cX hb;have sD:=ht.aiF b lX;have fM:=ht.ins b lX;have O:=ht.fin b lX;refine aI ?_;refine bj ?_;refine aa ⟨_,Gw (cs:=bi b) (e:=69) (ai _ _ _) (ah oG (ah oG rfl)) (ah oG (ah oG rfl)) bG C (l:=[(5,.rp 1 0),(53,cF f.blocks),(54,I f.blocks.length),(55,I k),(8,.pt (bi b))]) ⟨zA oG,rfl,rfl,rfl,EQ,trivial⟩,aI ?_⟩;refine ab ?_;refine fU (Co (wsq:=[oz]) (ah oG qY) (ai _ _ _) ((tE oG).mono fun i hi=>by cases hi;exact(ah oG rfl)) rfl (fun i hi=>by cases hi;omega) oG oS (ht.le (IS hb ⟨_,rfl⟩))) rfl aO fun d m nx h=>?_;refine aa ?_;dsimp only[St.put];obtain⟨q,bG,_,C,hg⟩:=rT h oG;refine⟨_,hg _ [(5,.rp 1 0),(53,cF f.blocks),(54,I f.blocks.length),(55,I k),(8,.pt (bi b))] ⟨rfl,rfl,rfl,rfl,rfl,trivial⟩,aX (aI ?_)⟩;clear hg h;refine bj ?_
   refine aa (c6 (fun s=>∃ q nx,1<q/\q<nx/\aC prog s ⟨ay [(5,.rp 1 0),(53,cF f.blocks),(54,I f.blocks.length),(55,I k),(8,.pt (bi b))],l9 q (fk (ku f k++([oz]::tF b))),nx⟩) (cZ (α:=Nat×Nat×Nat)
    (fun s=>⟨ay [(5,.rp 1 0),(53,cF f.blocks),(54,I f.blocks.length),(55,I k),(8,.pt (bi b)),(63,fg b.ins),(64,I b.ins.length),(65,I s.1)],l9 s.2.1 (fk (ku f k++([oz]::(b.ins.take s.1).map (mW si)))),s.2.2⟩)
    (fun s=>s.1<=b.ins.length/\1<s.2.1/\s.2.1<s.2.2) (fun s=>b.ins.length - s.1) (0,q,nx)
    (ao eH) ⟨Nat.zero_le _,bG,C⟩ ?_) ?_)
   .clear bG C;rintro⟨i,q,nx⟩ ⟨hi,bG,C⟩;dsimp only at hi bG C ⊢;refine SS ?_;refine aa ⟨_,rfl,fun h=>?_,fun h=>?_⟩
    .have jN:i<b.ins.length:=by simpa using h
     clear h;obtain⟨x,hx⟩:∃ x,b.ins[i]? =some x:=⟨_,bx jN⟩
     have np:=fM x (cX hx);have he:ku f k++([oz]::(b.ins.take (i+1)).map (mW si))=(ku f k++([oz]::(b.ins.take i).map (mW si)))++[mW si x]:=by rw[List.take_add_one,hx];simp
     have lA:(ku f k++([oz]::(b.ins.take i).map (mW si)))++[mW si x]<+:mM f:=by
      rw[<- he];refine IS hb ?_;unfold nG tF;refine(List.cons_prefix_cons).2 ⟨rfl,?_⟩;exact((List.take_prefix _ _).map _).trans (List.prefix_append _ _)
     refine aI ?_;refine bj ?_;refine aa ⟨_,Gw (cs:=bc x) (e:=45) (ai _ _ _) (ah oG (ah oG rfl)) (ah oG (ah oG rfl)) bG C (l:=[(5,.rp 1 0),(53,cF f.blocks),(54,I f.blocks.length),(55,I k),(63,fg b.ins),(64,I b.ins.length),(65,I i),(8,.pt (bi b)),(10,.pt (bc x))]) ⟨zA oG,rfl,rfl,rfl,rfl,rfl,rfl,rfl,EQ,trivial⟩,fv ?_⟩;refine ab ?_;refine fU (Ve (x:=x) (word:=si) qY (tE oG) (fun i hi=>by cases hi;omega) oG np.1 np.2 (ht.le lA)) rfl aO fun d m nx h=>?_;refine aa ?_;dsimp only[St.put];obtain⟨q,bG,_,C,hg⟩:=rT (w:=mW si x) h oG;refine ab ?_;refine aa (bQ (i+1,q,nx) ?_ ⟨oM,bG,C⟩ oM);dsimp only;rw[he];exact hg _ _ ⟨rfl,rfl,rfl,rfl,rfl,rfl,rfl,rfl,trivial⟩
    .have bC:¬ i<b.ins.length:=by simpa using h
     have:i=b.ins.length:=by omega
     subst this;rw[List.take_length];exact⟨q,nx,bG,C,ao eH⟩
   clear bG C;rintro s ⟨q,nx,bG,C,hg⟩;refine⟨_,hg,aI ?_⟩;clear hg;refine bj ?_;refine aa ⟨_,Gw (cs:=bE b.fin) (e:=48) (ai _ _ _) (ah oG (ah oG rfl)) (ah oG (ah oG rfl)) bG C (l:=[(5,.rp 1 0),(53,cF f.blocks),(54,I f.blocks.length),(55,I k),(11,.pt (bE b.fin))]) ⟨zA oG,rfl,rfl,rfl,EQ,trivial⟩,aI ?_⟩;generalize hfx:b.fin=x at*
   have X:(x.args.map I).take (x.args.length*1)=x.args.map I:=dR oS;have HK:=O.2.1;have hwl:=O.2.2.2.2.1;have hB:nG b=[oz]::(tF b++(tP x::(kH x++(ma x++x.aD.map lR)))):=by unfold nG;rw[hfx]
   have U:∀ A,A<+:kH x++(ma x++x.aD.map lR)->((ku f k++([oz]::tF b))++[tP x])++A<+:mM f:=fun A hA=>by
    have:=IS hb (p:=[oz]::(tF b++(tP x::A))) (by
     rw[hB]
     exact(List.cons_prefix_cons).2 ⟨rfl,(List.prefix_append_right_inj _).2 ((List.cons_prefix_cons).2 ⟨rfl,hA⟩)⟩)
    simpa[List.append_assoc] using this
   refine bI ?_;refine dc ?_;refine lZ (lN rfl (ai _ _ _) rfl DG c3 (uF X) rfl) aO ⟨Mt,rfl,oS,oC,rfl,by unfold maxLen;omega,by rw[b3];omega,oS⟩ ?_;refine fU (G5 (y:=.rs (nx+1+1) 0 (6+x.args.length)) (l:=vV x) (word:=Mu) (ah oG (ah oG (ah oG qY))) ((tE oG).mono fun i hi=>by cases hi;exact(ah oG (ah oG (ah oG rfl)))) (fun i hi=>by cases hi;omega) oG (.inr ⟨nx+1+1,oG,congrArg (D.rs _ 0) (by simp[vV];omega),ai _ _ _⟩) O.1 (by simp[vV];omega) (ht.le (p:=ku f k++([oz]::tF b)) (l:=tP x) (by simpa using U [] List.nil_prefix))) rfl aO fun d m nx h=>?_;refine aa ?_;dsimp only[St.put];obtain⟨q,bG,_,C,hg⟩:=rT (w:=tP x) h oG;generalize DH:(ku f k++([oz]::tF b))++[tP x]=T1 at*
   refine⟨_,hg _ [(5,.rp 1 0),(53,cF f.blocks),(54,I f.blocks.length),(55,I k),(11,.pt (bE x))] ⟨rfl,rfl,rfl,rfl,rfl,trivial⟩,cL (fun s=>∃ q nx,1<q/\q<nx/\aC prog s ⟨ay [(5,.rp 1 0),(53,cF f.blocks),(54,I f.blocks.length),(55,I k),(11,.pt (bE x))],l9 q (fk (T1++kH x)),nx⟩) (ap ?_) fun s hs=>?_⟩
   .refine aJ ?_;refine aa (aE rfl (fun hn=>?_) fun hn=>?_)
    .have J:kH x=[[Gx,x.name]]:=by
      unfold kH;rw[if_neg];intro he;simp[he] at hn
     refine lJ ?_;refine bj ?_;refine fU (Co (wsq:=[Gx,x.name]) (ah oG qY) (ai _ _ _) ((tE oG).mono fun i hi=>by cases hi;exact(ah oG rfl)) rfl (fun i hi=>by cases hi;omega) oG oS (ht.le (U _ (by rw[J];exact List.prefix_append _ _)))) rfl aO fun d m nx h=>?_;refine aa ?_;dsimp only[St.put];obtain⟨q,bG,_,C,hg⟩:=rT h oG;rw[J];exact⟨q,nx,bG,C,hg _ _ ⟨rfl,rfl,rfl,rfl,rfl,trivial⟩⟩
    .have J:kH x=[]:=by
      unfold kH;rw[if_pos];by_cases he:x.name.toList=[]
      .exact he
      .simp[he] at hn
     rw[J,List.append_nil];exact ig ⟨q,nx,bG,C,ao eH⟩
   clear hg h bG C;obtain⟨q,nx,bG,C,hg⟩:=hs;refine⟨_,hg,cL (fun s=>∃ q nx,1<q/\q<nx/\aC prog s ⟨ay [(5,.rp 1 0),(53,cF f.blocks),(54,I f.blocks.length),(55,I k),(11,.pt (bE x))],l9 q (fk ((T1++kH x)++ma x)),nx⟩) (ap ?_) fun s hs=>?_⟩
   .refine aJ ?_;refine aa (aE rfl (fun hn=>?_) fun hn=>?_)
    .have J:ma x=[mW AM x.ins]:=by
      unfold ma;rw[if_pos];simpa using hn
     have ND:(T1++kH x)++[mW AM x.ins]<+:mM f:=by
      rw[List.append_assoc];refine U _ ((List.prefix_append_right_inj _).2 ?_);rw[J];exact List.prefix_append _ _
     refine lJ ?_;refine aJ ?_;refine fU (Ve (x:=x.ins) (word:=AM) qY (tE oG) (fun i hi=>by cases hi;omega) oG O.2.2.1 O.2.2.2.1 (ht.le ND)) rfl aO fun d m nx h=>?_;refine aa ?_;dsimp only[St.put];obtain⟨q,bG,_,C,hg⟩:=rT (w:=mW AM x.ins) h oG;rw[J];exact⟨q,nx,bG,C,hg _ _ ⟨rfl,rfl,rfl,rfl,rfl,trivial⟩⟩
    .have J:ma x=[]:=by
      unfold ma;rw[if_neg];simpa using hn
     rw[J,List.append_nil];exact ig ⟨q,nx,bG,C,ao eH⟩
   clear hg bG C;obtain⟨q,nx,bG,C,hg⟩:=hs;refine⟨_,hg,aI ?_⟩;clear hg;refine bj ?_
   refine aa (cZ (α:=Nat×Nat×Nat)
    (fun s=>⟨ay [(5,.rp 1 0),(53,cF f.blocks),(54,I f.blocks.length),(55,I k),(110,jB x.aD),(111,I x.aD.length),(112,I s.1)],l9 s.2.1 (fk (((T1++kH x)++ma x)++(x.aD.take s.1).map lR)),s.2.2⟩)
    (fun s=>s.1<=x.aD.length/\1<s.2.1/\s.2.1<s.2.2) (fun s=>x.aD.length - s.1) (0,q,nx)
    (by dsimp only;rw[List.take_zero,List.map_nil,List.append_nil];exact ao eH) ⟨Nat.zero_le _,bG,C⟩ ?_)
   clear bG C;rintro⟨i,q,nx⟩ ⟨hi,bG,C⟩;dsimp only at hi bG C ⊢;refine SS ?_;refine aa ⟨_,rfl,fun h=>?_,fun h=>?_⟩
   .have jN:i<x.aD.length:=by simpa using h
    clear h;obtain⟨w,hw⟩:∃ w,x.aD[i]? =some w:=⟨_,bx jN⟩
    have MR:=O.2.2.2.2.2 w (cX hw);have he:((T1++kH x)++ma x)++(x.aD.take (i+1)).map lR=(((T1++kH x)++ma x)++(x.aD.take i).map lR)++[lR w]:=by rw[List.take_add_one,hw];simp
    have ND:(((T1++kH x)++ma x)++(x.aD.take i).map lR)++[lR w]<+:mM f:=by
     rw[<- he,List.append_assoc,List.append_assoc];exact U _ ((List.prefix_append_right_inj _).2 ((List.prefix_append_right_inj _).2 ((List.take_prefix _ _).map _)))
    refine aI ?_;refine bj ?_;refine aa ⟨_,Gw (cs:=dQ w) (e:=82) (ai _ _ _) (ah oG (ah oG rfl)) (ah oG (ah oG rfl)) bG C (l:=[(5,.rp 1 0),(53,cF f.blocks),(54,I f.blocks.length),(55,I k),(110,jB x.aD),(111,I x.aD.length),(112,I i),(13,.pt (dQ w))]) ⟨zA oG,rfl,rfl,rfl,rfl,rfl,rfl,EQ,trivial⟩,JE ZG kr ?_⟩;refine bV ?_;refine oF (Ld MR) rfl aO ?_;refine SS ?_;refine cG cP ?_;refine fU (Co (wsq:=lR w) (ah oG qY) (ai _ _ _) ((tE oG).mono fun i hi=>by cases hi;exact(ah oG rfl)) rfl (fun i hi=>by cases hi;omega) oG (by simp[lR]) (ht.le ND)) rfl aO fun d m nx h=>?_;refine aa ?_;dsimp only[St.put];obtain⟨q,bG,_,C,hg⟩:=rT (w:=lR w) h oG;show aj prog iu (Z dj 31) false [] _ (Z dj 31).toList _ [];refine ab ?_;refine aa (bQ (i+1,q,nx) ?_ ⟨oM,bG,C⟩ oM);dsimp only;rw[he];exact hg _ _ ⟨rfl,rfl,rfl,rfl,rfl,rfl,rfl,trivial⟩
   .have bC:¬ i<x.aD.length:=by simpa using h
    have:i=x.aD.length:=by omega
    subst this;rw[List.take_length];show aj prog iu (Z dj 32) false [] _ (Z dj 32).toList _ [];refine ab ?_;refine aa (bQ (k+1,q,nx) ?_ ⟨oM,bG,C⟩ oM);dsimp only;rw[Qo hb,show ku f k++nG b=((T1++kH x)++ma x)++x.aD.map lR by rw[hB, <- DH];simp[List.append_assoc]];exact ao eH
  .have bC:¬ k<f.blocks.length:=by simpa using h
   have:k=f.blocks.length:=by omega
   subst this;rw[CP];exact⟨q,nx,bG,C,ao eH⟩
 .rintro s ⟨q,nx,bG,C,hg⟩;refine⟨_,hg,ap ?_⟩
  have h0:0<(fk (mM f)).size:=by
   show 0<(gJ _++fk _).size;rw[ByteArray.size_append,gJ,ByteArray.size_append];have:(⟨#[10]⟩:ByteArray).size=1:=rfl;omega
  refine SS ?_;refine au (FC rfl rfl) ak trivial ?_;refine SS ?_;refine fU (aiA qY (NE oG) h0 ht.size) rfl aO fun d m nx h=>?_;obtain⟨rfl,rfl,rfl⟩:=h;dsimp only[St.put];refine ab ?_;exact aa (zY rfl rfl rfl)
theorem Bj{f:aU}(ht:gB f=0->Cc f):aG prog 51 [.agg (aF f)] (.aT [S (if gB f=0 then Au f else⟨#[]⟩),I (gB f)]):=by
 by_cases C:gB f=0
 .have h:=acL C (ht C);rw[if_pos C,C];exact h
 rw[if_neg C];have jz:=jz (f:=f);refine bK Vg (.cons (.agg (nz f)) .nil) (.aT (.cons (.s _) (.cons (.s _) .nil))) ?_;rw[Vh];generalize gB f=e at*
 have yv:(e !=0)=true:=by simpa using C
 refine aI ?_;refine aJ ?_;refine aa (ca (dX [(0,aF f,26)] eH (l:=[(1,.pt (aF f))]) eH) (aX (ap ?_)));refine SS ?_;refine cl jz ?_;refine SS ?_;refine aa (aX (ap ?_));refine SS ?_;refine J86 ?_;refine aa (K9 (aX (ap ?_)));refine aJ ?_;exact aa (hZ (zY rfl rfl rfl))
end Go.Proofs.Tryz.K
end
namespace Go.Argus
abbrev W8:=List UInt8
def vC:List W8->W8
 |[]=>[]
 |[w]=>w
 |w::v::l=>w++32::vC (v::l)
def Lm(wsq:List W8):W8:=vC wsq++[10]
def KA(w:W8):Prop:=(32:UInt8)∉w/\(10:UInt8)∉w
end Go.Argus
namespace Go.Argus
open Go
theorem PT:∀ (u:Nat),∀ c∈Lib.decDigits u,48<=c.toNat/\c.toNat<=57:=fun u=>by
 induction u using Nat.strongRecOn with
 |_ u ih=>
  intro c hc;rw[Lib.decDigits] at hc;split at hc
  .simp only[List.mem_cons,List.not_mem_nil,or_false] at hc;subst hc;rw[UInt8.toNat_ofNat_of_lt' (by simp[UInt8.size];omega)];omega
  .rw[List.mem_append] at hc;rcases hc with hc|hc
   .exact ih (u / 10) oG c hc
   .simp only[List.mem_cons,List.not_mem_nil,or_false] at hc;subst hc;rw[UInt8.toNat_ofNat_of_lt' (by simp[UInt8.size];omega)];omega
theorem YM(n:Int):∀ c∈Lib.itoa n,c.toNat=45\/(48<=c.toNat/\c.toNat<=57):=fun c hc=>by
 unfold Lib.itoa at hc;split at hc
 .rcases List.mem_cons.1 hc with rfl|hc
  .exact .inl rfl
  .exact .inr (PT _ c hc)
 .exact .inr (PT _ c hc)
theorem YN{u:Nat}:∀ (k:Nat),u<10 ^ (k+1)->Lib.nDigits u<=k+1:=fun k h=>by
 refine Classical.byContradiction fun hn=>?_
 have h1:∀ (j v:Nat),j+1<Lib.nDigits v->10 ^ (j+1)<=v:=by
  intro j
  induction j with
  |zero=>
   intro v hv;refine Classical.byContradiction fun hc=>?_;rw[Lib.nDigits_small oG] at hv;omega
  |succ j ih=>
   intro v hv;by_cases C:v<10
   .rw[Lib.nDigits_small C] at hv;omega
   .rw[Lib.nDigits_big C] at hv;have:=ih (v / 10) oG;rw[Nat.pow_succ];omega
 have:=h1 k u oG;omega
theorem X3(n:Int):KA (Lib.itoa n):=by
 constructor<;>intro h<;>have:=YM n _ h<;>revert this<;>decide
theorem join_eq:∀ l:List W8,Lib.join l [32]=vC l
 |[]=>rfl
 |[w]=>by rw[Lib.join_one];rfl
 |w::v::l=>by
  have ih:=join_eq (v::l);rw[Lib.join_cons] at ih ⊢;rw[vC, <- ih];simp[Lib.joinTail]
theorem PU:∀ l:List W8,(vC l).length<=(l.map fun w=>w.length+1).sum
 |[]=>by simp[vC]
 |[w]=>by simp[vC]
 |w::v::l=>by
  have ih:=PU (v::l);simp only[vC,List.length_append,List.length_cons,List.map_cons,List.sum_cons] at ih ⊢;omega
end Go.Argus
section
open Go Go.Abs Go.Proofs Go.Argus
namespace Go.Argus
def dH(n:Int):Prop:= -1000000000<=n/\n<=1000000000
theorem dH.i{n:Int}(h:dH n):i64 n:=by unfold dH at h;unfold i64;omega
structure xH(x:bn):Prop where
 to:dH x.to
 a:dH x.a
 b:dH x.b
 n:dH x.n
 args:∀ r∈x.args,dH r
 len:x.args.length<=1200
theorem tc{l:List Int}{r:Int}(hl:l.length<=1200)(h:fF l r):dH r:=by unfold fF at h;unfold dH;omega
theorem eC:dH 0:=by unfold dH;omega
theorem lg{l:List Int}(h:l.length=0):(∀ r∈l,dH r)/\l.length<=1200:=by
 cases l with
 |nil=>exact⟨oS,oS⟩
 |cons a l=>simp at h
theorem IY{l:List Int}{r want of:Int}(hl:l.length<=1200)(h:oA l r want of=true):dH r:=by
 by_cases C:want=0
 .unfold oA at h;rw[if_pos C] at h;have:r=0:=by simpa using h
  rw[this];exact eC
 .exact tc hl (Ex h C)
theorem YO:(dC++ek).all (fun x=>decide (-1000000000<=x.2.low)&&decide (x.2.high<=1000000000))=true:=by decide
theorem O0{l:List Int}{x:bn}{s:Shape}(hl:l.length<=1200)(hm:(x.op,s)∈dC\/(x.op,s)∈ek)(h:rz l x s=true):xH x:=by
 have hs:=cv.1 YO (x.op,s) (List.mem_append.2 hm);simp only[aw,decide_eq_true_eq] at hs;unfold rz at h;simp only[aw] at h;obtain⟨h1,h2,O,C,U⟩:=h;have hn:dH x.n:=by have:=iO.1 U;unfold dH;omega
 have J:(∀ r∈x.args,dH r)/\x.args.length<=1200:=by
  unfold uA at C;split at C
  .rw[aw] at C;have:=iO.1 C.1;exact⟨fun r hr=>tc hl (ru C.2 r hr),oG⟩
  .split at C
   .rw[aw] at C;have:(x.args.length:Int)=1:=by simpa using C.1
    exact⟨fun r hr=>tc hl (ru C.2 r hr),oG⟩
   .exact lg (by have:(x.args.length:Int)=0:=by simpa using C
                 omega)
 exact⟨IY hl h1,IY hl h2,IY hl O,hn,J.1,J.2⟩
theorem aae{f:aU}{b:Int}{ahead:Nat}{x:bn}{phis:Bool}(hl:f.al.length<=1200)(hs:∀ k∈f.bz,k≠0)(pj:f.bz.length<=60)(ha:ahead<=1200)(h:jD f b x phis ahead=true):xH x:=by
 unfold jD at h;have J:qw x=true->(∀ r∈x.args,dH r)/\x.args.length<=1200:=fun h=>lg (by unfold qw at h;simp at h;simp[h]);split at h
 .simp only[aw,dZ] at h;obtain⟨h1,h2,C,O,h5⟩:=h;exact⟨by rw[h1];exact eC,tc hl (iR oG),by rw[C];exact eC,by rw[O];exact eC,(J h5).1,(J h5).2⟩
 split at h
 .simp only[aw,dZ] at h;obtain⟨h1,h2,C,O⟩:=h;obtain⟨X,g2,U⟩:=zN hs O;exact⟨tc hl X,by rw[h1];exact eC,by rw[h2];exact eC,by unfold dH;omega,(J C).1,(J C).2⟩
 split at h
 .simp only[aw,dZ] at h;obtain⟨h1,h2,C,O⟩:=h;obtain⟨X,g2,U⟩:=zN hs O;exact⟨by rw[h1];exact eC,tc hl X,by rw[h2];exact eC,by unfold dH;omega,(J C).1,(J C).2⟩
 split at h
 .simp only[aw,dZ] at h;obtain⟨_,_,U,g4,g5,g6,g7,g8⟩:=h;have hk:cQ f.al x.to≠0:=fun e=>by simp[mH,e] at U
  refine⟨tc hl (qi U),by rw[g4];exact eC,by rw[g5];exact eC,by rw[g6];exact eC,fun r hr=>?_,oG⟩
  have:cS (cQ f.al r) (cQ f.al x.to)=true:=by
   simp only[Bool.not_eq_true',List.any_eq_false] at g8;simpa using g8 r hr
  rw[dZ] at this;exact tc hl (iR (by rw[this];exact hk))
 .rw[aw] at h;cases nV:cH dC x.op with
  |none=>rw[nV] at h;simp at h
  |some s=>rw[nV] at h;exact O0 hl (.inl (wR nV)) h.2
abbrev bW(w:ByteArray):W8:=w.data.toList
def iL(w:ByteArray):Prop:=w.size<=120/\KA (bW w)
theorem D1{s:ByteArray}{c:UInt8}(h:c∈bW s):(c.toNat:Int)∈qe s:=List.mem_map_of_mem (f:=fun c=>(c.toNat:Int)) h
theorem JW{s:ByteArray}(h:tu s=true):iL s:=by
 unfold tu at h;simp only[aw,Bool.not_eq_true',List.any_eq_false] at h;have h1:=iO.1 h.1;refine⟨oG,fun hc=>?_,fun hc=>?_⟩
 .exact absurd (h.2 _ (D1 hc)) oC
 .exact absurd (h.2 _ (D1 hc)) oC
theorem JX{s:ByteArray}(h:isName s=true):iL s:=by
 unfold isName at h;simp only[aw,Bool.not_eq_true',List.any_eq_false] at h;have h1:=iO.1 h.1;refine⟨oG,fun hc=>?_,fun hc=>?_⟩
 .exact absurd (h.2 _ (D1 hc)) oC
 .exact absurd (h.2 _ (D1 hc)) oC
theorem Ab{s:ByteArray}(h:s.toList=[]):iL s:=by
 rw[Ej] at h;refine⟨?_,?_⟩
 .have:s.size=(bW s).length:=rfl;rw[this];unfold bW;rw[h];simp
 .unfold bW;rw[h];simp[KA]
structure KC(x:End):Prop where
 kind:1<=x.kind/\x.kind<=9
 a:dH x.a
 b:dH x.b
 to:dH x.to
 gX:dH x.gX
 others:dH x.others
 args:∀ r∈x.args,dH r
 len:x.args.length<=1200
 ins:xH x.ins
 aD:x.aD.length<=7
 wh:∀ w∈x.aD,dH w.to/\isName w.name=true
 name:iL x.name
theorem abW{x:End}(h:vA x=true):(x.kind=0/\x.a=0/\x.b=0/\x.to=0/\x.gX=0/\x.others= -1)/\x.args.length=0/\x.aD.length=0/\x.name.toList=[]/\xH x.ins:=by
 simp only[vA,aw,decide_eq_true_eq,FY,beq_iff_eq] at h;obtain⟨h1,h2,h3,h4,h5,h6,h7,h8,h9,Bg,U,C,J,O,X⟩:=h;have:=lg (l:=x.ins.args) oG;exact⟨⟨h1,h2,h3,h4,h5,h7⟩,oG,oG,h6,by rw[U];exact eC,by rw[C];exact eC,by rw[J];exact eC,by rw[O];exact eC,this.1,this.2⟩
theorem X4{f:aU}{x:End}(hb:f.blocks.length<=1200)(h:qj f x=true):x.aD.length<=7/\(∀ w∈x.aD,dH w.to/\isName w.name=true)/\dH x.others:=by
 obtain⟨h1,h2,J⟩:=D7 h;refine⟨h1,fun w C=>⟨by have:=h2 w C;unfold dH;omega,?_⟩,?_⟩
 .unfold qj at h;rw[aw] at h;obtain⟨i,hi⟩:=fI C;have:=cv.1 h.1 (w,i) (List.mem_zipIdx_iff_getElem?.2 hi);simp only[rW,aw] at this;exact this.1
 .by_cases h0:0<=x.others
  .have:=J h0;unfold dH;omega
  .unfold qj at h;rw[aw,aw,Bool.or_eq_true] at h;rcases h.2.2 with h|h
   .have:x.others= -1:=by simpa using h
    unfold dH;omega
   .rw[eK,iO] at h;unfold dH;omega
theorem aaf{f:aU}{x:End}(hl:f.al.length<=1200)(mo:f.blocks.length<=1200)(hr:qg f=true)(h:mG f x=true):KC x:=by
 have X:∀ {r:Int},fF f.al r->dH r:=fun h=>tc hl h;unfold mG at h;rw[aw] at h;obtain⟨h,hb⟩:=h;have hb:=abW hb;have U:∀ {t:Int},eK f t=true->dH t:=fun h=>by rw[eK,iO] at h;unfold dH;omega
 have wO:dH (-1):=by unfold dH;omega
 have hh:=X4 (x:=x) mo;obtain⟨kind,a,b,to,gX,name,ins,args,aD,others⟩:=x;simp only[fy] at h hb;by_cases h1:kind=1
 .subst h1;simp only[if_true] at h hb;obtain⟨⟨b1,b2,b3,b4,b5,b6⟩,b7,b8,b9,k9⟩:=hb;have O:aD=[]:=List.length_eq_zero_iff.1 b8;subst O b2 b3 b5 b6;exact⟨(⟨oC,oC⟩:(1:Int)<=1/\(1:Int)<=9),eC,eC,U h,eC,wO,(lg b7).1,(lg b7).2,k9,oS,oS,Ab b9⟩
 by_cases h2:kind=2
 .subst h2;simp only[Int.reduceEq,if_false,if_true,aw,dZ] at h hb;obtain⟨⟨b1,b2,b3,b4,b5,b6⟩,b7,b8,b9,k9⟩:=hb;have O:aD=[]:=List.length_eq_zero_iff.1 b8;subst O b3 b6;exact⟨(⟨oC,oC⟩:(1:Int)<=2/\(2:Int)<=9),X (iR (l:=f.al) (r:=a) oG),eC,U h.2.1,U h.2.2,wO,(lg b7).1,(lg b7).2,k9,oS,oS,Ab b9⟩
 by_cases C:kind=3
 .subst C;simp only[Int.reduceEq,if_false,if_true] at h hb;obtain⟨⟨b1,b2,b3,b4,b5,b6⟩,b7,b8,b9,k9⟩:=hb;have O:aD=[]:=List.length_eq_zero_iff.1 b8;subst O b3 b4 b5 b6;refine⟨(⟨oC,oC⟩:(1:Int)<=3/\(3:Int)<=9),?_,eC,eC,eC,wO,(lg b7).1,(lg b7).2,k9,oS,oS,Ab b9⟩;split at h
  .rename_i hc;rw[dZ] at h;exact X (iR (by rw[h];exact hc.1))
  .rw[dZ] at h;show dH a;rw[h];exact wO
 by_cases J:kind=4
 .subst J;simp only[Int.reduceEq,if_false,if_true] at h hb;obtain⟨⟨b1,b2,b3,b4,b5,b6⟩,b7,b8,b9,k9⟩:=hb;have O:aD=[]:=List.length_eq_zero_iff.1 b8;subst O b2 b3 b4 b5 b6;exact⟨(⟨oC,oC⟩:(1:Int)<=4/\(4:Int)<=9),eC,eC,eC,eC,wO,(lg b7).1,(lg b7).2,k9,oS,oS,JX h⟩
 by_cases h5:kind=5
 .subst h5;simp only[Int.reduceEq,if_false,if_true,aw] at h hb;obtain⟨⟨b1,b2,b3,b4,b5,b6⟩,b7,b8,b9,k9⟩:=hb;obtain⟨h1,h2,C,J⟩:=h;obtain⟨g1,g2,g3⟩:=hh J;subst b2 b3 b5;refine⟨(⟨oC,oC⟩:(1:Int)<=5/\(5:Int)<=9),eC,eC,U C,eC,g3,(lg b7).1,(lg b7).2,?_,g1,g2,Ab b9⟩;cases nV:cH ek ins.op with
  |none=>rw[nV] at h1;simp at h1
  |some s=>rw[nV] at h2;exact O0 hl (.inr (wR nV)) h2
 by_cases h6:kind=6
 .subst h6;simp only[Int.reduceEq,if_false,if_true,aw,decide_eq_true_eq,Bool.or_eq_true,dZ] at h hb;obtain⟨⟨b1,b2,b3,b4,b5,b6⟩,b7,b8,b9,k9⟩:=hb;obtain⟨h1,h2,C,J,h5,h6⟩:=h;obtain⟨g1,g2,g3⟩:=hh h6;subst b3 b5;refine⟨(⟨oC,oC⟩:(1:Int)<=6/\(6:Int)<=9),?_,eC,U h5,eC,g3,fun r hr=>X (ru C r hr),?_,k9,g1,g2,JW h1⟩
  .show dH a;rcases J with rfl|J
   .exact wO
   .exact X (qi J)
  .show args.length<=1200;omega
 by_cases h7:kind=7
 .subst h7;simp only[Int.reduceEq,if_false,if_true,aw,decide_eq_true_eq,dZ] at h hb;obtain⟨⟨b1,b2,b3,b4,b5,b6⟩,b7,b8,b9,k9⟩:=hb;obtain⟨h1,h2,C,J,h5⟩:=h;have O:aD=[]:=List.length_eq_zero_iff.1 b8;subst O b3 b5 b6;refine⟨(⟨oC,oC⟩:(1:Int)<=7/\(7:Int)<=9),X (iR (l:=f.al) (r:=a) oG),eC,U h5,eC,wO,fun r hr=>X (ru C r hr),?_,k9,oS,oS,JW h1⟩;show args.length<=1200;omega
 by_cases h8:kind=8
 .subst h8;simp only[Int.reduceEq,if_false,if_true,aw,dZ] at h hb;obtain⟨⟨b1,b2,b3,b4,b5,b6⟩,b7,b8,b9,k9⟩:=hb;obtain⟨h1,h2,C,J,h5⟩:=h;obtain⟨g1,g2,g3⟩:=hh h5;exact⟨(⟨oC,oC⟩:(1:Int)<=8/\(8:Int)<=9),X (iR (l:=f.al) (r:=a) oG),X (qi h2),U C,U J,g3,(lg b7).1,(lg b7).2,k9,g1,g2,Ab b9⟩
 by_cases h9:kind=9
 .subst h9;simp only[Int.reduceEq,if_false,if_true,aw,dZ] at h hb;obtain⟨⟨b1,b2,b3,b4,b5,b6⟩,b7,b8,b9,k9⟩:=hb;obtain⟨h1,h2,C⟩:=h;have O:aD=[]:=List.length_eq_zero_iff.1 b8;subst O b3 b5 b6;refine⟨(⟨oC,oC⟩:(1:Int)<=9/\(9:Int)<=9),X (iR (l:=f.al) (r:=a) ?_),eC,U C,eC,wO,(lg b7).1,(lg b7).2,k9,oS,oS,Ab b9⟩;rw[h2];intro e;simp[qg,e,h1] at hr
 .simp only[h1,h2,C,J,h5,h6,h7,h8,h9,if_false] at h;cases h
structure F5(b:bp):Prop where
 len:b.ins.length<=200
 ins:∀ x∈b.ins,xH x
 fin:KC b.fin
structure Fw(f:aU):Prop where
 name:iL f.name
 args:i64 f.args
 al:f.al.length<=1200
 bz:f.bz.length<=60
 sigs:f.signals.length<=6
 sig:∀ s∈f.signals,isName s=true
 qZ:f.blocks.length<=1200
 bA:∀ b∈f.blocks,F5 b
theorem acO{f:aU}(h:pA f=true):Fw f:=by
 have C:=Kw h;unfold pA at h;simp only[aw] at h;obtain⟨h1,h2,h3,X,h5⟩:=h;unfold uX at h1;simp only[aw] at h1;unfold uY at h2;simp only[aw,Bool.not_eq_true',decide_eq_false_iff_not,List.any_eq_false] at h2;refine⟨JW h1.1,by have:=C.args;unfold i64;omega,C.al,C.bz.2,oG,fun s hs=>by simpa using h2.2.2.2.2 s hs,C.qZ,fun b hb=>?_⟩;obtain⟨k,hk⟩:=fI hb;have U:k<f.blocks.length:=(bU.1 hk).1;have he:=cv.1 X k (List.mem_range.2 U);unfold lL at he;rw[getD_some hk] at he;simp only[aw,Bool.not_eq_true',decide_eq_false_iff_not] at he;refine⟨oG,fun x hx=>?_,aaf C.al C.qZ h1.2.2.1 he.1⟩;obtain⟨j,hj⟩:=fI hx;have hr:=C.right k b hk j x hj;refine aae C.al C.bz.1 C.bz.2 ?_ hr;obtain⟨J,O⟩:=OY (bs:=f.blocks) (fun b hb t ht=>((C.bA b hb).to t ht).1) f.blocks.length k;have:=RC (a:=0) J fun x hx=>⟨by obtain⟨b,rfl,_⟩:=Iv.1 hx;omega,O x hx⟩
 have:=C.qZ;omega
theorem YP(wsq:List ByteArray):bW (gJ wsq)=Lm (wsq.map bW):=by
 unfold gJ Lm bW;rw[ByteArray.data_append,Array.toList_append, <- join_eq];rfl
def LB(l:List ByteArray):Prop:=l≠[]/\l.length<=1210/\∀ w∈l,iL w
theorem YQ{n:Int}(h:i64 n):(Lib.itoa n).length<=20:=by
 have:∀ u:Nat,u<10 ^ 19->(Lib.decDigits u).length<=19:=fun u hu=>by
  rw[Lib.decDigits_length];exact YN 18 hu
 unfold i64 at h;unfold Lib.itoa;split
 .have:=this n.natAbs oG;simp;omega
 .have:=this n.toNat oG;omega
theorem F6{n:Int}(h:i64 n):iL (fc n):=by
 refine⟨?_,by unfold bW fc;simpa using X3 n⟩;have:(fc n).size=(Lib.itoa n).length:=by unfold fc;rfl
 have:=YQ h;omega
theorem Fx{l:List Int}(h:∀ n∈l,i64 n):∀ w∈l.map fc,iL w:=fun w C=>by
 obtain⟨n,hn,rfl⟩:=List.mem_map.1 C;exact F6 (h n hn)
theorem VB(l:List Int):∀ n∈l.map jg,i64 n:=fun n hn=>by
 obtain⟨m,_,rfl⟩:=List.mem_map.1 hn;exact zL m
theorem pH{w:ByteArray}(h:(Nat.ble w.size 120&&(!(bW w).contains 32&& !(bW w).contains 10))=true):iL w:=by
 simp only[aw,Bool.not_eq_true',List.contains_eq_mem,decide_eq_false_iff_not] at h;exact⟨bf h.1,h.2.1,h.2.2⟩
theorem RF:iL xW/\iL Ua/\iL Ub/\iL Av/\iL Cd/\iL Et/\iL oz/\iL si/\iL Mu/\iL Gx/\iL AM/\iL Uc:=by
 exact⟨pH oC,pH oC,pH oC,pH oC,pH oC,pH oC,pH oC,pH oC,pH oC,pH oC,pH oC,pH oC⟩
theorem Jn{x:bn}(h:xH x):G6 x:=fun n hn=>by
 unfold vT at hn;simp only[List.mem_cons] at hn;rcases hn with rfl|rfl|rfl|rfl|rfl|hn
 .exact zL _
 .exact h.to.i
 .exact h.a.i
 .exact h.b.i
 .exact h.n.i
 .exact(h.args n hn).i
theorem SN{word:ByteArray}{x:bn}(C:iL word)(h:xH x):LB (mW word x):=by
 refine⟨by simp[mW],?_,fun w hm=>?_⟩
 .have:=h.len;simp[mW,vT];omega
 .rcases List.mem_cons.1 hm with rfl|hm
  .exact C
  .exact Fx (Jn h) w hm
theorem QH{x:End}(h:KC x):∀ n∈vV x,i64 n:=fun n hn=>by
 unfold vV at hn;simp only[List.mem_cons] at hn;rcases hn with rfl|rfl|rfl|rfl|rfl|rfl|hn
 .exact zL _
 .exact h.a.i
 .exact h.b.i
 .exact h.to.i
 .exact h.gX.i
 .exact h.others.i
 .exact(h.args n hn).i
theorem abX{b:bp}(h:F5 b):∀ l∈nG b,LB l:=fun l hl=>by
 obtain⟨wf,wp,wi,wr,wsq,WZ,X,J,we,wn,wt,ww⟩:=RF;unfold nG at hl;simp only[List.mem_cons,List.mem_append] at hl;rcases hl with rfl|hl|rfl|hl|hl|hl
 .exact⟨oS,oS,fun w C=>by simp at C;subst C;exact X⟩
 .obtain⟨x,hx,rfl⟩:=List.mem_map.1 hl;exact SN J (h.ins x hx)
 .refine⟨by simp[tP],?_,fun w hm=>?_⟩
  .have:=h.fin.len;simp[tP,vV];omega
  .rcases List.mem_cons.1 hm with rfl|hm
   .exact we
   .exact Fx (QH h.fin) w hm
 .unfold kH at hl;split at hl
  .simp at hl
  .simp only[List.mem_cons,List.not_mem_nil,or_false] at hl;subst hl
   exact⟨oS,oS,fun w C=>by
    simp only[List.mem_cons,List.not_mem_nil,or_false] at C;rcases C with rfl|rfl
    .exact wn
    .exact h.fin.name⟩
 .unfold ma at hl;split at hl
  .simp only[List.mem_cons,List.not_mem_nil,or_false] at hl;subst hl;exact SN wt h.fin.ins
  .simp at hl
 .obtain⟨x,hx,rfl⟩:=List.mem_map.1 hl;obtain⟨O,U⟩:=h.fin.wh x hx
  exact⟨by simp[lR],by simp[lR],fun w C=>by
   simp only[lR,List.mem_cons,List.not_mem_nil,or_false] at C;rcases C with rfl|rfl|rfl
   .exact ww
   .exact JX U
   .exact F6 O.i⟩
theorem ac5{f:aU}(h:Fw f):∀ l∈mM f,LB l:=fun l hl=>by
 obtain⟨O,X,U,wr,wsq,J,wb,W0,we,wn,wt,ww⟩:=RF;unfold mM GC at hl;rw[List.mem_append] at hl;rcases hl with hl|hl
 .simp only[List.mem_cons,List.not_mem_nil,or_false] at hl;rcases hl with rfl|rfl|rfl|rfl
  .refine⟨oS,oS,fun w C=>?_⟩;simp only[List.mem_cons,List.not_mem_nil,or_false] at C;rcases C with rfl|rfl|rfl|rfl|rfl
   .exact O
   .exact h.name
   .unfold rS;split
    .exact U
    .exact X
   .exact F6 h.args
   .exact F6 (zL _)
  .refine⟨oS,by have:=h.al;simp;omega,fun w C=>?_⟩;rcases List.mem_cons.1 C with rfl|C
   .exact wr
   .exact Fx (VB _) w C
  .refine⟨oS,by have:=h.bz;simp;omega,fun w C=>?_⟩;rcases List.mem_cons.1 C with rfl|C
   .exact wsq
   .exact Fx (VB _) w C
  .refine⟨oS,by have:=h.sigs;simp;omega,fun w C=>?_⟩;rcases List.mem_cons.1 C with rfl|C
   .exact J
   .exact JX (h.sig w C)
 .obtain⟨b,hb,hl⟩:=List.mem_flatMap.1 hl;exact abX (h.bA b hb) l hl
theorem aag{l:List ByteArray}(h:LB l):(gJ l).size<=150000:=by
 have h1:(gJ l).size=(bW (gJ l)).length:=rfl;rw[h1,YP];unfold Lm;rw[List.length_append,List.length_singleton];have h2:=PU (l.map bW)
 have C:∀ l:List ByteArray,(∀ w∈l,iL w)->((l.map bW).map fun w=>w.length+1).sum<=l.length*121:=fun l=>by
  induction l with
  |nil=>simp
  |cons a l ih=>
   intro h;have:=ih fun w J=>h w (List.mem_cons_of_mem _ J);have ha:(bW a).length<=120:=(h a oS).1;simp only[List.map_cons,List.sum_cons,List.length_cons];omega
 have:=C l h.2.2;have:=h.2.1;omega
theorem QI:∀ {C:List (List ByteArray)},(∀ l∈C,LB l)->(fk C).size<=C.length*150000
 |[],_=>by simp[fk]
 |l::C,h=>by
  have:=QI fun x hx=>h x (List.mem_cons_of_mem _ hx);have:=aag (h l oS);simp only[fk,ByteArray.size_append,List.length_cons];omega
theorem aah{b:bp}(h:F5 b):(nG b).length<=220:=by
 have h1:=h.len;have h2:=h.fin.aD;have C:(kH b.fin).length<=1:=by unfold kH;split<;>simp
 have J:(ma b.fin).length<=1:=by unfold ma;split<;>simp
 simp only[nG,tF,List.length_cons,List.length_append,List.length_map];omega
theorem abY{f:aU}(h:Fw f):(mM f).length<=300000:=by
 have:∀ bs:List bp,(∀ b∈bs,F5 b)->(bs.flatMap nG).length<=bs.length*220:=fun bs=>by
  induction bs with
  |nil=>simp
  |cons b bs ih=>
   intro h;have:=ih fun x hx=>h x (List.mem_cons_of_mem _ hx);have:=aah (h b oS);simp only[List.flatMap_cons,List.length_append,List.length_cons];omega
 have:=this f.blocks h.bA;have:=h.qZ;simp only[mM,GC,List.length_append,List.length_cons,List.length_nil];omega
theorem adI{f:aU}(h:Fw f):Cc f:=by
 refine⟨h.args,by have:=h.al;omega,by have:=h.bz;omega,by have:=h.sigs;omega,by have:=h.qZ;omega,fun b hb=>by have:=(h.bA b hb).len;omega,fun b hb x hx=>?_,fun b hb=>?_,?_⟩
 .have:=(h.bA b hb).ins x hx;exact⟨Jn this,by have:=this.len;omega⟩
 .have:=(h.bA b hb).fin;exact⟨QH this,by have:=this.len;omega,Jn this.ins,by have:=this.ins.len;omega,by have:=this.aD;omega,fun w C=>(this.wh w C).1.i⟩
 .have h1:=QI (ac5 h);have h2:=abY h;unfold Au;omega
def pJ(l:List bp)(s a w:Nat->Nat)(k:Nat):List D:=((List.range l.length).drop k).flatMap fun i=>j9 (l.getD i mL) (s i) (a i) (w i)
theorem acN{l:List bp}{s a w:Nat->Nat}:oL l s a w l.length=pJ l s a w 0:=rfl
theorem Yt{l:List bp}{s a w:Nat->Nat}{k:Nat}{b:bp}(hb:l[k]? =some b):pJ l s a w k=j9 b (s k) (a k) (w k)++pJ l s a w (k+1):=by
 have hk:k<l.length:=(bU.1 hb).1;unfold pJ;rw[List.drop_eq_getElem_cons (by simpa using hk),List.flatMap_cons,List.getElem_range,show l.getD k mL=b by simp[dN,hb]]
def rU(l:List bn)(t:Nat->Nat)(k:Nat):List D:=((List.range l.length).drop k).flatMap fun j=>fS (l.getD j rL) (t j) (l.getD j rL).args.length
theorem Yu{l:List bn}{t:Nat->Nat}{k:Nat}{x:bn}(hx:l[k]? =some x):rU l t k=fS x (t k) x.args.length++rU l t (k+1):=by
 have hk:k<l.length:=(bU.1 hx).1;unfold rU;rw[List.drop_eq_getElem_cons (by simpa using hk),List.flatMap_cons,List.getElem_range,show l.getD k rL=x by simp[dN,hx]]
structure OX(i g j lo p9:Nat)(w p s a:Nat->Nat)(n:Nat):Prop where
 o1:i<g
 o2:g<lo
 o3:lo<=j
 o4:j<p9
 w1:∀ c,c<n->lo<=w c/\w c<j
 w2:∀ c d,c<d->d<n->w c<w d
 b1:∀ c,c<n->j<p c/\p c<=s c/\s c<a c/\a c<p9
 b2:∀ c d,c<d->d<n->a c<p d
structure GM(M:Mem)(f:aU)(i g j p9:Nat)(l:List bp)(w p s a:Nat->Nat)(t:Nat->Nat->Nat)(k:Nat)(bs:List D):Prop where
 r9:M p9=some (.cells (fx f (.rs i 0 f.al.length) (.rs g 0 f.signals.length) (.rs j 0 l.length)) 26)
 rj:M j=some (.cells bs 69)
 ri:∃ rs:List Int,rs.length=f.al.length/\M i=some (.cells (rs.map U8) 5)
 rg:∃ gs:List ByteArray,gs.length=f.signals.length/\M g=some (.cells (gs.map S) 9)
 wh:∀ (c:Nat) b,l[c]? =some b->k<=c->M (w c)=some (.cells (b.fin.aD.flatMap dQ) 82)
 HO:∀ (c:Nat) b,l[c]? =some b->k<=c->M (s c)=some (.cells (mV b.ins (t c) b.ins.length) 45)
 bt:∀ (c:Nat) b,l[c]? =some b->k<=c->TR M (p c) (s c) b.ins (t c) b.ins.length
 ba:∀ (c:Nat) b,l[c]? =some b->k<=c->M (a c)=some (.cells (b.fin.args.map I) 3)
theorem GM.next{M:Mem}{f:aU}{i g j p9:Nat}{l:List bp}{w p s a:Nat->Nat}{t:Nat->Nat->Nat}{k:Nat}{bs:List D}(h:GM M f i g j p9 l w p s a t k bs):GM M f i g j p9 l w p s a t (k+1) bs:=
 ⟨h.r9,h.rj,h.ri,h.rg,fun c b hb hc=>h.wh c b hb oG,fun c b hb hc=>h.HO c b hb oG,fun c b hb hc=>h.bt c b hb oG,fun c b hb hc=>h.ba c b hb oG⟩
theorem GM.up{M:Mem}{f:aU}{i g j lo p9 x:Nat}{r:Option Row}{l:List bp}{w p s a:Nat->Nat}{t:Nat->Nat->Nat}{k:Nat}{bs:List D}(h:GM M f i g j p9 l w p s a t (k+1) bs)(C:OX i g j lo p9 w p s a l.length)(hk:k<l.length)(hx:p k<=x/\x<=a k\/x=w k):GM (Abs.up M x r) f i g j p9 l w p s a t (k+1) bs:=by
 have o1:=C.o1;have o2:=C.o2;have o3:=C.o3;have o4:=C.o4;have w1:=C.w1 k hk;have b1:=C.b1 k hk;refine⟨ah oG h.r9,ah oG h.rj,?_,?_,fun c b hb hc=>?_,fun c b hb hc=>?_,fun c b hb hc=>?_,fun c b hb hc=>?_⟩
 .obtain⟨rs,h1,h2⟩:=h.ri;exact⟨rs,h1,ah oG h2⟩
 .obtain⟨gs,h1,h2⟩:=h.rg;exact⟨gs,h1,ah oG h2⟩
 all_goals
  have J:c<l.length:=(bU.1 hb).1;have O:=C.w1 c J;have U:=C.w2 k c oG J;have X:=C.b1 c J;have g4:=C.b2 k c oG J
 .exact ah oG (h.wh c b hb hc)
 .exact ah oG (h.HO c b hb hc)
 .exact(h.bt c b hb hc).mono (fun m h1 h2=>aA _ _ oG) (a6 _)
 .exact ah oG (h.ba c b hb hc)
theorem GM.put{M:Mem}{f:aU}{i g j lo p9:Nat}{l:List bp}{w p s a:Nat->Nat}{t:Nat->Nat->Nat}{k:Nat}{bs O:List D}(h:GM M f i g j p9 l w p s a t k bs)(C:OX i g j lo p9 w p s a l.length):GM (Abs.up M j (some (.cells O 69))) f i g j p9 l w p s a t k O:=by
 have o1:=C.o1;have o2:=C.o2;have o3:=C.o3;have o4:=C.o4;refine⟨ah oG h.r9,ai _ _ _,?_,?_,fun c b hb hc=>?_,fun c b hb hc=>?_,fun c b hb hc=>?_,fun c b hb hc=>?_⟩
 .obtain⟨rs,h1,h2⟩:=h.ri;exact⟨rs,h1,ah oG h2⟩
 .obtain⟨gs,h1,h2⟩:=h.rg;exact⟨gs,h1,ah oG h2⟩
 all_goals
  have J:c<l.length:=(bU.1 hb).1;have U:=C.w1 c J;have X:=C.b1 c J
 .exact ah oG (h.wh c b hb hc)
 .exact ah oG (h.HO c b hb hc)
 .exact(h.bt c b hb hc).mono (fun m h1 h2=>aA _ _ oG) (a6 _)
 .exact ah oG (h.ba c b hb hc)
theorem Yv{cs vs:List D}{off:Nat}(h:off+vs.length<=cs.length):(dL cs off vs).length=cs.length:=by
 unfold dL;split
 .simp
 .simp;omega
structure SM(M:Mem)(b:bp)(s a w:Nat)(t:Nat->Nat)(kk:Nat):Prop where
 sr:∃ pre,pre.length=kk*6/\M s=some (.cells (pre++rU b.ins t kk) 45)
 tr:∀ (m:Nat) y,b.ins[m]? =some y->kk<=m->M (t m)=some (.cells (y.args.map I) 3)
 wr:M w=some (.cells (b.fin.aD.flatMap dQ) 82)
 ar:M a=some (.cells (b.fin.args.map I) 3)
end Go.Argus
namespace Go.Proofs.Tryz.K
theorem ZH{f:aU}(h:jV f=true):f.signals.length<=10:=by
 unfold jV at h;rw[aw] at h;have h:=h.1;unfold yr at h;simp only[Bool.not_eq_true',Bool.or_eq_false_iff,decide_eq_false_iff_not] at h;omega
theorem k10{f:aU}{to:List Int}:aG prog 10 [.agg (aF f),az to] (B true):=by
 refine bK aiG (.cons (.agg (nz f)) (.cons (cC _) .nil)) (Tr.s _) ?_;rw[aiH];have uj:=uj;have sJ:=sJ (f:=f);refine aI ?_;refine ab ?_;refine aa (ca (dX [(0,aF f,26)] eH (l:=[(1,az to),(2,.pt (aF f))]) eH) (aX (ap ?_)));refine SS ?_;refine cl sJ ?_;refine ab ?_;refine J58 ?_;refine aJ ?_;refine aa (dP rfl (fun h=>aX (ap ?_)) fun h=>eF ?_)
 .refine cl uj ?_;refine SS ?_;exact aa (hZ (aN rfl rfl))
 have hx:jV f=true/\to.length<=50:=by
  revert h;cases jV f<;>(try split)<;>intro h<;>simp_all<;>omega
 obtain⟨wI,gW⟩:=hx;obtain⟨q1,q2,q3⟩:=ZI wI;have q4:=ZH wI;have Bj:=Bj (f:=f) fun h=>adI (acO (Qm h));have y6:=adJ (g:=yw f to) (y6 (f:=f) (to:=to) oG (fun h=>(T0 wI h).eZ (Pw wI)) (.inl oG)) rfl;generalize (if gB f=0 then Au f else⟨#[]⟩)=tx at*
 clear h sJ;by_cases he:pT f to=0
 case neg=>
  generalize yw f to=G at*
  generalize pT f to=e at*
  generalize gB f=c at*
  refine ws ?_;refine ab ?_;refine cl y6 ?_;refine bj ?_;refine Vi ?_;refine SS ?_;refine er ?_;refine SS ?_;refine cl Bj ?_;refine bV ?_;refine aa (aX (ap ?_));have hb:(e !=0)=true:=by simpa using he
  refine ab ?_;rw[hb];refine SS ?_;(iterate 2 refine z fun _ _=>?_);refine SS ?_;refine aa (dP rfl (fun h=>aX (ap ?_)) fun h=>by simp at h);refine cl uj ?_;refine SS ?_;exact aa (hZ (aN rfl rfl))
 have hc:gB f=0:=by
  unfold pT at he;split at he
  .assumption
  .exact he
 have G7:=(T0 wI hc).eZ (Pw wI);have G3:=G3 oG he G7
 have Wt:(yw f to).al.length<=1000000:=by
  unfold yw;rw[if_pos he];show(putAt ..).length<=_;rw[sQ];omega
 have Wu:(yw f to).bz.length<=1000000:=by
  unfold yw;rw[if_pos he];show f.bz.length<=_;omega
 have HL:=abm Wt Wu;rw[he] at y6;rw[hc] at Bj;generalize yw f to=G at y6 HL;clear Wt Wu hc;refine ws ?_;refine ab ?_;refine cl y6 ?_;refine bj ?_;refine Vi ?_;refine SS ?_;refine er ?_;refine SS ?_;refine cl Bj ?_;refine bV ?_;refine aa (aX (aI ?_));refine dV ?_;refine aa ⟨_,mv (i:=1) (cs:=aF G) (e:=26) (l:=[(1,az to),(2,.pt (aF f)),(5,.pt (aF G)),(7,S tx),(47,B false)]) rfl eH,dP rfl (fun h=>by simp at h) fun _=>eF ?_⟩;have jP:f.blocks.length=(f.blocks.map (cO to)).length:=(List.length_map _).symm;have Wv:=G7.l5;have hrz:=G7.ins;refine cL (fun st=>∃ M i g j lo p9 w p s a t,OX i g j lo p9 w p s a (f.blocks.map (cO to)).length/\GM M f i g j p9 (f.blocks.map (cO to)) w p s a t 0 (pJ (f.blocks.map (cO to)) s a w 0)/\aC prog st ⟨ay [(1,az to),(2,.pt (aF f)),(5,.pt (aF G)),(7,S tx),(9,.rp p9 0)],M,p9+1⟩) (gq ?_) ?_
 .refine ab ?_;refine fU G3 rfl aO ?_;rintro d M n ⟨i,g,j,q,lo,w,p,s,a,t,rfl,h1,h2,h3,h4,h5,h6,h7,h8,h9,Bg,Ww⟩;dsimp only[St.put];rw[jP] at h4 h5 h6 ⊢;refine SS ?_;refine au (rq (v:=.agg (fx f (.rs i 0 f.al.length) (.rs g 0 f.signals.length) (.rs j 0 (f.blocks.map (cO to)).length))) rfl rfl) aO (by first|decide|simp) ?_;refine ab ?_;refine bD (eI (cs':=fx f (.rs i 0 f.al.length) (.rs g 0 f.signals.length) (.rs j 0 (f.blocks.map (cO to)).length)) rfl rfl (ai _ _ _) rfl) aO (bN t26 jT ⟨rfl,bf rfl⟩ rfl) ?_;refine SS ?_;have za:∀ {x y:Option Row} {k:Nat},k<n->up (up M n x) n y k=M k:=fun h=>(aA _ _ oG).trans (aA _ _ oG);refine aa ⟨_,i,g,j,lo,n,w,p,s,a,t,⟨h8,h9,Bg,oG,fun c hc=>h5.s1 c hc,fun c d h h'=>h5.s2 c d h h',fun c hc=>by have:=h6.b1 c hc;omega,fun c d h h'=>h6.b2 c d h h'⟩,⟨ai _ _ _,?_,?_,?_,fun c b hb _=>?_,fun c b hb _=>?_,fun c b hb _=>?_,fun c b hb _=>?_⟩,ao eH⟩
  .rw[za oG,h4,acN]
  .obtain⟨rs,r1,r2⟩:=h2;exact⟨rs,r1,(za oG).trans r2⟩
  .exact⟨f.signals,rfl,(za oG).trans h3⟩
  all_goals
   have cg:c<(f.blocks.map (cO to)).length:=(bU.1 hb).1;have g1:=h5.s1 c cg;have g2:=h6.b1 c cg
  .rw[za oG];rw[List.getElem?_map] at hb;obtain⟨b0,MU,rfl⟩:=cN.1 hb;exact h5.mw c b0 MU cg
  .exact(za oG).trans (h6.bs c b hb cg)
  .exact(h6.bt c b hb cg).mono (fun k _ _=>za oG) (a6 _)
  .exact(za oG).trans (h6.ba c b hb cg)
 clear G3;have je:(f.blocks.map (cO to)).length<=30:=by rw[<- jP];omega
 have Hp:∀ b∈f.blocks.map (cO to),b.ins.length<=100000/\(∀ x∈b.ins,x.args.length<=100000)/\b.fin.args.length<=100000/\b.fin.aD.length<=100000:=fun b hb=>by
  obtain⟨b0,h0,rfl⟩:=List.mem_map.1 hb;have hS:=Wv b0 h0;refine⟨?_,fun x hx=>?_,?_,?_⟩
  .show(b0.ins.map _).length<=_;rw[List.length_map];exact hS.ins
  .obtain⟨x0,NF,rfl⟩:=List.mem_map.1 (show x∈b0.ins.map (bZ to) from hx);show(x0.args.map _).length<=_;rw[List.length_map];exact hS.args x0 NF
  .show(b0.fin.args.map _).length<=_;rw[List.length_map];exact hS.ea
  .exact hS.ew
 clear jP Wv hrz G7 he;generalize f.blocks.map (cO to)=l at*
 rintro st ⟨M,i,g,j,lo,p9,w,p,s,a,t,hO,J,U⟩;have o1:=hO.o1;have o2:=hO.o2;have o3:=hO.o3;have o4:=hO.o4;refine⟨_,U,aX (aI ?_)⟩;clear U;have af:=J.r9;have sK:(fx f (.rs i 0 f.al.length) (.rs g 0 f.signals.length) (.rs j 0 l.length)).drop (0+7)=.rs j 0 l.length::[]:=rfl;have kd:=sK;have bM:=J.rj;refine bj ?_
 refine aa (c6 (fun st=>∃ M bs,GM M f i g j p9 l w p s a t l.length bs/\aC prog st ⟨ay [(1,az to),(2,.pt (aF f)),(5,.pt (aF G)),(7,S tx),(9,.rp p9 0)],M,p9+1⟩) (cZ (α:=Nat×Mem)
  (fun st=>⟨ay [(1,az to),(2,.pt (aF f)),(5,.pt (aF G)),(7,S tx),(9,.rp p9 0),(57,I l.length),(58,I st.1)],st.2,p9+1⟩)
  (fun st=>st.1<=l.length/\∃ pre,pre.length=st.1*16/\GM st.2 f i g j p9 l w p s a t st.1 (pre++pJ l s a w st.1)) (fun st=>l.length - st.1) (0,M)
  (ao eH) ⟨Nat.zero_le _,[],rfl,J⟩ ?_) ?_)
 .clear af bM kd J;rintro⟨k,M⟩ ⟨hk,pre,lA,J⟩;dsimp only at hk lA J ⊢;refine SS ?_;refine aa ⟨_,rfl,fun h=>?_,fun h=>?_⟩
  .have ag:k<l.length:=by simpa using h
   clear h;obtain⟨b,hb⟩:∃ b,l[k]? =some b:=⟨_,bx ag⟩
   obtain⟨b1,b2,b3,b4⟩:=Hp b (cX hb);have w1:=hO.w1 k ag;have u1:=hO.b1 k ag;have hT:=J.bt k b hb (a6 _);have hS:SM M b (s k) (a k) (w k) (t k) 0:=⟨⟨[],rfl,J.HO k b hb (a6 _)⟩,fun m y hy _=>hT.mt m y hy (bU.1 hy).1,J.wh k b hb (a6 _),J.ba k b hb (a6 _)⟩
   have DH:=hT.t1;have Wx:=hT.t2;rw[Yt hb] at J
   have wy:∀ X:List D,X.length=16->(pre++(X++pJ l s a w (k+1))).length=k*16+(16+(pJ l s a w (k+1)).length):=fun X h=>by
    rw[List.length_append,List.length_append,lA,h]
   have sx:∀ X:List D,pre++(X++pJ l s a w (k+1))=(pre++X)++pJ l s a w (k+1):=fun X=>(List.append_assoc ..).symm;generalize Nz:pJ l s a w (k+1)=C at*
   have wJ:(pre++(j9 b (s k) (a k) (w k)++C)).drop (k*16+0)=.rs (s k) 0 b.ins.length::_:=kF (j:=0) lA rfl;have HP:(pre++(j9 b (s k) (a k) (w k)++C)).drop (k*16+1+13)=.rs (w k) 0 b.fin.aD.length::_:=kF (j:=14) lA rfl;have HQ:(pre++(j9 b (s k) (a k) (w k)++C)).drop (k*16+1+12)=.rs (a k) 0 b.fin.args.length::_:=kF (j:=13) lA rfl;have hlX:=wy (j9 b (s k) (a k) (w k)) rfl;have J:=J.next
   clear hT;refine ws ?_;refine ab ?_;refine aa (aX (aI ?_));have af:=J.r9;have kd:=sK;have bM:=J.rj;obtain⟨amv,_,ij⟩:=hS.sr;refine bV ?_;refine au (fQ rfl bM wJ DI) aO (fR t67 wH wJ) ?_;refine ab ?_;clear ij
   refine aa (c6 (fun st=>∃ M,GM M f i g j p9 l w p s a t (k+1) (pre++(j9 b (s k) (a k) (w k)++C))/\M (w k)=some (.cells (b.fin.aD.flatMap dQ) 82)/\M (a k)=some (.cells (b.fin.args.map I) 3)/\aC prog st ⟨ay [(1,az to),(2,.pt (aF f)),(5,.pt (aF G)),(7,S tx),(9,.rp p9 0),(57,I l.length),(58,I k),(11,I k)],M,p9+1⟩) (cZ (α:=Nat×Mem)
    (fun st=>⟨ay [(1,az to),(2,.pt (aF f)),(5,.pt (aF G)),(7,S tx),(9,.rp p9 0),(57,I l.length),(58,I k),(11,I k),(67,I b.ins.length),(68,I st.1)],st.2,p9+1⟩)
    (fun st=>st.1<=b.ins.length/\GM st.2 f i g j p9 l w p s a t (k+1) (pre++(j9 b (s k) (a k) (w k)++C))/\SM st.2 b (s k) (a k) (w k) (t k) st.1) (fun st=>b.ins.length - st.1) (0,M)
    (ao eH) ⟨Nat.zero_le _,J,hS⟩ ?_) ?_)
   .clear af bM J hS kd;rintro⟨kk,M⟩ ⟨pi,J,hS⟩;dsimp only at pi J hS ⊢;refine SS ?_;refine aa ⟨_,rfl,fun h=>?_,fun h=>?_⟩
    .have gU:kk<b.ins.length:=by simpa using h
     clear h;obtain⟨y,hy⟩:∃ y,b.ins[kk]? =some y:=⟨_,bx gU⟩
     have NC:=b2 y (cX hy);have v1:=DH kk gU;obtain⟨pr,A9,pZ⟩:=hS.sr;rw[Yu hy] at pZ
     have jN:∀ X:List D,X.length=6->(pr++(X++rU b.ins (t k) (kk+1))).length=kk*6+(6+(rU b.ins (t k) (kk+1)).length):=fun X h=>by
      rw[List.length_append,List.length_append,A9,h]
     have hnq:∀ X:List D,pr++(X++rU b.ins (t k) (kk+1))=(pr++X)++rU b.ins (t k) (kk+1):=fun X=>(List.append_assoc ..).symm;generalize hC2:rU b.ins (t k) (kk+1)=C2 at*
     have HS:(pr++(fS y (t k kk) y.args.length++C2)).drop (kk*6+5)=.rs (t k kk) 0 y.args.length::_:=kF (j:=5) A9 rfl;have hlI:=jN (fS y (t k kk) y.args.length) rfl;have bg:=hS.tr;have lG:=hS.wr;have O:=hS.ar;have dO:=bg kk y hy (a6 _);refine ws ?_;refine ab ?_;refine aa (aX (aI ?_));have af:=J.r9;have kd:=sK;have bM:=J.rj;have ij:=pZ;have Aw:=dO;refine bV ?_;refine au (fQ rfl bM wJ DI) aO (fR t67 wH wJ) ?_;refine ab ?_;refine au (nt rfl ij V.h) ak (lP V.h) ?_;refine au (fQ rfl ij HS DJ) aO (fR t35 qX HS) ?_;refine au (zX rfl Aw) ak V.h ?_;refine SS ?_
     refine aa (c6 (fun st=>∃ M,GM M f i g j p9 l w p s a t (k+1) (pre++(j9 b (s k) (a k) (w k)++C))/\M (s k)=some (.cells (pr++(fS y (t k kk) y.args.length++C2)) 45)/\(∀ (m:Nat) y,b.ins[m]? =some y->kk+1<=m->M (t k m)=some (.cells (y.args.map I) 3))/\M (w k)=some (.cells (b.fin.aD.flatMap dQ) 82)/\M (a k)=some (.cells (b.fin.args.map I) 3)/\aC prog st ⟨ay [(1,az to),(2,.pt (aF f)),(5,.pt (aF G)),(7,S tx),(9,.rp p9 0),(57,I l.length),(58,I k),(11,I k),(67,I b.ins.length),(68,I kk),(12,I kk)],M,p9+1⟩) (cZ (α:=Nat×Mem)
      (fun st=>⟨ay [(1,az to),(2,.pt (aF f)),(5,.pt (aF G)),(7,S tx),(9,.rp p9 0),(57,I l.length),(58,I k),(11,I k),(67,I b.ins.length),(68,I kk),(12,I kk),(81,I y.args.length),(82,I st.1)],st.2,p9+1⟩)
      (fun st=>st.1<=y.args.length/\GM st.2 f i g j p9 l w p s a t (k+1) (pre++(j9 b (s k) (a k) (w k)++C))/\st.2 (s k)=some (.cells (pr++(fS y (t k kk) y.args.length++C2)) 45)/\(∃ ds:List D,ds.length=y.args.length/\st.2 (t k kk)=some (.cells ds 3))/\(∀ (m:Nat) y,b.ins[m]? =some y->kk+1<=m->st.2 (t k m)=some (.cells (y.args.map I) 3))/\st.2 (w k)=some (.cells (b.fin.aD.flatMap dQ) 82)/\st.2 (a k)=some (.cells (b.fin.args.map I) 3)) (fun st=>y.args.length - st.1) (0,M)
      (ao eH) ⟨Nat.zero_le _,J,pZ,⟨_,List.length_map _,dO⟩,fun m y hy hm=>bg m y hy oG,lG,O⟩ ?_) ?_)
     .clear af bM ij Aw J pZ dO bg lG O hS kd;rintro⟨mm,M⟩ ⟨eD,J,pZ,⟨ds,bm,dO⟩,bg,lG,O⟩;dsimp only at eD J pZ dO bg lG O ⊢;refine SS ?_;refine aa ⟨_,rfl,fun h=>?_,fun h=>?_⟩
      .have ud:mm<y.args.length:=by simpa using h
       clear h;refine ws ?_;refine ab ?_;refine aa (fv ?_);have af:=J.r9;have kd:=sK;have bM:=J.rj;have ij:=pZ;have Aw:=dO;refine bV ?_;refine au (fQ rfl bM wJ DI) aO (fR t67 wH wJ) ?_;refine ab ?_;refine au (nt rfl ij V.h) ak (lP V.h) ?_;refine au (fQ rfl ij HS DJ) aO (fR t35 qX HS) ?_;refine SS ?_;refine au (nB rfl rfl Aw V.h V.h) ak ⟨V.h,oG⟩ ?_;refine bD (di (d:=.s (.int _ _)) (cs':=ds.set mm (I 7)) rfl rfl Aw rfl rfl) aO (bN t3 c3 ⟨rfl,oG⟩ rfl) ?_;refine aa ?_;refine ab ?_;refine aa (bQ (mm+1,_) (ao eH) ⟨oM,?_,?_,⟨_,(List.length_set ..).trans bm,ai _ _ _⟩,fun m zQ hz hm=>?_,?_,?_⟩ oM)
       .exact J.up hO ag (.inl ⟨oG,oG⟩)
       .exact ah oG pZ
       .have:=Wx kk m oG (bU.1 hz).1;exact ah oG (bg m zQ hz hm)
       .exact ah oG lG
       .exact ah oG O
      .exact⟨M,J,pZ,bg,lG,O,ao eH⟩
     clear af bM ij Aw J pZ dO bg lG O hS kd;rintro st ⟨M,J,pZ,bg,lG,O,U⟩;refine⟨_,U,fv ?_⟩;clear U;have af:=J.r9;have kd:=sK;have bM:=J.rj;have ij:=pZ;refine bV ?_;refine au (fQ rfl bM wJ DI) aO (fR t67 wH wJ) ?_;refine aJ ?_;refine bD (eI (vs:=jK) (cs':=pr++(jK++C2)) rfl rfl ij (EP (j:=0) A9 (by simp[jK]) rfl)) aO (bN t45 jS ⟨rfl,by rw[hlI];show _+6<=_;omega⟩ rfl) ?_;refine aa ?_;refine ab ?_;refine aa (bQ (kk+1,_) (ao eH) ⟨oM,?_,⟨pr++jK,?_,?_⟩,fun m zQ hz hm=>?_,?_,?_⟩ oM)
     .exact J.up hO ag (.inl ⟨oG,oG⟩)
     .rw[List.length_append,A9];show _+6=_;omega
     .show up M (s k) (some (.cells (pr++(jK++C2)) 45)) (s k)=some (.cells ((pr++jK)++rU b.ins (t k) (kk+1)) 45);rw[hC2, <- hnq];exact ai _ _ _
     .have:=DH m (bU.1 hz).1;exact ah oG (bg m zQ hz hm)
     .exact ah oG lG
     .exact ah oG O
    .exact⟨M,J,hS.wr,hS.ar,ao eH⟩
   clear af bM J hS kd;rintro st ⟨M,J,lG,O,U⟩;refine⟨_,U,aX (aI ?_)⟩;clear U DH Wx;have af:=J.r9;have kd:=sK;have bM:=J.rj;have ij:=lG;refine dV ?_;refine au (fQ rfl bM HP a46) aO (fR t46 HM HP) ?_;refine ab ?_
   refine aa (c6 (fun st=>∃ M,GM M f i g j p9 l w p s a t (k+1) (pre++(j9 b (s k) (a k) (w k)++C))/\M (a k)=some (.cells (b.fin.args.map I) 3)/\aC prog st ⟨ay [(1,az to),(2,.pt (aF f)),(5,.pt (aF G)),(7,S tx),(9,.rp p9 0),(57,I l.length),(58,I k),(11,I k)],M,p9+1⟩) (cZ (α:=Nat×Mem)
    (fun st=>⟨ay [(1,az to),(2,.pt (aF f)),(5,.pt (aF G)),(7,S tx),(9,.rp p9 0),(57,I l.length),(58,I k),(11,I k),(115,I b.fin.aD.length),(116,I st.1)],st.2,p9+1⟩)
    (fun st=>st.1<=b.fin.aD.length/\GM st.2 f i g j p9 l w p s a t (k+1) (pre++(j9 b (s k) (a k) (w k)++C))/\(∃ ds:List D,ds.length=b.fin.aD.length*2/\st.2 (w k)=some (.cells ds 82))/\st.2 (a k)=some (.cells (b.fin.args.map I) 3)) (fun st=>b.fin.aD.length - st.1) (0,M)
    (ao eH) ⟨Nat.zero_le _,J,⟨_,ux (f:=dQ) (sz:=2) (fun _=>rfl) _,lG⟩,O⟩ ?_) ?_)
   .clear af bM ij J lG O kd;rintro⟨kk,M⟩ ⟨pi,J,⟨ds,bm,lG⟩,O⟩;dsimp only at pi J lG O ⊢;refine SS ?_;refine aa ⟨_,rfl,fun h=>?_,fun h=>?_⟩
    .have gU:kk<b.fin.aD.length:=by simpa using h
     clear h;refine ws ?_;refine ab ?_;refine aa (fv ?_);have af:=J.r9;have kd:=sK;have bM:=J.rj;have ij:=lG;refine dV ?_;refine au (fQ rfl bM HP a46) aO (fR t46 HM HP) ?_;refine aJ ?_;refine bD (eI (vs:=[S ⟨#[]⟩,I 0]) (cs':=dL ds (kk*2) [S ⟨#[]⟩,I 0]) rfl rfl ij rfl) aO (bN t82 HH ⟨rfl,by show _+2<=_;omega⟩ rfl) ?_;refine aa ?_;refine ab ?_;refine aa (bQ (kk+1,_) (ao eH) ⟨oM,?_,⟨_,(Yv (by show _+2<=_;omega)).trans bm,ai _ _ _⟩,?_⟩ oM)
     .exact J.up hO ag (.inr rfl)
     .exact ah oG O
    .exact⟨M,J,O,ao eH⟩
   clear af bM ij J lG O kd;rintro st ⟨M,J,O,U⟩;refine⟨_,U,aX (aI ?_)⟩;clear U;have af:=J.r9;have kd:=sK;have bM:=J.rj;have ij:=O;refine dV ?_;refine au (fQ rfl bM HQ DJ) aO (fR t35 qX HQ) ?_;refine ab ?_
   refine aa (c6 (fun st=>∃ M,GM M f i g j p9 l w p s a t (k+1) (pre++(j9 b (s k) (a k) (w k)++C))/\aC prog st ⟨ay [(1,az to),(2,.pt (aF f)),(5,.pt (aF G)),(7,S tx),(9,.rp p9 0),(57,I l.length),(58,I k),(11,I k)],M,p9+1⟩) (cZ (α:=Nat×Mem)
    (fun st=>⟨ay [(1,az to),(2,.pt (aF f)),(5,.pt (aF G)),(7,S tx),(9,.rp p9 0),(57,I l.length),(58,I k),(11,I k),(137,I b.fin.args.length),(138,I st.1)],st.2,p9+1⟩)
    (fun st=>st.1<=b.fin.args.length/\GM st.2 f i g j p9 l w p s a t (k+1) (pre++(j9 b (s k) (a k) (w k)++C))/\(∃ ds:List D,ds.length=b.fin.args.length/\st.2 (a k)=some (.cells ds 3))) (fun st=>b.fin.args.length - st.1) (0,M)
    (ao eH) ⟨Nat.zero_le _,J,⟨_,List.length_map _,O⟩⟩ ?_) ?_)
   .clear af bM ij J O kd;rintro⟨kk,M⟩ ⟨pi,J,⟨ds,bm,O⟩⟩;dsimp only at pi J O ⊢;refine SS ?_;refine aa ⟨_,rfl,fun h=>?_,fun h=>?_⟩
    .have gU:kk<b.fin.args.length:=by simpa using h
     clear h;refine ws ?_;refine ab ?_;refine aa (fv ?_);have af:=J.r9;have kd:=sK;have bM:=J.rj;have ij:=O;refine dV ?_;refine au (fQ rfl bM HQ DJ) aO (fR t35 qX HQ) ?_;refine SS ?_;refine au (nB rfl rfl ij V.h V.h) ak ⟨V.h,oG⟩ ?_;refine bD (di (d:=.s (.int _ _)) (cs':=ds.set kk (I 7)) rfl rfl ij rfl rfl) aO (bN t3 c3 ⟨rfl,oG⟩ rfl) ?_;refine aa ?_;refine ab ?_;refine aa (bQ (kk+1,_) (ao eH) ⟨oM,?_,⟨_,(List.length_set ..).trans bm,ai _ _ _⟩⟩ oM);exact J.up hO ag (.inl ⟨oG,oG⟩)
    .exact⟨M,J,ao eH⟩
   clear af bM ij J O kd;rintro st ⟨M,J,U⟩;refine⟨_,U,fv ?_⟩;clear U;have af:=J.r9;have kd:=sK;have bM:=J.rj;refine bV ?_;refine bD (eI (vs:=vm) (cs':=pre++(vm++C)) rfl rfl bM (EP (j:=0) lA (by simp[vm]) rfl)) aO (bN t69 sG ⟨rfl,by rw[hlX];show _+16<=_;omega⟩ rfl) ?_;refine aa ?_;refine ab ?_;refine aa (bQ (k+1,_) (ao eH) ⟨oM,pre++vm,?_,?_⟩ oM)
   .rw[List.length_append,lA];show _+16=_;omega
   .show GM (up M j (some (.cells (pre++(vm++C)) 69))) f i g j p9 l w p s a t (k+1) ((pre++vm)++pJ l s a w (k+1));rw[Nz, <- sx];exact J.put hO
  .have bC:¬ k<l.length:=by simpa using h
   have:k=l.length:=by omega
   subst this;exact⟨M,_,J,ao eH⟩
 clear af bM J kd;rintro st ⟨M,bs,J,U⟩;obtain⟨rs,y7,iH⟩:=J.ri;obtain⟨gs,hgs,nq⟩:=J.rg;have kY:=J.r9;refine⟨_,U,aX (aI ?_)⟩;clear U J Hp;have af:=kY;have Wy:(fx f (.rs i 0 f.al.length) (.rs g 0 f.signals.length) (.rs j 0 l.length)).drop (0+4)=.rs i 0 f.al.length::[ej f.bz,.rs g 0 f.signals.length,.rs j 0 l.length]:=rfl;have kd:=Wy;have bM:=iH;refine bj ?_
 refine aa (c6 (fun st=>∃ M,M p9=some (.cells (fx f (.rs i 0 f.al.length) (.rs g 0 f.signals.length) (.rs j 0 l.length)) 26)/\M g=some (.cells (gs.map S) 9)/\aC prog st ⟨ay [(1,az to),(2,.pt (aF f)),(5,.pt (aF G)),(7,S tx),(9,.rp p9 0)],M,p9+1⟩) (cZ (α:=Nat×Mem)
  (fun st=>⟨ay [(1,az to),(2,.pt (aF f)),(5,.pt (aF G)),(7,S tx),(9,.rp p9 0),(159,I f.al.length),(160,I st.1)],st.2,p9+1⟩)
  (fun st=>st.1<=f.al.length/\st.2 p9=some (.cells (fx f (.rs i 0 f.al.length) (.rs g 0 f.signals.length) (.rs j 0 l.length)) 26)/\st.2 g=some (.cells (gs.map S) 9)/\∃ ds:List D,ds.length=f.al.length/\st.2 i=some (.cells ds 5)) (fun st=>f.al.length - st.1) (0,M)
  (ao eH) ⟨Nat.zero_le _,kY,nq,⟨_,(List.length_map _).trans y7,iH⟩⟩ ?_) ?_)
 .clear af bM kd kY nq iH;rintro⟨k,M⟩ ⟨hk,kY,nq,ds,bm,iH⟩;dsimp only at hk kY nq iH ⊢;refine SS ?_;refine aa ⟨_,rfl,fun h=>?_,fun h=>?_⟩
  .have ag:k<f.al.length:=by simpa using h
   clear h;refine ws ?_;refine ab ?_;refine aa (fv ?_);have af:=kY;have kd:=Wy;have bM:=iH;refine bj ?_;refine bD (di (d:=.s (.int _ _)) (cs':=ds.set k (U8 9)) rfl rfl bM rfl rfl) aO (bN t5 c5 ⟨rfl,oG⟩ rfl) ?_;refine aa ?_;refine ab ?_;exact aa (bQ (k+1,_) (ao eH) ⟨oM,ah oG kY,ah oG nq,⟨_,(List.length_set ..).trans bm,ai _ _ _⟩⟩ oM)
  .exact⟨M,kY,nq,ao eH⟩
 clear af bM kd kY nq iH;rintro st ⟨M,kY,nq,U⟩;refine⟨_,U,aX (aI ?_)⟩;clear U;have af:=kY;have Wz:(fx f (.rs i 0 f.al.length) (.rs g 0 f.signals.length) (.rs j 0 l.length)).drop (0+6)=.rs g 0 f.signals.length::[.rs j 0 l.length]:=rfl;have kd:=Wz;have bM:=nq;refine bj ?_
 refine aa (c6 (fun st=>aC prog st ⟨ay [(1,az to),(2,.pt (aF f)),(5,.pt (aF G)),(7,S tx)],fun _=>none,p9+1⟩) (cZ (α:=Nat×Mem)
  (fun st=>⟨ay [(1,az to),(2,.pt (aF f)),(5,.pt (aF G)),(7,S tx),(9,.rp p9 0),(170,I f.signals.length),(171,I st.1)],st.2,p9+1⟩)
  (fun st=>st.1<=f.signals.length/\st.2 p9=some (.cells (fx f (.rs i 0 f.al.length) (.rs g 0 f.signals.length) (.rs j 0 l.length)) 26)/\∃ ds:List D,ds.length=f.signals.length/\st.2 g=some (.cells ds 9)) (fun st=>f.signals.length - st.1) (0,M)
  (ao eH) ⟨Nat.zero_le _,kY,⟨_,(List.length_map _).trans hgs,nq⟩⟩ ?_) ?_)
 .clear af bM kd kY nq;rintro⟨k,M⟩ ⟨hk,kY,ds,bm,nq⟩;dsimp only at hk kY nq ⊢;refine SS ?_;refine aa ⟨_,rfl,fun h=>?_,fun h=>?_⟩
  .have ag:k<f.signals.length:=by simpa using h
   clear h;refine ws ?_;refine ab ?_;refine aa (fv ?_);have af:=kY;have kd:=Wz;have bM:=nq;refine bj ?_;refine bD (di (d:=.s (.string _)) (cs':=ds.set k (S ⟨#[122,122]⟩)) rfl rfl bM rfl rfl) aO (bN t9 c9 ⟨rfl,oG⟩ rfl) ?_;refine aa ?_;refine ab ?_;exact aa (bQ (k+1,_) (ao eH) ⟨oM,ah oG kY,⟨_,(List.length_set ..).trans bm,ai _ _ _⟩⟩ oM)
  .exact(ao (l:=[(1,az to),(2,.pt (aF f)),(5,.pt (aF G)),(7,S tx)]) eH).trans (.drop _ _ _ _ fun _=>.inr rfl)
 clear af bM kd kY nq;rintro st U;refine⟨_,U,ap ?_⟩;clear U hO;refine ab ?_;refine cl y6 ?_;refine bj ?_;have af:∀ {M:Mem} {c},up M (p9+1) c (p9+1)=c:=ai _ _ _;refine bD (eI (cs':=aF G) rfl rfl (ai _ _ _) rfl) aO (bN t26 jT ⟨rfl,bf rfl⟩ rfl) ?_;refine SS ?_;refine er ?_;clear af;refine SS ?_;refine cl Bj ?_;refine bV ?_;refine er ?_;have AS:(tx.toList==tx.toList)=true:=beq_self_eq_true _;have af:∀ {M:Mem} {c},up M (p9+1) c (p9+1)=c:=ai _ _ _;refine cl uj ?_;refine dc ?_;refine ab ?_;refine bS rfl rfl (dI (vs:=aF _) rfl af V.h V.h rfl) (fun hc=>⟨ak,(dJ V.h V.h (by first|(simp;done)|omega|exact bf rfl))⟩) ?_;refine gc HL ?_;refine bj ?_;refine Vj ?_;rw[AS];refine ab ?_;exact aa (aN rfl rfl)
end Go.Proofs.Tryz.K
end
