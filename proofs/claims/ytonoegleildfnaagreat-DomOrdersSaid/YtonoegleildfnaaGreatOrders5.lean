/- Part 5 of the proof; the last part says what is proved. -/
import Derived.Test.YtonoegleildfnaaGreatOrders4
section
open Go Go.Abs Go.Proofs Go.Argus
namespace Go.Argus
def lm(p:Bool×D):List D:=[B p.1,p.2]
def cC(L:List (Bool×D)):List D:=L.flatMap lm
def yD(c:Cert):Bool×D:=(c.any,c6 c.is)
theorem uW:∀ L:List (Bool×D),(cC L).length=L.length*2
 |[]=>rfl
 |p::L=>by
  have:=uW L;unfold cC at this ⊢;rw[List.flatMap_cons,List.length_append,this];simp[lm];omega
theorem CM:∀ {L:List (Bool×D)} {t:Nat} {p:Bool×D},L[t]? =some p->∃ r,(cC L).drop (t*2)=B p.1::p.2::r
 |[],_,_,h=>by simp at h
 |p::L,0,q,h=>by
  simp at h;subst h;exact⟨cC L,rfl⟩
 |p::L,t+1,q,h=>by
  obtain⟨r,hr⟩:=CM (L:=L) (t:=t) (by simpa using h);refine⟨r,?_⟩;rw[show(t+1)*2=t*2+2 by omega];show(B p.1::p.2::cC L).drop (t*2+2)=_;exact hr
theorem Ix:∀ {L:List (Bool×D)} {t:Nat} (q:Bool×D),t<L.length->(cC L).take (t*2)++[B q.1,q.2]++(cC L).drop (t*2+2)=cC (L.set t q)
 |[],_,_,h=>by simp at h
 |p::L,0,q,h=>rfl
 |p::L,t+1,q,h=>by
  have ih:=Ix (L:=L) (t:=t) q (by simpa using h);rw[show(t+1)*2=t*2+2 by omega,List.set_cons_succ];show B p.1::p.2::((cC L).take (t*2)++[B q.1,q.2]++(cC L).drop (t*2+2))=_;rw[ih];rfl
theorem Cc{L:List (Bool×D)}{t:Nat}(q:Bool×D)(h:t<L.length):splice (cC L) (t*2) [B q.1,q.2]=cC (L.set t q):=Ix q h
theorem TQ{L:List (Bool×D)}{t:Nat}{p:Bool×D}(h:L[t]? =some p):∃ r,(cC L).drop (t*2+0)=B p.1::p.2::r:=CM h
theorem Iy{L:List (Bool×D)}{t:Nat}{p:Bool×D}(h:L[t]? =some p):((cC L).drop (t*2)).take 2=[B p.1,p.2]:=by
 obtain⟨r,hr⟩:=CM h;rw[hr];rfl
theorem Ad(g:D->D)(hg:∀ b,g (B b)=B b):∀ L:List (Bool×D),(cC L).map g=cC (L.map fun p=>(p.1,g p.2))
 |[]=>rfl
 |p::L=>by
  show g (B p.1)::g p.2::(cC L).map g=B p.1::g p.2::_;rw[hg,Ad g hg L];rfl
def gi(n N:Nat)(d:D):Nat->List (Bool×D)
 |0=>List.replicate N (false,.z)
 |k+1=>(true,d)::(List.replicate k (true,c6 (List.replicate n false))++List.replicate (N - (k+1)) (false,.z))
theorem Cr{n N:Nat}{d:D}{k:Nat}(h:k<=N):(gi n N d k).length=N:=by
 cases k with
 |zero=>simp[gi]
 |succ k=>simp[gi];omega
theorem SR{n N:Nat}{d:D}(h:0<N):(gi n N d 0).set 0 (true,d)=gi n N d 1:=by
 obtain⟨M,rfl⟩:∃ M,N=M+1:=⟨N - 1,oG⟩
 simp[gi,List.replicate_succ]
theorem SU{n N:Nat}{d:D}{k:Nat}(h:k+1<N):(gi n N d (k+1)).set (k+1) (true,c6 (List.replicate n false))=gi n N d (k+2):=by
 unfold gi;rw[List.set_cons_succ,show N - (k+1)=N - (k+1+1)+1 by omega,List.replicate_succ (n:=N - (k+1+1)),List.set_append_right _ _ oS,List.length_replicate,Nat.sub_self,List.set_cons_zero];show _=(true,d)::(List.replicate (k+1) _++_)
 rw[List.replicate_succ',List.append_assoc];rfl
def dM(R n N:Nat)(s:CS):List (Bool×D):=(List.range N).map fun k=>yD (bO R n s k)
theorem rL(R n N:Nat)(s:CS):(dM R n N s).length=N:=by simp[dM]
theorem uJ{R n N:Nat}{s:CS}{k:Nat}(h:k<N):(dM R n N s)[k]? =some (yD (bO R n s k)):=by simp[dM,h]
theorem PE{R n N:Nat}{s s':CS}{t:Nat}{c:Cert}(h:∀ k,bO R n s' k=if k=t then c else bO R n s k):(dM R n N s).set t (yD c)=dM R n N s':=by
 apply List.ext_getElem?;intro j;rw[List.getElem?_set,rL];by_cases hj:j<N
 .rw[uJ hj,uJ hj,h j];by_cases e:t=j
  .subst e;simp[hj]
  .rw[if_neg e,if_neg fun h=>e h.symm]
 .have h1:∀ s,(dM R n N s)[j]? =none:=fun s=>by simp[dM];omega
  rw[h1,h1];split
  .rw[if_neg oG]
  .rfl
def xP(f:aA)(s:CS):D:=.sl (cC (dM f.ag.length (f.ag.length+f.aK.length) f.blocks.length s)) f.blocks.length
theorem Cd{R n:Nat}{s:CS}{k:Nat}:(bO R n s k).is.length=n:=by
 unfold bO;split
 .exact wP ..
 .simp
def l6(a b:Cert)(q:Nat):Bool:=(a.any==b.any)&&(List.range q).all fun i=>a.is.getD i false==b.is.getD i false
theorem PF(a b:Cert)(q:Nat):l6 a b (q+1)=(l6 a b q&&(a.is.getD q false==b.is.getD q false)):=by
 unfold l6;rw[List.range_succ,List.all_append,Bool.and_assoc];simp
theorem QN{a b:Cert}{n:Nat}(ha:a.is.length=n)(hb:b.is.length=n):l6 a b n=true↔a.any=b.any/\a.is=b.is:=by
 unfold l6;rw[aM,beq_iff_eq,br];refine and_congr_right fun _=>⟨fun h=>?_,fun h k hk=>by rw[h];simp⟩
 apply List.ext_getElem?;intro j;by_cases hj:j<n
 .have:=h j (by simpa using hj);have h1:a.is[j]? =some a.is[j]:=aL oG;have h2:b.is[j]? =some b.is[j]:=aL oG;rw[getD_some h1,getD_some h2,beq_iff_eq] at this;rw[h1,h2,this]
 .rw[List.getElem?_eq_none oG,List.getElem?_eq_none oG]
theorem HY:∀ n:Nat,replD n [B false,.z]=cC (List.replicate n (false,.z))
 |0=>rfl
 |n+1=>by
  have:=HY n;unfold replD at this ⊢;rw[List.replicate_succ,List.replicate_succ,List.flatten_cons,this];rfl
theorem Iz:∀ {L:List (Bool×D)},(∀ p∈L,Tr p.2)->∀ x∈cC L,Tr x
 |[],_,x,h=>by simp[cC] at h
 |p::L,hp,x,h=>by
  have h:x∈B p.1::p.2::cC L:=h;rcases List.mem_cons.1 h with rfl|h
  .exact .s _
  .rcases List.mem_cons.1 h with rfl|h
   .exact hp p oS
   .exact Iz (fun q hq=>hp q (by simp[hq])) x h
theorem RV(f:aA)(s:CS):Tr (xP f s):=.sl (Iz fun p hp=>by
 obtain⟨k,_,rfl⟩:=List.mem_map.1 hp
 exact .sl (.map fun _=>.s _))
theorem RW{n N i:Nat}{cs:List D}{sz:Nat}(h:i≠2)(k:Nat):(gi n N (.rs 2 0 n) k).map (fun p=>(p.1,sub (fz0 i cs sz) p.2))=gi n N (.rs 2 0 n) k:=by
 cases k with
 |zero=>simp only[gi,List.map_replicate];rfl
 |succ k=>
  simp only[gi,List.map_cons,List.map_append,List.map_replicate,uR (Ne.symm h)];rfl
theorem SV{n N i k:Nat}(h:i≠2)(hk:k+1<N):(cC ((gi n N (.rs 2 0 n) (k+1)).set (k+1) (true,.rs i 0 n))).map (sub (fz0 i ((List.replicate n false).map B) 1))=cC (gi n N (.rs 2 0 n) (k+2)):=by
 rw[Ad _ (fun _=>rfl),List.map_set,RW h,vp,List.drop_zero,cL oS, <- SU hk];congr 3;show _=D.sl _ _;rw[List.length_replicate]
def ln(n N:Nat):List (Bool×D):=List.replicate (N - 1) (true,c6 (List.replicate n false))
theorem SW{n N:Nat}{d:D}(h:0<N):gi n N d N=(true,d)::ln n N:=by
 obtain⟨M,rfl⟩:∃ M,N=M+1:=⟨N - 1,oG⟩
 simp[gi,ln]
theorem Hg{n N:Nat}(h:0<N):(ln n N).length+1=N:=by simp[ln];omega
theorem Y9{n N i:Nat}{cs:List D}{sz:Nat}:(ln n N).map (fun p=>(p.1,sub (fz0 i cs sz) p.2))=ln n N:=by
 unfold ln;rw[List.map_replicate];rfl
theorem O0{R n N args:Nat}(h0:bO R n (gY N args) 0=⟨false,List.replicate args true++List.replicate (n - args) false⟩)(h1:∀ k,0<k->k<N->bO R n (gY N args) k=⟨true,List.replicate n false⟩)(C:0<N):
 dM R n N (gY N args)=(false,c6 (List.replicate args true++List.replicate (n - args) false))::ln n N:=by
 apply List.ext_getElem?;intro j;by_cases hj:j<N
 .rw[uJ hj];cases j with
  |zero=>rw[h0];rfl
  |succ j=>
   rw[h1 _ oG hj,List.getElem?_cons_succ];unfold ln;rw[List.getElem?_replicate,if_pos oG];rfl
 .rw[List.getElem?_eq_none (by rw[rL];omega),List.getElem?_eq_none (by have:=Hg (n:=n) C;simp;omega)]
theorem CN{R n N i sz:Nat}{cs:List D}{e:TypeId}{s:CS}:Row.sub (fz0 i cs sz) (.cells (cC (dM R n N s)) e)=.cells (cC (dM R n N s)) e:=by
 refine congrArg (fun c=>Row.cells c e) ((Ad _ (fun _=>rfl) _).trans (congrArg cC ?_));unfold dM;rw[List.map_map];rfl
def Ej(f:aA)(n N:Nat):Nat->St
 |0=>⟨ax [(1,.pt (ay f)),(3,I n),(4,.rs 1 0 N),(5,I (0:Nat))],bc [(1,.cells (cC (gi n N (.rs 2 0 n) 0)) 158)],2⟩
 |k+1=>⟨ax [(1,.pt (ay f)),(3,I n),(4,.rs 1 0 N),(5,I (k+1:Nat))],bc [(1,.cells (cC (gi n N (.rs 2 0 n) (k+1))) 158),(2,.cells ((List.replicate n false).map B) 4)],k+3⟩
end Go.Argus
namespace Go.Proofs.Tryz.K
set_option maxRecDepth 10000
set_option maxHeartbeats 2000000 in
theorem vM{f:aA}(M:sa f)(hw:∀ b∈f.blocks,b.fin.az.length<=9):PCall prog 121 [.agg (ay f)] (xP f (fK f.blocks f.args.toNat)):=by
 have hR:=M.ok.ag;have hS:=M.sl;have FA:=M.ok.qh;have j5:=M.ok.pos;obtain⟨a,ha,oQ⟩:=M.ar;have yc:=Hh (R:=f.ag.length) (n:=f.ag.length+f.aK.length) (N:=f.blocks.length) (args:=a) hR oG oG j5 oQ;rw[ha,dg];refine a7 Ws (.cons (.agg (fq f)) .nil) (RV f _) ?_;rw[Wt];refine au ?_;refine af ?_;refine ab (aJ (bj [(0,ay f,26)] eH (l:=[(1,.pt (ay f))]) eH) (au ?_));refine bH ?_;refine ab (aJ (ao (l:=[(1,.pt (ay f)),(3,I ((f.ag.length+f.aK.length:Nat):Int))]) eH) (au ?_));have hnn:f.ag.length+f.aK.length<=1260:=by omega
 have F5:f.ag.length<=f.ag.length+f.aK.length:=by omega
 unfold xP;generalize hn:f.ag.length+f.aK.length=n at yc hnn F5 ⊢;have du:((f.blocks.length:Nat):Int).toNat=f.blocks.length:=dg _;refine ap ?_;refine fW (zP rfl rfl V.h V.h) ak ⟨oG,rfl,oG,by rw[MZ];omega,V.h⟩ ?_;refine SS ?_;refine ab (aJ (aH (l:=[(1,.pt (ay f)),(3,I n),(4,.rs 1 0 f.blocks.length)]) (ml:=[(1,.cells (cC (gi n f.blocks.length (.rs 2 0 n) 0)) 158)]) ⟨rfl,rfl,congrArg (fun k=>D.rs 1 0 k) du,trivial⟩ ⟨?_,trivial⟩) (aB (au ?_)))
 .exact congrArg (fun c=>some (Row.cells c 158)) ((congrArg (fun k=>replD k [B false,D.z]) du).trans (HY _))
 refine SS ?_;have vT:((n:Nat):Int).toNat=n:=dg _
 refine ab (bZ (fun s=>∃ N,Ghost prog s ⟨ax [(1,.pt (ay f)),(3,I n),(4,.rs 1 0 f.blocks.length)],bc [(1,.cells (cC ((true,.rs 2 0 n)::ln n f.blocks.length)) 158),(2,.cells ((List.replicate n false).map B) 4)],N⟩/\3<=N) (cP (α:=Nat) (Ej f n f.blocks.length)
  (fun k=>k<=f.blocks.length) (fun k=>f.blocks.length - k) 0 (aH eH eH) oG ?_) ?_)
 .intro k hk;have U:=(uW (gi n f.blocks.length (.rs 2 0 n) k)).trans (congrArg (·*2) (Cr (n:=n) (d:=.rs 2 0 n) hk));cases k with
  |zero=>
   show AOps _ _ _ _ _ _ _ _ _;unfold Ej;refine aN ?_;refine ab ⟨_,rfl,fun h=>?_,fun h=>?_⟩
   .refine fJ ?_;have mP:=Cc (L:=gi n f.blocks.length (.rs 2 0 n) 0) (t:=0) (true,.rs 2 0 n) (by rw[Cr hk];exact j5);rw[SR j5] at mP;refine bF ?_;refine cE (fR (vs:=[B true,.rs 2 0 n]) rfl rfl rfl mP) cY (dx t158 jx ⟨rfl,by rw[U];omega⟩ rfl) ?_;refine ab ?_;refine ap ?_;refine ab (aP 1 (aH eH ⟨rfl,?_,trivial⟩) oG oG)
    .exact congrArg (fun c=>some (Row.cells c 4)) ((congrArg (fun k=>replD k [B false]) vT).trans (qu _ false))
   .exact absurd (of_decide_eq_false h) oG
  |succ k=>
   show AOps _ _ _ _ _ _ _ _ _;unfold Ej;refine aN ?_;refine ab ⟨_,rfl,fun h=>?_,fun h=>?_⟩
   .have al:k+1<f.blocks.length:=by have:=of_decide_eq_true h;omega
    refine fJ ?_;have mP:=Cc (L:=gi n f.blocks.length (.rs 2 0 n) (k+1)) (t:=k+1) (true,.rs (k+3) 0 n) (by rw[Cr hk];exact al);refine bF ?_;refine cE (fR (vs:=[B true,.rs (k+3) 0 n]) rfl rfl (aw oG rfl) mP) cY (dx t158 jx ⟨rfl,by rw[U];omega⟩ rfl) ?_;refine ab ?_;refine ap ?_;refine ab (aP (k+2) (mU (i:=k+3) (e:=4) (cs:=(List.replicate n false).map B) (aw oG ?_) ⟨rfl,rfl,uR oG,rfl,trivial⟩ ⟨?_,Dg oG (aw oG (aw oG rfl)) .map,trivial⟩) oG oG)
    .exact(up_same _ _ _).trans (congrArg (fun c=>some (Row.cells c 4)) ((congrArg (fun k=>replD k [B false]) vT).trans (qu _ false)))
    .rw[c4];refine(if_neg (show ¬ 1=k+3 by omega)).trans ?_;exact(congrArg (Option.map _) (up_same _ _ _)).trans (congrArg (fun c=>some (Row.cells c 158)) (SV oG al))
   .have a9:¬ k+1<f.blocks.length:=by have:=of_decide_eq_false h;omega
    have hkN:k+1=f.blocks.length:=by omega
    refine⟨k+3,aH eH ⟨?_,rfl,trivial⟩,oG⟩;rw[<- SW j5, <- hkN];rfl
 rintro s ⟨N3,hg,N8⟩;have oV:=Hg (n:=n) j5;have uE:=O0 yc.2.1 yc.2.2 j5;have F6:∀ cs sz,(ln n f.blocks.length).map (fun p=>(p.1,sub (fz0 2 cs sz) p.2))=ln n f.blocks.length:=fun cs sz=>Y9;have U:=uW (ln n f.blocks.length);generalize ln n f.blocks.length=T at hg oV uE F6 U;refine⟨_,hg,au ?_⟩;refine aN ?_;refine ab (aJ (aH (l:=[(1,.pt (ay f)),(3,I n),(4,.rs 1 0 f.blocks.length)]) (ml:=[(1,.cells (cC ((false,.rs 2 0 n)::T)) 158),(2,.cells ((List.replicate 0 true++List.replicate (n - 0) false).map B) 4)]) eH eH) (aB (au ?_)));refine SS ?_
 refine ab (bZ (fun s=>Ghost prog s ⟨ax [(1,.pt (ay f)),(3,I n),(4,.rs 1 0 f.blocks.length)],bc [(1,.cells (cC ((false,.rs 2 0 n)::T)) 158),(2,.cells ((List.replicate a true++List.replicate (n - a) false).map B) 4)],N3⟩) (cP (α:=Nat) (fun r=>⟨ax [(1,.pt (ay f)),(3,I n),(4,.rs 1 0 f.blocks.length),(6,I r)],bc [(1,.cells (cC ((false,.rs 2 0 n)::T)) 158),(2,.cells ((List.replicate r true++List.replicate (n - r) false).map B) 4)],N3⟩)
  (fun r=>r<=a) (fun r=>a - r) 0 (aH eH eH) oG ?_) ?_)
 .intro r hr;refine aN ?_;refine ab ⟨_,rfl,fun h=>?_,fun h=>?_⟩
  .have al:r<a:=by have:=of_decide_eq_true h;omega
   have pZ:=Dh (x:=true) (y:=false) (n:=n) (k:=r) oG;have lA:(List.replicate r true++List.replicate (n - r) false).length=n:=by simp;omega
   refine fJ ?_;refine dF ?_;refine ab ?_;refine ap ?_;refine ab (aP (r+1) (aH eH ⟨rfl,?_,trivial⟩) oG oG);rw[<- pZ,List.map_set];rfl
  .have a9:¬ r<a:=by have:=of_decide_eq_false h;omega
   have:r=a:=by omega
   subst this;exact aH eH eH
 clear hg;rintro s hg;refine⟨_,hg.trans (mU (i:=2) (e:=4) (cs:=(List.replicate a true++List.replicate (n - a) false).map B) (l:=[(1,.pt (ay f)),(3,I n),(4,.rs 1 0 f.blocks.length)]) (ml:=[(1,.cells (cC (dM f.ag.length n f.blocks.length (gY f.blocks.length a))) 158)]) rfl eH ⟨?_,trivial⟩),aB (au ?_)⟩
 .rw[c4,uE];refine congrArg (fun c=>some (Row.cells c 158)) ((Ad _ (fun _=>rfl) _).trans (congrArg cC ?_));rw[List.map_cons,F6,vp,List.drop_zero,cL oP];have:(List.replicate a true++List.replicate (n - a) false).length=n:=by simp;omega
  show(false,D.sl _ n)::T=(false,D.sl _ (List.length _))::T;rw[this]
 clear hg oV uE F6 U T;refine SS ?_;have hG0:=yc.1;clear yc;have Ob:fK f.blocks a=jE f.blocks (mL (gY f.blocks.length a)+1) (gY f.blocks.length a):=rfl;generalize fK f.blocks a=RR at Ob ⊢
 refine ab (bZ (fun s=>∃ N,Ghost prog s ⟨ax [(4,.rs 1 0 f.blocks.length)],bc [(1,.cells (cC (dM f.ag.length n f.blocks.length RR)) 158)],N⟩) (z9 (α:=CS×Nat)
  (fun s=>⟨ax [(1,.pt (ay f)),(3,I n),(4,.rs 1 0 f.blocks.length),(7,B s.1.ch)],bc [(1,.cells (cC (dM f.ag.length n f.blocks.length s.1)) 158)],s.2⟩)
  (fun s=>l7 f.ag.length n f.blocks.length s.1/\2<=s.2/\(s.1.ch=true->∃ k,mL s.1<k/\jE f.blocks k s.1=RR)/\(s.1.ch=false->s.1=RR)) (fun s=>2*mL s.1+if s.1.ch=true then 1 else 0) (gY f.blocks.length a,N3)
  (aH eH eH) ⟨hG0,oM,fun _=>⟨_,Nat.lt_succ_self _,Ob.symm⟩,fun h=>by cases h⟩ ?_) ?_)
 .rintro⟨C,N0⟩ ⟨hG,M0,y7,yp⟩;dsimp only at hG M0 y7 yp ⊢;refine SS ?_;refine ab ⟨_,rfl,fun h0=>?_,fun h=>?_⟩
  .obtain⟨gj,UY,xW⟩:=y7 h0;obtain⟨gj,rfl⟩:∃ j,gj=j+1:=⟨gj - 1,oG⟩
   have xX:=wC M.ok.blk hG.ok;refine ws ?_;refine SS ?_;refine ab (au ?_);refine SS ?_
   refine ab (cP (α:=Nat×Nat)
    (fun k=>⟨ax [(1,.pt (ay f)),(3,I n),(4,.rs 1 0 f.blocks.length),(7,B ((List.range k.1).foldl (cZ f.blocks) ⟨C.ws,C.re,false⟩).ch),(8,I k.1)],bc [(1,.cells (cC (dM f.ag.length n f.blocks.length ((List.range k.1).foldl (cZ f.blocks) ⟨C.ws,C.re,false⟩))) 158)],k.2⟩)
    (fun k=>k.1<=f.blocks.length/\2<=k.2/\l7 f.ag.length n f.blocks.length ((List.range k.1).foldl (cZ f.blocks) ⟨C.ws,C.re,false⟩)) (fun k=>f.blocks.length - k.1) (0,N0) (aH eH eH) ⟨Nat.zero_le _,M0,IA hG false⟩ ?_)
   rintro⟨k,N⟩ ⟨hk,hN,uF⟩;dsimp only at hk hN uF ⊢;have bL:(List.range (k+1)).foldl (cZ f.blocks) ⟨C.ws,C.re,false⟩=cZ f.blocks ((List.range k).foldl (cZ f.blocks) ⟨C.ws,C.re,false⟩) k:=by rw[List.range_succ,List.foldl_append];rfl
   have fC:k=f.blocks.length->(List.range k).foldl (cZ f.blocks) ⟨C.ws,C.re,false⟩=gX f.blocks C:=fun e=>by rw[e,gX]
   generalize (List.range k).foldl (cZ f.blocks) ⟨C.ws,C.re,false⟩=u at uF bL fC;refine aN ?_;refine ab ⟨_,rfl,fun h=>?_,fun h=>?_⟩
   .have al:k<f.blocks.length:=by simpa using h
    have hx:f.blocks[k]? =some f.blocks[k]:=aL al;have X:f.blocks[k]∈f.blocks:=bR _;generalize f.blocks[k]=x at hx X;have J:cZ f.blocks u k=if u.re.getD k false=true then(nextR x.fin).foldl (bY x.fin (gm x (u.ws.getD k [])).1) u else u:=by rw[cZ,hx]
    have wz:=uJ (R:=f.ag.length) (n:=n) (s:=u) al;obtain⟨rr,kd⟩:=TQ wz;have rK:=Iy wz;have U:=(uW (dM f.ag.length n f.blocks.length u)).trans (congrArg (·*2) (rL f.ag.length n f.blocks.length u));have zo:bO f.ag.length n u k=if u.re.getD k false=true then⟨false,bM f.ag.length n (u.ws.getD k [])⟩ else⟨true,List.replicate n false⟩:=rfl
    have BL:=uF.yes k al;have M1:=uF.ok.M3 al;refine aB (aj ?_);cases lJ:u.re.getD k false with
    |false=>
     rw[lJ] at zo J;rw[zo] at kd;have J:cZ f.blocks u k=u:=J;have kd:(cC (dM f.ag.length n f.blocks.length u)).drop (k*2+0)=B true::c6 (List.replicate n false)::rr:=kd;refine aR ?_;refine ab (cy rfl (fun h=>nO (tu ?_)) fun h=>oH);refine ap ?_;refine ab (aP (k+1,N) (aH ⟨rfl,rfl,rfl,?_,rfl,trivial⟩ ⟨?_,trivial⟩) ⟨oM,hN,?_⟩ oM)
     .dsimp only;rw[bL,J];rfl
     .dsimp only;rw[bL,J];rfl
     .dsimp only;rw[bL,J];exact uF
    |true=>
    rw[lJ] at zo J;rw[zo] at kd rK;have J:cZ f.blocks u k=(nextR x.fin).foldl (bY x.fin (gm x (u.ws.getD k [])).1) u:=J;have BL:=BL lJ;generalize u.ws.getD k []=w at zo J kd rK BL M1;have kd:(cC (dM f.ag.length n f.blocks.length u)).drop (k*2+0)=B false::c6 (bM f.ag.length n w)::rr:=kd;refine aR ?_;refine ab (cy rfl (fun h=>oH) fun h=>cu (mR PG ?_));have N5:(bM f.ag.length n w).length=n:=wP ..;obtain⟨q1,q2,q3⟩:=wQ (R:=f.ag.length) (n:=n) hR oG F5 (l:=x.ins) (ok:=true) (fun y hy=>hn▸(M.ins x X y hy).1) M1 BL;have qW:PCall prog 127 [.agg (ay f),I k,.agg (bQ ⟨false,bM f.ag.length n w⟩)] (.agg (bQ (dN f.ag.length x.ins ⟨false,bM f.ag.length n w⟩))):=qW hx (by rw[hn];exact N5) (by show(bM f.ag.length n w).length<=_;omega) (fun y hy=>(M.ins x X y hy).1) (by have:=(M.ok.blk x X).len;omega);rw[q1] at qW;have y6:(gm x w).1=(x.ins.foldl kC (w,true)).1:=rfl;rw[y6] at J;clear y6;generalize (x.ins.foldl kC (w,true)).1=w' at q1 q2 q3 qW J;refine aR ?_;refine aD (dQ rfl rfl oD jx rK) cY (dR t158 jx (by rw[U];omega)) ?_;refine cl qW ?_;refine af ?_;have Y':(bM f.ag.length n w').length=n:=wP ..;refine bf bg (aJ (mU (i:=N) (l:=[(1,.pt (ay f)),(3,I n),(4,.rs 1 0 f.blocks.length),(7,B u.ch),(8,I k),(9,.pt (bQ ⟨false,bM f.ag.length n w'⟩))]) (ml:=[(1,.cells (cC (dM f.ag.length n f.blocks.length u)) 158)]) (up_same _ _ _) ⟨rfl,rfl,uR oG,rfl,rfl,jl,trivial⟩ ⟨s9 oG (aw oG (aw oG rfl)) CN,trivial⟩) (aj ?_));have ig:=ig hx (by have:=hw x X;omega);rw[(M.ed x X).2] at ig;have cB:=(M.ok.blk x X).to;have gF:=rM x.fin;have N7:=hw x X;have mO:=M.wr x X;have vW:=(M.ed x X).1;generalize nextR x.fin=l at ig cB gF J;refine af ?_;refine cl ig ?_;refine SS ?_;refine ab (au ?_);refine SS ?_
    refine ab (cP (α:=Nat×Nat)
     (fun j=>⟨ax [(1,.pt (ay f)),(3,I n),(4,.rs 1 0 f.blocks.length),(7,B ((l.take j.1).foldl (bY x.fin w') u).ch),(8,I k),(9,.pt (bQ ⟨false,bM f.ag.length n w'⟩)),(10,aC l),(11,I j.1)],bc [(1,.cells (cC (dM f.ag.length n f.blocks.length ((l.take j.1).foldl (bY x.fin w') u))) 158)],j.2⟩)
     (fun j=>j.1<=l.length/\2<=j.2/\l7 f.ag.length n f.blocks.length ((l.take j.1).foldl (bY x.fin w') u)) (fun j=>l.length - j.1) (0,N+1) (aH eH eH) ⟨Nat.zero_le _,oM,uF⟩ ?_)
    clear rK U;rintro⟨j,N'⟩ ⟨hj,Bz,BM⟩;dsimp only at hj Bz BM ⊢;have dn:∀ t,l[j]? =some t->(l.take (j+1)).foldl (bY x.fin w') u=bY x.fin w' ((l.take j).foldl (bY x.fin w') u) t:=fun t ht=>lL ht;have lk:j=l.length->(l.take j).foldl (bY x.fin w') u=cZ f.blocks u k:=fun e=>by rw[J,cL oG]
    generalize (l.take j).foldl (bY x.fin w') u=v at BM dn lk;refine aN ?_;refine ab ⟨_,rfl,fun h=>?_,fun h=>?_⟩
    .have cI:j<l.length:=by simpa using h
     have ht:l[j]? =some l[j]:=aL cI;have kS:=cB _ (bR cI);generalize l[j]=t at ht kS;obtain⟨i,rfl⟩:=eC kS.1;have bB:i<f.blocks.length:=by omega
     have wz:=uJ (R:=f.ag.length) (n:=n) (s:=v) bB;have rK:=Iy wz;have U:=(uW (dM f.ag.length n f.blocks.length v)).trans (congrArg (·*2) (rL f.ag.length n f.blocks.length v));have mP:=fun q=>Cc (L:=dM f.ag.length n f.blocks.length v) (t:=i) q (by rw[rL];exact bB);obtain⟨F7,jC⟩:=IB (R:=f.ag.length) (n:=n) hR oG F5 BM vW mO bB q2 q3;have dn:=dn _ ht
     have sw:PCall prog 126 [.agg (ay f),I k,I i,.agg (bQ ⟨false,bM f.ag.length n w'⟩)] (.agg (bQ (jV x.fin i ⟨false,bM f.ag.length n w'⟩))):=sw hx oG (by show(bM f.ag.length n w').length<=_;omega) (by
      rcases mO with e|⟨r,h1,h2⟩
      .exact .inl e
      .exact .inr ⟨r,by show r<(bM f.ag.length n w').length;omega,h2⟩)
     have oI:(jV x.fin i ⟨false,bM f.ag.length n w'⟩).is.length=n:=(He ..).trans Y';have c8:(bO f.ag.length n v i).is.length=n:=Cd;have vL:=vL (a:=bO f.ag.length n v i) (b:=jV x.fin i ⟨false,bM f.ag.length n w'⟩) (by rw[c8,oI]) oG;unfold vN at jC
     have v9:(l5 (bO f.ag.length n v i) (jV x.fin i ⟨false,bM f.ag.length n w'⟩)).is.length=n:=by
      unfold l5;split
      .exact oI
      .split
       .exact c8
       .show(List.zipWith _ _ _).length=n;rw[List.length_zipWith];omega
     generalize l5 (bO f.ag.length n v i) (jV x.fin i ⟨false,bM f.ag.length n w'⟩)=now at vL jC v9;generalize jV x.fin i ⟨false,bM f.ag.length n w'⟩=ov at sw vL oI;generalize ace:bO f.ag.length n v i=jg at vL jC c8 rK;have rK:((cC (dM f.ag.length n f.blocks.length v)).drop (i*2)).take 2=bQ jg:=rK;refine au ?_;refine bF ?_;refine aD (dQ rfl rfl oD jx rK) cY (dR t158 jx (by rw[U];omega)) ?_;refine af ?_;refine ab (aJ (mU (i:=N') (l:=[(1,.pt (ay f)),(3,I n),(4,.rs 1 0 f.blocks.length),(7,B v.ch),(8,I k),(9,.pt (bQ ⟨false,bM f.ag.length n w'⟩)),(10,aC l),(11,I j),(12,.pt (bQ jg))]) (ml:=[(1,.cells (cC (dM f.ag.length n f.blocks.length v)) 158)]) (up_same _ _ _) ⟨rfl,rfl,uR oG,rfl,rfl,rfl,rfl,rfl,jl,trivial⟩ ⟨s9 oG (aw oG (aw oG rfl)) CN,trivial⟩) (mR PH ?_));refine bH ?_;refine cl sw ?_;refine cl vL ?_;refine af ?_;refine bf bg (aJ (mU (i:=N'+1) (l:=[(1,.pt (ay f)),(3,I n),(4,.rs 1 0 f.blocks.length),(7,B v.ch),(8,I k),(9,.pt (bQ ⟨false,bM f.ag.length n w'⟩)),(10,aC l),(11,I j),(12,.pt (bQ jg)),(13,.pt (bQ now))]) (ml:=[(1,.cells (cC (dM f.ag.length n f.blocks.length v)) 158)]) (up_same _ _ _) ⟨rfl,rfl,uR oG,rfl,rfl,rfl,rfl,rfl,rfl,jl,trivial⟩ ⟨s9 oG (aw oG (aw oG rfl)) CN,trivial⟩) (aj ?_));refine aN ?_;refine aD (Jt rfl rfl) ak V.h ?_;refine SS ?_;refine ab (aB (au ?_));refine SS ?_
     refine ab (bZ (fun s=>Ghost prog s ⟨ax [(1,.pt (ay f)),(3,I n),(4,.rs 1 0 f.blocks.length),(7,B v.ch),(8,I k),(9,.pt (bQ ⟨false,bM f.ag.length n w'⟩)),(10,aC l),(11,I j),(13,.pt (bQ now)),(14,B (l6 jg now n))],bc [(1,.cells (cC (dM f.ag.length n f.blocks.length v)) 158)],N'+2⟩) (cP (α:=Nat) (fun q=>⟨ax [(1,.pt (ay f)),(3,I n),(4,.rs 1 0 f.blocks.length),(7,B v.ch),(8,I k),(9,.pt (bQ ⟨false,bM f.ag.length n w'⟩)),(10,aC l),(11,I j),(12,.pt (bQ jg)),(13,.pt (bQ now)),(14,B (l6 jg now q)),(15,I q)],bc [(1,.cells (cC (dM f.ag.length n f.blocks.length v)) 158)],N'+2⟩)
      (fun q=>q<=n) (fun q=>n - q) 0 (aH ⟨rfl,rfl,rfl,rfl,rfl,rfl,rfl,rfl,rfl,rfl,?_,rfl,trivial⟩ eH) oG ?_) ?_)
     .show B (jg.any==now.any)=B (l6 jg now 0);unfold l6;rw[List.range_zero,List.all_nil,Bool.and_true]
     .intro q hq;have sZ:=PF jg now q;have Oc:q=n->l6 jg now q=l6 jg now n:=fun e=>by rw[e]
      generalize l6 jg now q=sq at sZ Oc;refine ap ?_;refine ab ⟨_,rfl,fun h=>?_,fun h=>?_⟩
      .have wy:q<n:=by simpa using h
       have BN:jg.is[q]? =some jg.is[q]:=aL oG;have Od:now.is[q]? =some now.is[q]:=aL oG;rw[getD_some BN,getD_some Od] at sZ;generalize jg.is[q]=b1 at BN sZ;generalize now.is[q]=b2 at Od sZ;refine kX PI ?_;cases sq with
       |false=>
        refine af ?_;(iterate 11 refine z fun _ _=>?_);refine af ?_;refine bf bg ?_;refine ap ?_;refine ab (aP (q+1) (aH ⟨rfl,rfl,rfl,rfl,rfl,rfl,rfl,rfl,rfl,rfl,?_,rfl,trivial⟩ eH) oG oG);rw[sZ];rfl
       |true=>
        refine aQ ?_;refine ap ?_;refine Za ?_;refine af ?_;refine bf bg ?_;refine ap ?_;refine ab (aP (q+1) (aH ⟨rfl,rfl,rfl,rfl,rfl,rfl,rfl,rfl,rfl,rfl,?_,rfl,trivial⟩ eH) oG oG);rw[sZ];rfl
      .have a9:¬ q<n:=by simpa using h
       rw[<- Oc oG];exact aH eH eH
     rintro s1 uf;have cA:=QN c8 v9;generalize l6 jg now n=sq at uf cA;refine⟨_,uf,aj ?_⟩;clear uf;refine af ?_;refine ab (an rfl (fun hp=>?_) fun hp=>cD ?_)
     .have hns:¬ (jg.any=now.any/\jg.is=now.is):=fun h=>by rw[cA.2 h] at hp;cases hp
      have mP:=mP (yD now);rcases jC with⟨jC,_⟩|⟨_,oU,F8⟩
      .exact absurd ⟨congrArg Cert.any jC.symm,congrArg Cert.is jC.symm⟩ hns
      rw[PE F8] at mP;refine dz PJ ?_;refine dF ?_;refine cE (fR (vs:=bQ now) rfl rfl rfl mP) cY (dx t158 jx ⟨rfl,by rw[U];omega⟩ rfl) ?_;refine bf bg (fJ ?_);refine SS ?_;refine ab ?_;refine ap ?_;refine ab (aP (j+1,N'+2) (aH ⟨rfl,rfl,rfl,?_,rfl,rfl,rfl,rfl,trivial⟩ ⟨?_,trivial⟩) ⟨oM,oM,?_⟩ oM)
      .dsimp only;rw[dn,oU];rfl
      .dsimp only;rw[dn];rfl
      .dsimp only;rw[dn];exact F7
     .have Fz:sq=true:=by simpa using hp
      have Oe:=cA.1 Fz;rcases jC with⟨_,jC⟩|⟨aI,_,_⟩
      .rw[jC] at dn F7;refine ap ?_;refine ab (aP (j+1,N'+2) (aH ⟨rfl,rfl,rfl,?_,rfl,rfl,rfl,rfl,trivial⟩ ⟨?_,trivial⟩) ⟨oM,oM,?_⟩ oM)
       .dsimp only;rw[dn];rfl
       .dsimp only;rw[dn];rfl
       .dsimp only;rw[dn];exact F7
      .exfalso;rcases aI with h|h
       .exact h Oe.1.symm
       .exact h Oe.2.symm
    .have a9:¬ j<l.length:=by simpa using h
     have vl:=lk oG;subst vl;show AOps _ _ _ _ _ _ _ _ _;refine ap ?_;refine ab (aP (k+1,N') (aH ⟨rfl,rfl,rfl,?_,rfl,trivial⟩ ⟨?_,trivial⟩) ⟨oM,Bz,?_⟩ oM)
     .dsimp only;rw[bL];rfl
     .dsimp only;rw[bL];rfl
     .dsimp only;rw[bL];exact BM
   .have a9:¬ k<f.blocks.length:=by simpa using h
    have hl:=fC oG;subst hl;refine aP (gX f.blocks C,N) (aH eH eH) ⟨uF,hN,fun hc=>?_,fun hc=>?_⟩ ?_
    .refine⟨gj,?_,?_⟩
     .have:=xX.2;unfold kQ at this;show mL (gX f.blocks C)<gj;rw[if_pos hc] at this;omega
     .dsimp only at hc ⊢;rw[<- xW,jE,if_pos hc]
    .dsimp only at hc ⊢;rw[<- xW,jE,if_neg (by simp[hc])]
    .have:=xX.2;unfold kQ at this;dsimp only;rw[if_pos h0];split at this<;>rename_i hc
     .rw[if_pos hc];omega
     .rw[if_neg hc];omega
  .have FH:=yp h;subst FH;exact⟨N0,aH eH eH⟩
 .rintro s ⟨N4,hg⟩;refine⟨_,hg,au ?_⟩;refine af ?_;refine ab (aJ (bj [(1,cC (dM f.ag.length n f.blocks.length RR),158)] eH (l:=[(2,.sl (cC (dM f.ag.length n f.blocks.length RR)) f.blocks.length)]) ⟨?_,trivial⟩) (aq rfl rfl));show sub (fz0 1 _ (prog.cellsOf 158)) (D.rs 1 0 f.blocks.length)=_;rw[lM (by rw[jx,uW,rL])]
end Go.Proofs.Tryz.K
namespace Go.Argus
open Go.Proofs.Tryz.K (nextR)
@[simp] theorem GJ (p : Bool × D) : (lm p).length = 2 := rfl
theorem O1{f:aA}(h:iu f=true):∀ b∈f.blocks,gI f b.fin=true:=fun b hb=>by
 unfold iu at h;simp only[aM] at h;obtain⟨_,_,_,h4,_⟩:=h;obtain⟨k,hk⟩:=dh hb;have:=br.1 h4 k (by simpa using(bA.1 hk).1);unfold gH at this;simp only[getD_some hk,aM] at this;exact this.1
theorem zU{f:aA}{k:Nat}{x:bu}(h:f.blocks[k]? =some x):b9 f k=nextR x.fin:=by
 unfold b9 bw cF;rw[bD,List.getElem?_map,h];rfl
theorem SX{l:List Bool}{b:Nat}(hb:b<l.length)(h:l.getD b false=false):(l.set b true).count false<l.count false:=by
 have:=pg (pj h hb);omega
end Go.Argus
namespace Go.Proofs.Tryz.K
set_option maxRecDepth 10000
set_option maxHeartbeats 2000000 in
theorem nK{f:aA}(hs:sb f)(hw:∀ b∈f.blocks,b.fin.az.length<=9):PCall prog 55 [.agg (ay f)] (I (dV f)):=by
 rw[<- QO];have vK:=vK hs hw;have Bt:DC f=if qv f=true then(if(List.range f.blocks.length).all (l8 f (fK f.blocks f.args.toNat))=true then 0 else 81) else 80:=rfl
 refine a7 Zb (.cons (.agg (fq f)) .nil) (Tr.s _) ?_;rw[Zc,Bt];clear Bt;refine au ?_;refine af ?_;refine ab (aJ (bj [(0,ay f,26)] eH (l:=[(1,.pt (ay f))]) eH) (aj ?_));cases hf:qv f with
 |false=>
  rw[hf] at vK;refine SS ?_;refine cl vK ?_;refine SS ?_;refine ab (aB (aj ?_));refine af ?_;refine ab (np ?_);refine aB (aj ?_);refine SS ?_;exact ab (di (aq rfl rfl))
 |true=>
 rw[hf] at vK;rw[if_pos rfl];rw[GO] at hf;have he:=O1 hf;have U:=AF hf;have vM:=vM U hw;have hR:=U.ok.ag;have hS:=U.sl;have FA:=U.ok.qh;have sY:=sY (f:=f) rfl oG hw (fun b hb t ht=>by rw[(U.ed b hb).2] at ht;exact(U.ok.blk b hb).to t ht)
 have Of:∀ k,k<f.blocks.length->(lQ f.blocks)[k]? =some (bh f.blocks f.blocks.length k):=fun k hk=>by
  rw[<- Hi he];simp[lQ,hk]
 have BI:(lQ f.blocks).length=f.blocks.length:=by simp[lQ]
 generalize lQ f.blocks=L at sY Of BI
 have Og:xP f (fK f.blocks f.args.toNat)=.sl ((dM f.ag.length (f.ag.length+f.aK.length) f.blocks.length (fK f.blocks f.args.toNat)).flatMap lm) (dM f.ag.length (f.ag.length+f.aK.length) f.blocks.length (fK f.blocks f.args.toNat)).length:=by
  unfold xP;rw[rL];rfl
 rw[Og] at vM;clear Og;generalize fK f.blocks f.args.toNat=RR at vM ⊢;have F9:∀ k,k<f.blocks.length->(dM f.ag.length (f.ag.length+f.aK.length) f.blocks.length RR)[k]? =some (yD (bO f.ag.length (f.ag.length+f.aK.length) RR k)):=fun k hk=>uJ hk;have hCl:=rL f.ag.length (f.ag.length+f.aK.length) f.blocks.length RR;generalize dM f.ag.length (f.ag.length+f.aK.length) f.blocks.length RR=CP at vM F9 hCl;refine SS ?_;refine cl vK ?_;refine SS ?_;refine ab (aB (aj ?_));refine af ?_;refine ab (oc (cu (aj ?_)));refine SS ?_;refine cl vM ?_;refine SS ?_;refine er ?_;refine SS ?_;refine cl sY ?_;refine SS ?_;refine ab (aB (au ?_));refine SS ?_
 refine ab (bZ (fun s=>(∃ N,Ghost prog s ⟨ax [],fun _=>none,N⟩)/\(List.range f.blocks.length).all (l8 f RR)=true) (cP (α:=Nat×Nat) (fun q=>⟨ax [(1,.pt (ay f)),(4,.sl (CP.flatMap lm) CP.length),(5,bC L),(6,I q.1)],fun _=>none,q.2⟩)
  (fun q=>q.1<=f.blocks.length/\(List.range q.1).all (l8 f RR)=true) (fun q=>f.blocks.length - q.1) (0,1) (eR eH) ⟨Nat.zero_le _,rfl⟩ ?_) ?_)
 .rintro⟨k,N⟩ ⟨hk,bt⟩;dsimp only at hk bt ⊢;refine aR ?_;refine ab ⟨_,rfl,fun h=>?_,fun h=>?_⟩
  .have al:k<f.blocks.length:=by simpa using h
   have hx:f.blocks[k]? =some f.blocks[k]:=aL al;have bT:f.blocks[k]∈f.blocks:=bR _;have wz:=F9 k al;have mj:l8 f RR k=false->(if(List.range f.blocks.length).all (l8 f RR)=true then(0:Int) else 81)=81:=fun hq=>by rw[kT al hq];rfl
   have s4:l8 f RR k=((bO f.ag.length (f.ag.length+f.aK.length) RR k).any||((List.range f.blocks[k].ins.length).all (tX f RR k f.blocks[k].ins (bO f.ag.length (f.ag.length+f.aK.length) RR k))&&nN (dN f.ag.length f.blocks[k].ins (bO f.ag.length (f.ag.length+f.aK.length) RR k)) (bU f.blocks[k].fin))):=by
    unfold l8;simp only[getD_some hx]
   have c8:(bO f.ag.length (f.ag.length+f.aK.length) RR k).is.length=f.ag.length+f.aK.length:=Cd;generalize f.blocks[k]=x at hx bT s4;generalize bO f.ag.length (f.ag.length+f.aK.length) RR k=c at wz s4 c8;obtain⟨ca,C⟩:=c;refine aB (aj ?_);cases ca with
   |true=>
    refine aR ?_;refine ab (cy rfl (fun h=>nO (tu ?_)) fun h=>oH);refine ap ?_;exact ab (aP (k+1,N) (eR eH) ⟨oM,iN bt s4⟩ oM)
   |false=>
   refine aR ?_;refine ab (cy rfl (fun h=>oH) fun h=>cu (au ?_));rw[show({ any:=false,is:=C }:Cert).any=false from rfl,Bool.false_or] at s4;refine bF ?_;refine ab (aJ (aH (l:=[(1,.pt (ay f)),(4,.sl (CP.flatMap lm) CP.length),(5,bC L),(6,I k),(7,.rp N 0)]) (ml:=[(N,.cells (bQ ⟨false,C⟩) 158)]) eH ⟨up_same _ _ _,trivial⟩) (aj ?_));refine dF ?_;have cV:=(U.ok.blk x bT).len;have Zd:=U.ins x bT;have tQ:=U.BD k x hx;have hAg:=Of k al;have Ze:=Ce (fun b hb t ht=>((U.ok.blk b hb).to t ht).1) f.blocks.length k;have Wu:=U.ok.blk;have J:∀ y q,l9 f RR k y q=l9 f RR k y q:=fun _ _=>rfl;refine ab (aB (au ?_));refine SS ?_
   refine ab (bZ (fun s=>∃ N',Ghost prog s ⟨ax [(1,.pt (ay f)),(4,.sl (CP.flatMap lm) CP.length),(5,bC L),(6,I k),(7,.rp N 0)],bc [(N,.cells (bQ (dN f.ag.length x.ins ⟨false,C⟩)) 158)],N'⟩/\N<N'/\(List.range x.ins.length).all (tX f RR k x.ins ⟨false,C⟩)=true) (cP (α:=Nat×Nat) (fun j=>⟨ax [(1,.pt (ay f)),(4,.sl (CP.flatMap lm) CP.length),(5,bC L),(6,I k),(7,.rp N 0),(8,fu x.ins),(9,I j.1)],bc [(N,.cells (bQ (dN f.ag.length (x.ins.take j.1) ⟨false,C⟩)) 158)],j.2⟩)
    (fun j=>j.1<=x.ins.length/\N<j.2/\(List.range j.1).all (tX f RR k x.ins ⟨false,C⟩)=true) (fun j=>x.ins.length - j.1) (0,N+1) (aH eH ⟨up_same _ _ _,trivial⟩) ⟨Nat.zero_le _,Nat.lt_succ_self _,rfl⟩ ?_) ?_)
   .rintro⟨j,M⟩ ⟨hj,hM,ql⟩;dsimp only at hj hM ql ⊢;have aX:∀ y,x.ins[j]? =some y->dN f.ag.length (x.ins.take (j+1)) ⟨false,C⟩=qV f.ag.length (dN f.ag.length (x.ins.take j) ⟨false,C⟩) y:=fun y hy=>lL hy;have fC:j=x.ins.length->dN f.ag.length (x.ins.take j) ⟨false,C⟩=dN f.ag.length x.ins ⟨false,C⟩:=fun e=>by rw[e,List.take_length]
    have s3:=(wI f.ag.length (x.ins.take j) ⟨false,C⟩).trans c8;have cJ:tX f RR k x.ins ⟨false,C⟩ j=(opsV f.ag.length (dN f.ag.length (x.ins.take j) ⟨false,C⟩) (x.ins.getD j dc)&&vO f RR k (x.ins.getD j dc)):=rfl;generalize dN f.ag.length (x.ins.take j) ⟨false,C⟩=d at aX fC s3 cJ;refine aN ?_;refine ab ⟨_,rfl,fun h=>?_,fun h=>?_⟩
    .have cI:j<x.ins.length:=by simpa using h
     have hy:x.ins[j]? =some x.ins[j]:=aL cI;have aX:=aX _ hy;rw[getD_some hy] at cJ;have rB:=Zd _ (bR cI);have o5:=tQ j _ hy;have oi:tX f RR k x.ins ⟨false,C⟩ j=false->(if(List.range f.blocks.length).all (l8 f RR)=true then(0:Int) else 81)=81:=fun hq=>mj (by rw[s4,kT cI hq];rfl);generalize x.ins[j]=y at hy aX cJ rB o5;refine au ?_;refine bF ?_;refine ab (aJ (mU (i:=M) (l:=[(1,.pt (ay f)),(4,.sl (CP.flatMap lm) CP.length),(5,bC L),(6,I k),(7,.rp N 0),(8,fu x.ins),(9,I j),(10,.pt (a8 y))]) (ml:=[(N,.cells (bQ d) 158)]) (up_same _ _ _) ⟨rfl,rfl,rfl,rfl,zY oG,rfl,rfl,jl,trivial⟩ ⟨s9 oG (aw oG (aw oG (up_same _ _ _))) rfl,trivial⟩) (dA (fun s=>Ghost prog s ⟨ax [(1,.pt (ay f)),(4,.sl (CP.flatMap lm) CP.length),(5,bC L),(6,I k),(7,.rp N 0),(8,fu x.ins),(9,I j),(10,.pt (a8 y))],bc [(N,.cells (bQ d) 158)],M+1⟩/\opsV f.ag.length d y=true) ?_ ?_))
     .have bS:=(Wu x bT).ins y (cg hy);clear aX o5;obtain⟨X,yt,ya,yb,yn,yl⟩:=y;have lH:opsV f.ag.length d ⟨X,yt,ya,yb,yn,yl⟩=((X !=17||d.is.getD ((f.ag.length:Int)+yn).toNat false)&&nN d (bW ⟨X,yt,ya,yb,yn,yl⟩)):=rfl;have sv:=sv (x:=⟨X,yt,ya,yb,yn,yl⟩) (fun ho=>by have:=bS.ar ho;dsimp only at this ⊢;omega)
      have oB:=oB (c:=d) (rs:=bW ⟨X,yt,ya,yb,yn,yl⟩) (fun r hr=>by
       obtain⟨i,h1,h2⟩:=rB.2.r r hr
       exact⟨i,oG,h2⟩)
      generalize nN d (bW ⟨X,yt,ya,yb,yn,yl⟩)=v at oB lH;generalize bW ⟨X,yt,ya,yb,yn,yl⟩=rs at oB sv;have M4:opsV f.ag.length d ⟨X,yt,ya,yb,yn,yl⟩=false->I 81=I (if(List.range f.blocks.length).all (l8 f RR)=true then 0 else 81):=fun hq=>by rw[oi (by rw[cJ,hq];rfl)]
      refine dz QP ?_;by_cases fH:X=17
      .obtain⟨i,hi,e⟩:=rB.2.s fH;dsimp only at e;subst e;have Oh:d.is[f.ag.length+i]? =some d.is[f.ag.length+i]:=aL oG;have fE:(X==17)=true:=by simp[fH]
       rw[show((f.ag.length:Int)+(i:Int)).toNat=f.ag.length+i by omega,getD_some Oh,show(X !=17)=false by simp[fH],Bool.false_or] at lH;generalize d.is[f.ag.length+i]=b at Oh lH;have rj:({ op:=X,to:=yt,a:=ya,b:=yb,n:=(i:Int),args:=yl }:bd).n=(i:Int):=rfl;refine aQ ?_;refine af ?_;refine bl rfl rfl (Kx rfl rfl oG) (fun hc=>⟨ak,rfl⟩) ?_;refine aR ?_;refine bl rfl rfl (dQ rfl (up_same _ _ _) V.h V.h rfl) (fun hc=>⟨ak,(dR V.h V.h (by first|(simp;done)|omega|exact bn rfl))⟩) ?_;refine SS ?_;refine gc sv ?_;refine gc oB ?_;refine af ?_;refine bf bg (an rfl (fun hp=>aj ?_) fun hp=>aV ⟨aH eH ⟨up_same _ _ _,trivial⟩,by rw[lH];revert hp;cases b<;>cases v<;>simp⟩);refine SS ?_;exact ab (aU (aO (cq (aO (cq (aO (aq rfl (M4 (by rw[lH];revert hp;cases b<;>cases v<;>simp)))))))))
      .have fE:(X==17)=false:=by simp[fH]
       rw[show(X !=17)=true by simp[fH],Bool.true_or,Bool.true_and] at lH;refine aN ?_;(iterate 11 refine z fun _ _=>?_);refine af ?_;refine bl rfl rfl (dQ rfl (up_same _ _ _) V.h V.h rfl) (fun hc=>⟨ak,(dR V.h V.h (by first|(simp;done)|omega|exact bn rfl))⟩) ?_;refine SS ?_;refine gc sv ?_;refine gc oB ?_;refine af ?_;refine bf bg (an rfl (fun hp=>aj ?_) fun hp=>aV ⟨aH eH ⟨up_same _ _ _,trivial⟩,by rw[lH];revert hp;cases v<;>simp⟩);refine SS ?_;exact ab (aU (aO (cq (aO (cq (aO (aq rfl (M4 (by rw[lH];revert hp;cases v<;>simp)))))))))
     rintro s ⟨hg,M5⟩;rw[M5,Bool.true_and] at cJ;clear M5;have nC:=nC (x:=y)
     have hp:yB d.is.length (cN y):=by
      rcases rB.1.w with e|⟨i,h1,h2⟩
      .exact .inl e
      .exact .inr ⟨i,oG,h2⟩
     have kw:=gR (c:=d) oG hp;have sW:=(zL d (cN y)).trans s3
     have kv:y.op=18->PCall prog 124 [.agg (bQ (gz d (cN y))),I ((f.ag.length:Int)+y.n)] (.agg (bQ (gz (gz d (cN y)) ((f.ag.length:Int)+y.n)))):=fun e=>gR oG (by
      obtain⟨i,h1,h2⟩:=rB.1.s e
      exact .inr ⟨f.ag.length+i,oG,by rw[h2];omega⟩)
     have eg:y.op=18->0<=y.n/\y.n<=2000:=fun e=>by
      obtain⟨i,h1,h2⟩:=rB.1.s e;omega
     have oq:=aX;unfold qV at oq;generalize gz d (cN y)=d1 at kw sW kv oq;generalize cN y=w at nC kw;have gR:=kw;refine⟨_,hg,mR QQ ?_⟩;clear hg;refine af ?_;refine cl nC ?_;refine cl gR ?_;refine SS ?_;refine bf bg (aJ (aH (l:=[(1,.pt (ay f)),(4,.sl (CP.flatMap lm) CP.length),(5,bC L),(6,I k),(7,.rp N 0),(8,fu x.ins),(9,I j),(10,.pt (a8 y))]) (ml:=[(N,.cells (bQ d1) 158)]) eH ⟨up_same _ _ _,trivial⟩) (dA (fun s=>Ghost prog s ⟨ax [(1,.pt (ay f)),(4,.sl (CP.flatMap lm) CP.length),(5,bC L),(6,I k),(7,.rp N 0),(8,fu x.ins),(9,I j),(10,.pt (a8 y))],bc [(N,.cells (bQ (dN f.ag.length (x.ins.take (j+1)) ⟨false,C⟩)) 158)],M+1⟩) (aj ?_) ?_))
     .refine ap ?_;refine ab (an rfl (fun dv=>iW ?_) fun dv=>aV ?_)
      .have dv:y.op=18:=by simpa using dv
       rw[if_pos dv] at oq;have gR:=kv dv;have mE:=eg dv;refine dF ?_;refine cl gR ?_;refine SS ?_;refine ab (aH eH ⟨?_,trivial⟩);rw[oq];exact up_same _ _ _
      .have dv:¬ y.op=18:=by simpa using dv
       rw[if_neg dv] at oq;refine aH eH ⟨?_,trivial⟩;rw[oq];exact up_same _ _ _
     intro s hg;refine⟨_,hg,au ?_⟩;clear hg oq kw kv sW gR nC hp eg aX;refine SS ?_;generalize Oi:dN f.ag.length (x.ins.take (j+1)) ⟨false,C⟩=dj
     refine ab (cP (α:=Nat×Nat) (fun q=>⟨ax [(1,.pt (ay f)),(4,.sl (CP.flatMap lm) CP.length),(5,bC L),(6,I k),(7,.rp N 0),(8,fu x.ins),(9,I j),(10,.pt (a8 y)),(11,I q.1)],bc [(N,.cells (bQ dj) 158)],q.2⟩)
      (fun q=>q.1<=y.args.length/\N<q.2/\(q.1=0\/y.op=19)/\(List.range q.1).all (l9 f RR k y)=true) (fun q=>y.args.length - q.1) (0,M+1) (aH eH ⟨up_same _ _ _,trivial⟩) ⟨Nat.zero_le _,oM,.inl rfl,rfl⟩ ?_)
     rintro⟨q,M2⟩ ⟨hq,BO,Zf,zp⟩;dsimp only at hq BO Zf zp ⊢;by_cases dP:y.op=19
     .have fE:(y.op==19)=true:=by simp[dP]
      have Oj:bG y=true:=by simp[bG,dP]
      have o5:=(o5 Oj).1;have BP:vO f RR k y=(List.range y.args.length).all (l9 f RR k y):=by unfold vO;rw[Oj];rfl
      have y9:∀ p∈bh f.blocks f.blocks.length k,∃ pn:Nat,p=pn/\pn<f.blocks.length:=fun p hp=>by
       obtain⟨b,h1,h2,_⟩:=B'.1 hp;exact⟨b,h1,h2⟩
      have J:∀ q,l9 f RR k y q=((bO f.ag.length (f.ag.length+f.aK.length) RR ((bh f.blocks f.blocks.length k).getD q 0).toNat).any||(jV (f.blocks.getD ((bh f.blocks f.blocks.length k).getD q 0).toNat gM).fin k (dN f.ag.length (f.blocks.getD ((bh f.blocks f.blocks.length k).getD q 0).toNat gM).ins (bO f.ag.length (f.ag.length+f.aK.length) RR ((bh f.blocks f.blocks.length k).getD q 0).toNat))).is.getD (y.args.getD q 0).toNat false):=fun q=>rfl;have Zg:=rB.2.p dP;have FJ:=Ca hw f.blocks.length k;generalize bh f.blocks f.blocks.length k=A at o5 y9 J hAg FJ;by_cases wy:q<y.args.length
      .have sm:decide ((q:Int)<(y.args.length:Int))=true:=decide_eq_true oG;refine bH ?_;refine M6 ?_;refine SS ?_;refine ab ⟨_,rfl,fun h=>?_,fun h=>oH⟩;have J:=J q;have Ol:A[q]? =some A[q]:=aL oG;obtain⟨pn,e1,za⟩:=y9 _ (bR (h:=by omega):A[q]∈A);rw[e1] at Ol;clear e1;rw[getD_some Ol,dg] at J;have uE:=F9 pn za;have EW:(bO f.ag.length (f.ag.length+f.aK.length) RR pn).is.length=f.ag.length+f.aK.length:=Cd;generalize bO f.ag.length (f.ag.length+f.aK.length) RR pn=cp at uE J EW;obtain⟨pa,pi⟩:=cp;refine ws ?_;refine bH ?_;refine ab (aB (aj ?_));cases pa with
       |true=>
        refine aR ?_;refine ab (cy rfl (fun h=>nO (tu ?_)) fun h=>oH);refine ap ?_;exact ab (aP (q+1,M2) (aH eH ⟨up_same _ _ _,trivial⟩) ⟨oM,BO,.inr dP,iN zp J⟩ oM)
       |false=>
       refine aR ?_;refine ab (cy rfl (fun h=>oH) fun h=>cu (mR QR ?_));have qj:f.blocks[pn]? =some f.blocks[pn]:=aL za;have mh:f.blocks[pn]∈f.blocks:=bR _;rw[getD_some qj] at J;generalize f.blocks[pn]=xp at qj mh J;have qW:=qW (c:=⟨false,pi⟩) qj EW oG (fun y hy=>(U.ins xp mh y hy).1) (by have:=(U.ok.blk xp mh).len;omega);have jz:=(wI f.ag.length xp.ins ⟨false,pi⟩).trans EW;generalize dN f.ag.length xp.ins ⟨false,pi⟩=pc at qW J jz
       have sw:=sw (c:=pc) (to:=(k:Int)) qj (by have:=hw xp mh;omega) oG (by
        rcases U.wr xp mh with e|⟨r,h1,h2⟩
        .exact .inl e
        .exact .inr ⟨r,oG,h2⟩)
       have uq:=(He xp.fin k pc).trans jz;generalize jV xp.fin k pc=zQ at sw J uq;have Om:y.args[q]? =some y.args[q]:=aL wy;obtain⟨ri,FK,e2⟩:=Zg _ (bR wy);rw[e2] at Om;clear e2;have On:zQ.is[ri]? =some zQ.is[ri]:=aL oG;rw[getD_some Om,dg,getD_some On] at J;generalize zQ.is[ri]=bz at On J;have J:l9 f RR k y q=bz:=J;refine aQ ?_;refine cl qW ?_;refine cl sw ?_;refine af ?_;refine bf bg (aJ (mU (i:=M2) (l:=[(1,.pt (ay f)),(4,.sl (CP.flatMap lm) CP.length),(5,bC L),(6,I k),(7,.rp N 0),(8,fu x.ins),(9,I j),(10,.pt (a8 y)),(11,I q),(13,.pt (bQ zQ))]) (ml:=[(N,.cells (bQ dj) 158)]) (up_same _ _ _) ⟨rfl,rfl,rfl,rfl,zY oG,rfl,rfl,rfl,rfl,jl,trivial⟩ ⟨s9 oG (aw oG (aw oG (up_same _ _ _))) rfl,trivial⟩) (dz QS ?_));refine bH ?_;refine af ?_;refine bf bg (an rfl (fun hp=>aj ?_) fun hp=>cD ?_)
       .have Ga:bz=false:=by simpa using hp
        refine SS ?_;refine ab (aU (cq (cq (aO (cq (aO (aq (d:=I 81) rfl ?_)))))));rw[oi (by rw[cJ,BP,kT wy (by rw[J,Ga])])]
       .have Ga:bz=true:=by simpa using hp
        refine ap ?_;exact ab (aP (q+1,M2+1) (aH eH ⟨up_same _ _ _,trivial⟩) ⟨oM,oM,.inr dP,iN zp (by rw[J,Ga])⟩ oM)
      .have sm:decide ((q:Int)<(y.args.length:Int))=false:=decide_eq_false oG;have:q=y.args.length:=by omega
       subst this;rw[<- BP] at zp;refine bH ?_;refine M6 ?_;refine SS ?_;refine ab ⟨_,rfl,fun h=>oH,fun h=>?_⟩;show AOps _ _ _ _ _ _ _ _ _;refine ap ?_;refine ab (aP (j+1,M2) (aH eH ⟨?_,trivial⟩) ⟨oM,BO,iN ql (by rw[cJ,zp])⟩ oM);dsimp only;rw[Oi];exact up_same _ _ _
     .have fE:(y.op==19)=false:=by simp[dP]
      have BP:vO f RR k y=true:=by unfold vO bG;simp[dP]
      refine aN ?_;(iterate 5 refine z fun _ _=>?_);refine SS ?_;refine ab ⟨_,rfl,fun h=>oH,fun h=>?_⟩;show AOps _ _ _ _ _ _ _ _ _;refine ap ?_;refine ab (aP (j+1,M2) (aH eH ⟨?_,trivial⟩) ⟨oM,BO,iN ql (by rw[cJ,BP])⟩ oM);dsimp only;rw[Oi];exact up_same _ _ _
    .have a9:¬ j<x.ins.length:=by simpa using h
     have:j=x.ins.length:=by omega
     subst this;rw[<- fC rfl];exact⟨M,aH eH ⟨up_same _ _ _,trivial⟩,hM,ql⟩
   .rintro s ⟨M,hg,hM,lI⟩;rw[lI,Bool.true_and] at s4;have s3:=(wI f.ag.length x.ins ⟨false,C⟩).trans c8;refine⟨_,hg,dz QT ?_⟩;generalize dN f.ag.length x.ins ⟨false,C⟩=d at s4 s3;have A':=A' (x:=x.fin) (fun h5 ho=>by have:=(U.ok.YI x bT h5).ar ho;omega) (fun h1=>by have:=(U.ok.ends x bT).fin.a2 (by rcases h1 with e|e<;>simp[aE,e]);omega)
    have oB:=oB (c:=d) (rs:=bU x.fin) (fun r hr=>by
     obtain⟨i,h1,h2⟩:=U.rd x bT r hr
     exact⟨i,oG,h2⟩)
    rw[<- s4] at oB;generalize bU x.fin=rs at A' oB;refine dF ?_;refine cl A' ?_;refine cl oB ?_;refine SS ?_;refine bf bg (an rfl (fun hp=>?_) fun hp=>cD ?_)
    .refine ws ?_;refine SS ?_;refine ab (aU (cq (aO (aq (d:=I 81) rfl ?_))));rw[mj (by simpa using hp)]
    .refine ap ?_;exact ab (aP (k+1,M) (eR eH) ⟨oM,iN bt (by simpa using hp)⟩ oM)
  .have a9:¬ k<f.blocks.length:=by simpa using h
   have:k=f.blocks.length:=by omega
   subst this;exact⟨⟨N,eR (l:=[]) trivial⟩,bt⟩
 .rintro s ⟨⟨N,hg⟩,bt⟩;refine⟨_,hg,aj ?_⟩;refine SS ?_;refine ab (aq (d:=I 0) rfl ?_);rw[bt];rfl
end Go.Proofs.Tryz.K
end
namespace Go.Argus
open Go Go.Abs
section
variable{beh:Nat->List Int}{w:Int}{S:Nat->Prop}(hS:∀ x,S x->∀ c∈beh x,c≠w->S c.toNat)
include hS
theorem Jn:∀ (k:Nat) (s:List Bool×List Int) (b:Nat),S b->(∀ i,s.1.getD i false=true->S i)->∀ i,(cR beh w k s b).1.getD i false=true->S i
 |0,s,b,_,h,i,hi=>h i hi
 |k+1,s,b,hb,h,i,hi=>by
  rw[rN] at hi
  have h1:∀ i,(s.1.set b true).getD i false=true->S i:=fun i hi=>by
   rw[bD,List.getElem?_set] at hi;by_cases e:b=i
   .subst e;exact hb
   .rw[if_neg e, <- List.getD_eq_getElem?_getD] at hi;exact h i hi
  have key:∀ l:List Int,(∀ c∈l,c∈beh b)->∀ t:List Bool×List Int,(∀ i,t.1.getD i false=true->S i)->∀ i,(cb beh w k t l).1.getD i false=true->S i:=fun l=>by
   induction l with
   |nil=>exact fun _ t ht i hi=>ht i hi
   |cons c l ih=>
    intro hl t ht i hi;unfold cb at hi;rw[List.foldl_cons] at hi;refine ih (fun c hc=>hl c (by simp[hc])) _ ?_ i hi;split
    .rename_i hc;exact Jn k t c.toNat (hS b hb c (hl c oS) hc.2) ht
    .exact ht
  exact key (beh b) (fun _ h=>h) _ h1 i hi
theorem QY{n:Nat}(h0:S 0):∀ i,(dH beh n w).getD i false=true->S i:=fun i hi=>by
 have C:∀ i,(List.replicate n false).getD i false=false:=fun i=>by
  rw[bD,List.getElem?_replicate];split<;>rfl
 unfold dH at hi;split at hi
 .rw[C] at hi;cases hi
 .exact Jn hS n _ 0 h0 (fun i hi=>by rw[C] at hi;cases hi) i hi
end
theorem PK{beh:Nat->List Int}{n:Nat}{w:Int}(hb:∀ b,∀ c∈beh b,0<=c/\c.toNat<n)(hn:0<n)(C:w≠0):(dH beh n w).getD 0 false=true/\∀ x,(dH beh n w).getD x false=true->∀ c∈beh x,c≠w->(dH beh n w).getD c.toNat false=true:=by
 obtain⟨_,h2,h3⟩:=E1 hb hn w;unfold dH;rw[if_neg C];exact⟨h2,h3⟩
theorem RX{beh:Nat->List Int}{n:Nat}{w:Int}(hb:∀ b,∀ c∈beh b,0<=c/\c.toNat<n)(hn:0<n){o:List Bool}(hl:o.length=n)(h0:o.getD 0 false=true)
 (hc:∀ x,o.getD x false=true->∀ c∈beh x,c≠w->o.getD c.toNat false=true) (C:∀ i,o.getD i false=true->(dH beh n w).getD i false=true):o=dH beh n w:=by
 have hr:=wG hb hn w;apply List.ext_getElem?;intro i;by_cases hi:i<n
 .have h1:o[i]? =some o[i]:=aL oG;have h2:(dH beh n w)[i]? =some (dH beh n w)[i]:=aL oG;have e1:o.getD i false=o[i]:=by simp[bD,h1]
  have e2:(dH beh n w).getD i false=(dH beh n w)[i]:=by simp[bD,h2]
  rw[h1,h2];congr 1;rw[Bool.eq_iff_iff, <- e1, <- e2];exact⟨C i,QY (S:=fun i=>o.getD i false=true) hc h0 i⟩
 .rw[List.getElem?_eq_none oG,List.getElem?_eq_none oG]
section
variable{beh ahd:Nat->List Int}{n:Nat}(h:yF beh ahd n)
include h
end
end Go.Argus
section
open Go Go.Abs Go.Proofs Go.Argus
namespace Go.Proofs.Tryz.K
set_option maxRecDepth 10000
set_option maxHeartbeats 1000000 in
theorem Zh{f:aA}(hF:sa f)(hw:∀ b∈f.blocks,b.fin.az.length<=9){w:Int}:OCall prog 75 [.agg (ay f),I w] ((dH (b9 f) f.blocks.length w).map B) f.blocks.length 4:=by
 have hb:=beh_in hF.ok
 change ∀ b,∀ t∈b9 f b,_ at hb
 have FA:=hF.ok.qh;have j5:=hF.ok.pos;have aT:∀ a∈[D.agg (ay f),I w],Tr a:=.cons (.agg (fq f)) (.cons (.s _) .nil);refine uy Zi aT (.map fun _=>.s _) ?_;rw[Zj];refine au ?_;refine af ?_;refine ab (aJ (bj [(0,ay f,26)] eH (l:=[(1,I w),(2,.pt (ay f))]) eH) (au ?_));have du:((f.blocks.length:Nat):Int).toNat=f.blocks.length:=dg _;refine aR ?_;refine ab (aJ (aH (l:=[(1,I w),(2,.pt (ay f)),(5,.rs 1 0 f.blocks.length)]) (ml:=[(1,.cells ((List.replicate f.blocks.length false).map B) 4)]) ⟨rfl,rfl,congrArg (fun k=>D.rs 1 0 k) du,trivial⟩ ⟨?_,trivial⟩) (aB (aj ?_)))
 .exact congrArg (fun c=>some (Row.cells c 4)) ((congrArg (fun k=>replD k [B false]) du).trans (qu _ false))
 by_cases BQ:w=0
 .have fE:(w==0)=true:=by simp[BQ]
  have hr:dH (b9 f) f.blocks.length w=List.replicate f.blocks.length false:=by unfold dH;rw[if_pos BQ]
  rw[hr];refine af ?_;refine ab (np ?_);refine aB (aj ?_);refine af ?_;exact ab (di (aq rfl ⟨1,rfl,rfl⟩))
 have fE:(w==0)=false:=by simp[BQ]
 refine af ?_;refine ab (oc (cu (au ?_)));clear fE;obtain⟨ua,Oo⟩:=PK hb j5 BQ;have lA:=wG hb j5 w;have rh:=fun(o:List Bool)=> @RX (b9 f) f.blocks.length w hb j5 o;generalize dH (b9 f) f.blocks.length w=RR at ua Oo lA rh ⊢;have hlz:((List.replicate f.blocks.length false).map B).length=f.blocks.length:=by simp
 refine ap ?_;refine ab (aJ (aH (l:=[(1,I w),(2,.pt (ay f)),(5,.rs 1 0 f.blocks.length)]) (ml:=[(1,.cells (((List.replicate f.blocks.length false).set 0 true).map B) 4)]) eH ⟨by rw[List.map_set];rfl,trivial⟩) (au ?_));refine SS ?_
 refine ab (bZ (fun s=>Ghost prog s ⟨ax [(5,.rs 1 0 f.blocks.length)],bc [(1,.cells (RR.map B) 4)],2⟩) (z9 (α:=List Bool×Bool) (fun s=>⟨ax [(1,I w),(2,.pt (ay f)),(5,.rs 1 0 f.blocks.length),(6,B s.2)],bc [(1,.cells (s.1.map B) 4)],2⟩)
  (fun s=>s.1.length=f.blocks.length/\s.1.getD 0 false=true/\(∀ i,s.1.getD i false=true->RR.getD i false=true)/\(s.2=false->∀ x,s.1.getD x false=true->∀ c∈b9 f x,c≠w->s.1.getD c.toNat false=true)) (fun s=>2*s.1.count false+if s.2=true then 1 else 0) ((List.replicate f.blocks.length false).set 0 true,true)
  (aH eH eH) ⟨oS,?_,fun i hi=>?_,fun h=>by cases h⟩ ?_) ?_)
 .rw[s8 oP,if_pos rfl]
 .dsimp only at hi;rw[s8 oP] at hi;by_cases e:i=0
  .rw[e];exact ua
  .rw[if_neg e,bD,List.getElem?_replicate] at hi;split at hi<;>cases hi
 .rintro⟨J,t0⟩ ⟨mC,Gb,sF,wA⟩;dsimp only at mC Gb sF wA ⊢;refine SS ?_;refine ab ⟨_,rfl,fun ht=>?_,fun ht=>?_⟩
  .refine ws ?_;refine SS ?_;refine ab (au ?_);refine SS ?_
   refine ab (cP (α:=Nat×List Bool×Bool) (fun s=>⟨ax [(1,I w),(2,.pt (ay f)),(5,.rs 1 0 f.blocks.length),(6,B s.2.2),(7,I s.1)],bc [(1,.cells (s.2.1.map B) 4)],2⟩)
    (fun s=>s.1<=f.blocks.length/\s.2.1.length=f.blocks.length/\s.2.1.getD 0 false=true/\(∀ i,s.2.1.getD i false=true->RR.getD i false=true)/\(s.2.2=false->s.2.1=J/\∀ x,x<s.1->J.getD x false=true->∀ c∈b9 f x,c≠w->J.getD c.toNat false=true)/\(s.2.2=true->s.2.1.count false<J.count false)) (fun s=>f.blocks.length - s.1) (0,J,false)
    (aH eH eH) ⟨Nat.zero_le _,mC,Gb,sF,fun _=>⟨rfl,fun x hx=>by dsimp only at hx;omega⟩,fun h=>by cases h⟩ ?_)
   rintro⟨k,o,t⟩ ⟨hk,hl,h0,C,hf,M⟩;dsimp only at hk hl h0 C hf M ⊢;have qX:(o.map B).length=f.blocks.length:=by simp[hl]
   refine aR ?_;refine ab ⟨_,rfl,fun h=>?_,fun h=>?_⟩
   .have al:k<f.blocks.length:=by simpa using h
    have hx:f.blocks[k]? =some f.blocks[k]:=aL al;have bT:f.blocks[k]∈f.blocks:=bR _;have ig:=ig hx (by have:=hw _ bT;omega);rw[(hF.ed _ bT).2, <- zU hx] at ig;have ij:=hb k;have M7:=Oo k
    have bS:o[k]? =some (o.getD k false):=by
     rw[aL (show k<o.length by omega),getD_some (aL (show k<o.length by omega))]
    have q7:∀ b,o.getD k false=b->o.getD k false=b:=fun _ h=>h
    have gF:(b9 f k).length<=100000:=by
     rw[zU hx];have:=rM f.blocks[k].fin;have:=hw _ bT;omega
    have kd:=fZ (f:=B) bS;refine aB (aj ?_);generalize Zk:b9 f k=l at ig ij M7 gF;cases U:o.getD k false with
    |false=>
     rw[U] at kd;refine aR ?_;refine ab (cy rfl (fun h=>nO (tu ?_)) fun h=>oH);refine ap ?_;refine ab (aP (k+1,o,t) (aH eH eH) ⟨oM,hl,h0,C,fun h=>⟨(hf h).1,fun x hx X=>?_⟩,M⟩ oM);dsimp only at hx;by_cases e:x=k
     .subst e;rw[<- (hf h).1,U] at X;cases X
     .exact(hf h).2 x oG X
    |true=>
    rw[U] at kd;refine aR ?_;refine ab (cy rfl (fun h=>oH) fun h=>cu (aj ?_));refine af ?_;refine cl ig ?_;refine SS ?_;refine ab (au ?_);refine SS ?_
    refine ab (cP (α:=Nat×List Bool×Bool) (fun s=>⟨ax [(1,I w),(2,.pt (ay f)),(5,.rs 1 0 f.blocks.length),(6,B s.2.2),(7,I k),(8,aC l),(9,I s.1)],bc [(1,.cells (s.2.1.map B) 4)],2⟩)
     (fun s=>s.1<=l.length/\s.2.1.length=f.blocks.length/\s.2.1.getD 0 false=true/\s.2.1.getD k false=true/\(∀ i,s.2.1.getD i false=true->RR.getD i false=true)/\(s.2.2=false->s.2.1=J/\(∀ x,x<k->J.getD x false=true->∀ c∈b9 f x,c≠w->J.getD c.toNat false=true)/\∀ c∈l.take s.1,c≠w->J.getD c.toNat false=true)/\(s.2.2=true->s.2.1.count false<J.count false)) (fun s=>l.length - s.1) (0,o,t)
     (aH eH eH) ⟨Nat.zero_le _,hl,h0,U,C,fun h=>⟨(hf h).1,(hf h).2,fun c hc=>by simp at hc⟩,M⟩ ?_)
    clear hl h0 C hf M qX bS q7 kd U;rintro⟨j,o,t⟩ ⟨hj,hl,h0,U,C,hf,M⟩;dsimp only at hj hl h0 U C hf M ⊢;have qX:(o.map B).length=f.blocks.length:=by simp[hl]
    refine aN ?_;refine ab ⟨_,rfl,fun h=>?_,fun h=>?_⟩
    .have cI:j<l.length:=by simpa using h
     have hy:l[j]? =some l[j]:=aL cI;have rA:=ij _ (bR cI);have sX:=M7 (C k U) _ (bR cI);have rv:l.take (j+1)=l.take j++[l[j]]:=by rw[List.take_add_one,hy];rfl
     generalize l[j]=c at hy rA sX rv;obtain⟨i,rfl⟩:=eC rA.1;rw[dg] at rA sX
     have qZ:o[i]? =some (o.getD i false):=by
      rw[aL (show i<o.length by omega),getD_some (aL (show i<o.length by omega))]
     have kd:=fZ (f:=B) qZ;refine ws ?_;by_cases BR:(i:Int)=w
     .have ja:((i:Int) !=w)=false:=by simp[BR]
      refine dF ?_;(iterate 8 refine z fun _ _=>?_);refine SS ?_;refine ab (an rfl (fun h=>oH) fun h=>cD ?_);refine ap ?_;refine ab (aP (j+1,o,t) (aH eH eH) ⟨oM,hl,h0,U,C,fun h=>⟨(hf h).1,(hf h).2.1,fun c hc aI=>?_⟩,M⟩ oM);dsimp only at hc;rw[rv] at hc;rcases List.mem_append.1 hc with hc|hc
      .exact(hf h).2.2 c hc aI
      .rw[List.mem_singleton.1 hc] at aI;exact absurd BR aI
     .have ja:((i:Int) !=w)=true:=by simp[BR]
      cases lF:o.getD i false with
      |true=>
       rw[lF] at kd;refine aQ ?_;refine ap ?_;refine bl rfl rfl (kY rfl rfl rfl V.h V.h) (fun hc=>⟨ak,⟨V.h,oG⟩⟩) ?_;refine bl rfl rfl (gd rfl rfl kd V.h) (fun hc=>⟨ak,(gf V.h V.h kd)⟩) ?_;refine af ?_;refine ab (an rfl (fun h=>oH) fun h=>cD ?_);refine ap ?_;refine ab (aP (j+1,o,t) (aH eH eH) ⟨oM,hl,h0,U,C,fun h=>⟨(hf h).1,(hf h).2.1,fun c hc aI=>?_⟩,M⟩ oM);dsimp only at hc;rw[rv] at hc;rcases List.mem_append.1 hc with hc|hc
       .exact(hf h).2.2 c hc aI
       .rw[List.mem_singleton.1 hc,dg, <- (hf h).1];exact lF
      |false=>
       rw[lF] at kd;have mB:=SX (show i<o.length by omega) lF;have pZ:∀ q,(o.set i true).getD q false=if q=i then true else o.getD q false:=fun q=>s8 oG
       refine aQ ?_;refine ap ?_;refine bl rfl rfl (kY rfl rfl rfl V.h V.h) (fun hc=>⟨ak,⟨V.h,oG⟩⟩) ?_;refine bl rfl rfl (gd rfl rfl kd V.h) (fun hc=>⟨ak,(gf V.h V.h kd)⟩) ?_;refine af ?_;refine ab (an rfl (fun h=>aj ?_) fun h=>oH);refine dF ?_;refine ab (fJ ?_);refine SS ?_;refine ab ?_;refine ap ?_;refine ab (aP (j+1,o.set i true,true) (aH eH ⟨by rw[List.map_set];rfl,trivial⟩) ⟨oM,by dsimp only;rw[List.length_set];exact hl,?_,?_,fun q hq=>?_,fun h=>oH,fun _=>?_⟩ oM)
       .dsimp only;rw[pZ];split
        .rfl
        .exact h0
       .dsimp only;rw[pZ];split
        .rfl
        .exact U
       .dsimp only at hq;rw[pZ] at hq;split at hq
        .rename_i e;rw[e];exact sX BR
        .exact C q hq
       .dsimp only;cases t with
        |false=>rw[(hf rfl).1] at mB ⊢;exact mB
        |true=>exact Nat.lt_trans mB (M rfl)
    .have a9:¬ j<l.length:=by simpa using h
     rw[cL oG] at hf;show AOps _ _ _ _ _ _ _ _ _;refine ap ?_;refine ab (aP (k+1,o,t) (aH eH eH) ⟨oM,hl,h0,C,fun h=>⟨(hf h).1,fun x hx X=>?_⟩,M⟩ oM);dsimp only at hx;by_cases e:x=k
     .rw[e,Zk];exact(hf h).2.2
     .exact(hf h).2.1 x oG X
   .have a9:¬ k<f.blocks.length:=by simpa using h
    refine aP (o,t) (aH eH eH) ⟨hl,h0,C,fun h x X=>?_⟩ ?_
    .dsimp only at h X ⊢;have hh:=hf h;rw[hh.1] at X ⊢;by_cases hxk:x<k
     .exact hh.2 x hxk X
     .exfalso;rw[bD,List.getElem?_eq_none oG] at X;cases X
    .dsimp only;rw[if_pos ht];cases t with
     |false=>rw[(hf rfl).1];simp
     |true=>have:=M rfl;simp;omega
  .have ho:=rh J mC Gb (wA ht) sF;rw[<- ho];exact aH eH eH
 .intro s hg;refine⟨_,hg,aj ?_⟩;refine af ?_;exact ab (aq rfl ⟨1,rfl,rfl⟩)
theorem Gc{f:aA}(C:sa f)(J:∀ b∈f.blocks,b.fin.az.length<=9){w:Int}:PCall prog 75 [.agg (ay f),I w] (c6 (dH (b9 f) f.blocks.length w)):=by
 have hb:=beh_in C.ok
 change ∀ b,∀ t∈b9 f b,_ at hb
 have hl:=wG (w:=w) hb C.ok.pos
 have h:=(Zh C J (w:=w)).Uj (fun d hd=>by obtain⟨x,_,rfl⟩:=List.mem_map.1 hd;rfl) (.sl fun d hd=>by
  obtain⟨x,_,rfl⟩:=List.mem_map.1 (List.mem_of_mem_take hd)
  exact .s _)
 rw[c4,cL (by simp[hl])] at h;unfold c6;rw[hl];exact h
theorem Gd{a b:List Int}:PCall prog 64 [aC a,aC b] (B (decide (a=b))):=by
 have J:∀ x∈[aC a,aC b],Tr x:=.cons (cW _) (.cons (cW _) .nil);refine lK EX.he J fun M=>?_;have hlen:=(M (aC a) oS).sl.1;unfold maxLen at hlen;refine a7 EX J (Tr.s _) ?_;rw[Zl];refine ws ?_;refine SS ?_;refine ab (aB (aj ?_));refine aR ?_;refine ab (cy rfl (fun h=>?_) fun h=>cu (aB (au ?_)))
 .refine aB (aj ?_);refine SS ?_;refine ab (di (aq (d:=B false) rfl ?_));have C:a≠b:=fun e=>by subst e;simp at h
  rw[decide_eq_false C]
 have gF:a.length=b.length:=by
  have:¬ ((a.length:Int)≠(b.length:Int)):=by simpa using h
  omega
 clear h;refine SS ?_
 refine ab (bZ (fun s=>Ghost prog s ⟨ax [],fun _=>none,0⟩/\a=b) (cP (α:=Nat) (fun k=>⟨ax [(0,aC a),(1,aC b),(5,I k)],fun _=>none,0⟩)
  (fun k=>k<=a.length/\∀ j,j<k->a[j]? =b[j]?) (fun k=>a.length - k) 0 (ao eH) ⟨oG,fun j hj=>by omega⟩ ?_) ?_)
 .rintro k ⟨hk,hinv⟩;refine aN ?_;refine ab ⟨_,rfl,fun h=>?_,fun h=>?_⟩
  .have al:k<a.length:=by simpa using h
   have hx:a[k]? =some a[k]:=aL al;have hy:b[k]? =some b[k]:=aL oG;generalize a[k]=x at hx;generalize b[k]=y at hy;refine dz RY ?_;refine aQ ?_;refine bf bg (an rfl (fun hp=>?_) fun hp=>?_)
   .refine ws ?_;refine SS ?_;refine ab (aU (cq (aO (aq (d:=B false) rfl ?_))))
    have C:a≠b:=fun e=>by
     subst e;rw[hx] at hy;cases hy;simp at hp
    rw[decide_eq_false C]
   .refine cD ?_;refine ap ?_;refine ab (aP (k+1) (ao eH) ⟨oG,fun j hj=>?_⟩ oG);by_cases e:j=k
    .subst e;rw[hx,hy];congr 1;simpa using hp
    .exact hinv j oG
  .have X:¬ k<a.length:=by simpa using h
   refine⟨eR (l:=[]) trivial,List.ext_getElem? fun j=>?_⟩;by_cases hj:j<k
   .exact hinv j hj
   .rw[List.getElem?_eq_none oG,List.getElem?_eq_none oG]
 .rintro s ⟨hg,U⟩;refine⟨_,hg,aj ?_⟩;refine SS ?_;refine ab (aq (d:=B true) rfl ?_);rw[decide_eq_true U]
theorem ux{a b:List Int}:PCall prog 22 [aC a,aC b] (B (decide (a=b))):=by
 have Gd:=Gd (a:=a) (b:=b);refine a7 M8 (.cons (cW _) (.cons (cW _) .nil)) (Tr.s _) ?_;rw[Zm];refine ws ?_;refine SS ?_;refine er ?_;refine af ?_;refine cl Gd ?_;refine SS ?_;exact ab (aq rfl rfl)
end Go.Proofs.Tryz.K
namespace Go.Argus
theorem Gm{f:aA}(h:dV f=0):iu f=true:=by
 unfold dV at h;split at h
 .assumption
 .cases h
theorem Qh{f:aA}(h:nz f=true):∀ b∈f.blocks,b.fin.az.length<=9:=fun b hb=>by
 unfold nz at h;rw[aM,aM] at h;have:=br.1 h.2.2 b hb;rw[aM,Bool.not_eq_true'] at this;have:=this.1;unfold n6 at this;simp only[Bool.or_eq_false_iff,decide_eq_false_iff_not] at this;omega
def JM(m:Mem)(J:Nat)(C:D)(l:List Int):Prop:=(C=.z/\l=[])\/∃ q,C=.rs q 0 l.length/\q≠J/\m q=some (.cells (l.map I) 3)
theorem OI{l:List Int}{p:Nat}(h:p<l.length):l.reverse.take (p+1)=l.reverse.take p++[l.getD (l.length - (p+1)) 0]:=by
 rw[List.take_add_one];congr 1;rw[List.getElem?_reverse h,bD,show l.length - 1 - p=l.length - (p+1) by omega,aL oG];rfl
end Go.Argus
namespace Go.Proofs.Tryz.K
set_option maxRecDepth 10000
theorem uw{a b:List Bool}:PCall prog 35 [c6 a,c6 b] (B (decide (a=b))):=by
 have J:∀ x∈[c6 a,c6 b],Tr x:=.cons (.sl (.map fun _=>.s _)) (.cons (.sl (.map fun _=>.s _)) .nil);refine lK M9.he J fun M=>?_;have hlen:=(M (c6 a) oS).sl.1;unfold maxLen at hlen;refine a7 M9 J (Tr.s _) ?_;rw[Zn];refine ws ?_;refine SS ?_;refine ab (aB (aj ?_));refine aR ?_;refine ab (cy rfl (fun h=>?_) fun h=>cu (aB (au ?_)))
 .refine aB (aj ?_);refine SS ?_;refine ab (di (aq (d:=B false) rfl ?_));have C:a≠b:=fun e=>by subst e;simp at h
  rw[decide_eq_false C]
 have gF:a.length=b.length:=by
  have:¬ ((a.length:Int)≠(b.length:Int)):=by simpa using h
  omega
 clear h;refine SS ?_
 refine ab (bZ (fun s=>Ghost prog s ⟨ax [],fun _=>none,0⟩/\a=b) (cP (α:=Nat) (fun k=>⟨ax [(0,c6 a),(1,c6 b),(5,I k)],fun _=>none,0⟩)
  (fun k=>k<=a.length/\∀ j,j<k->a[j]? =b[j]?) (fun k=>a.length - k) 0 (ao eH) ⟨oG,fun j hj=>by omega⟩ ?_) ?_)
 .rintro k ⟨hk,hinv⟩;refine aN ?_;refine ab ⟨_,rfl,fun h=>?_,fun h=>?_⟩
  .have al:k<a.length:=by simpa using h
   have hx:a[k]? =some a[k]:=aL al;have hy:b[k]? =some b[k]:=aL oG;generalize a[k]=x at hx;generalize b[k]=y at hy;refine dz RZ ?_;refine bH ?_;refine Zo ?_;refine bf bg (an rfl (fun hp=>?_) fun hp=>?_)
   .refine ws ?_;refine SS ?_;refine ab (aU (cq (aO (aq (d:=B false) rfl ?_))))
    have C:a≠b:=fun e=>by
     subst e;rw[hx] at hy;cases hy;simp at hp
    rw[decide_eq_false C]
   .refine cD ?_;refine ap ?_;refine ab (aP (k+1) (ao eH) ⟨oG,fun j hj=>?_⟩ oG);by_cases e:j=k
    .subst e;rw[hx,hy];congr 1;simpa using hp
    .exact hinv j oG
  .have X:¬ k<a.length:=by simpa using h
   refine⟨eR (l:=[]) trivial,List.ext_getElem? fun j=>?_⟩;by_cases hj:j<k
   .exact hinv j hj
   .rw[List.getElem?_eq_none oG,List.getElem?_eq_none oG]
 .rintro s ⟨hg,U⟩;refine⟨_,hg,aj ?_⟩;refine SS ?_;refine ab (aq (d:=B true) rfl ?_);rw[decide_eq_true U]
theorem rq{f:aA}(U:sb f)(J:∀ b∈f.blocks,b.fin.az.length<=9):PCall prog 32 [.agg (ay f)] (nj f):=by
 have nK:=nK U J
 have M:Tr (nj f):=by
  unfold nj;split
  .exact .tup (.cons (.sl (.map fun _=>.s _)) (.cons (.s _) .nil))
  .exact .tup (.cons AE (.cons (.s _) .nil))
 refine a7 Zp (.cons (.agg (fq f)) .nil) M ?_;rw[Zq];unfold nj;refine au ?_;refine ap ?_;refine ab (aJ (bj [(0,ay f,26)] eH (l:=[(1,.pt (ay f))]) eH) (aj ?_));by_cases C:dV f=0
 .rw[C] at nK;rw[if_pos C];have Gc:=Gc (AF (Gm C)) J (w:= -1);refine SS ?_;refine cl nK ?_;refine SS ?_;refine ab (aB (aj ?_));refine af ?_;refine ab (oc (cu (aj ?_)));refine SS ?_;refine cl Gc ?_;refine af ?_;exact ab (lT rfl rfl rfl)
 .rw[if_neg C];generalize dV f=ce at C nK ⊢;have ja:(ce !=0)=true:=by simp[C]
  refine SS ?_;refine cl nK ?_;refine SS ?_;refine ab (aB (aj ?_));refine af ?_;refine ab (np ?_);refine aB (aj ?_);refine ap ?_;exact ab (di (lT rfl rfl rfl))
end Go.Proofs.Tryz.K
namespace Go.Abs
theorem fh.nil{m:Mem}{nx j:Nat}{e et:TypeId}{ρ:Nat->Nat}{L:Nat->List D}(hm:m j=some (.cells [] e))(hj:j<nx):fh m nx j 0 e et ρ L:=
 ⟨hm,hj,fun _ h=>absurd h (Nat.not_lt_zero _),fun _ h=>absurd h (Nat.not_lt_zero _),fun _ h=>absurd h (Nat.not_lt_zero _),fun _ _ h=>absurd h (Nat.not_lt_zero _)⟩
theorem fh.put{m:Mem}{nx j n i:Nat}{e et:TypeId}{ρ:Nat->Nat}{L:Nat->List D}{l:List D}(h:fh m nx j n e et ρ L)(hi:i<n)(hl:l.length=(L i).length)(M:L i≠[]):fh (up m (ρ i) (some (.cells l et))) nx j n e et ρ (up L i l):=by
 have X:l≠[]:=fun e=>by
  subst e;exact M (List.eq_nil_of_length_eq_zero hl.symm)
 have J:∀ k,up L i l k≠[]->L k≠[]:=fun k hk=>by
  by_cases e:k=i
  .subst e;exact M
  .rwa[up_ne _ _ e] at hk
 refine⟨?_,h.oX,fun k hk C=>?_,fun k hk C=>h.lt k hk (J k C),fun k hk C=>h.ne k hk (J k C),fun a b ha hb nJ wm=>h.inj a b ha hb (J a nJ) (J b wm)⟩
 .rw[up_ne _ _ (fun e=>h.ne i hi M e.symm),h.row];congr 2;refine List.map_congr_left fun k hk=>?_;by_cases e:k=i
  .subst e;rw[up_same,nq X,nq M,hl]
  .rw[up_ne _ _ e]
 .by_cases e:k=i
  .subst e;rw[up_same,up_same]
  .rw[up_ne _ _ e,up_ne _ _ fun U=>e (h.inj k i hk hi (J k C) M U)];exact h.qT k hk (J k C)
section
variable{P:Program}
theorem Qe{f:FuncId}{args:List D}{m:Mem}{nx:Nat}{dp:D->Mem->Nat->Prop}(he:enterOk P f=true)(h:(∀ i r,m i=some r->i<nx)->ACalls P f args m nx dp):ACalls P f args m nx dp:=
 ⟨he,fun F β w vs hm hn hR=>(h fun i r hi=>by
  obtain⟨p,hp,_⟩:=hm.row i r hi;rcases Nat.lt_or_ge i nx with g|g
  .exact g
  .rw[hn i g] at hp;cases hp).2 F β w vs hm hn hR⟩
end
theorem KW{Y:YSpec}{ops:Array Oper}{cf:List (Nat×Nat)}{Q:Exit->St->Prop}{rest:List Oper}{tr:Tra}{op:Op}{ty:TypeId}{pos:String}{after:Array Edge}{f:FuncId}{args es:List D}{P:Program}{env:Env}{m:Mem}{nx n:Nat}{t:TypeId}{ups:List (Nat×Option Row)}{rds:List Nat}{d:Option Nat}{dr:Bool}
 (hf:FrameOk m rds ups args) (J:∀ d∈es,d.scal=true) (h:∀ C,ACalls P f args (only rds m) C fun r' m' _=>∃ q,C<=q/\r'=.rs q 0 n/\m' q=some (.cells es t)/\∀ i∈rds,m' i=upds m ups i)
 (hc:callD (rho env op) op=some (f,args)) (ha:fL env op.operands.toList)
 (K:AOps P Y ops dr cf Q rest (St.put ⟨env,up (upds m ups) nx (some (.cells es t)),nx+1⟩ d (.rs nx 0 n)) (tr++[(rds,ups.map (·.1)++[nx])])):AOps P Y ops dr cf Q (⟨d,op,ty,pos,after,none⟩::rest) ⟨env,m,nx⟩ tr:=
 wT hc ha (.inr (.inr (.inr (.inr (.inr ⟨es,n,t,ups,rds,hf,J,h,K⟩)))))
end Go.Abs
namespace Go.Proofs.Tryz.K
set_option maxRecDepth 10000
theorem Yo:PCall prog 22 [.z,.z] (B true):=B8 (k:=3) (ux (a:=[]) (b:=[])) (by simp[hU,mJ,aC,wc]) (.cons .z (.cons .z .nil))
theorem Yn{l:List Int}:PCall prog 22 [aC l,aC l] (B true):=by
 have:=ux (a:=l) (b:=l)
 rwa[decide_eq_true rfl] at this
theorem Ak(l:List Bool):ScalRow (.cells (l.map B) 4):=⟨_,_,rfl,fun d h=>by obtain⟨x,_,rfl⟩:=List.mem_map.1 h;rfl⟩
theorem Tw(l:List Int):ScalRow (.cells (l.map I) 3):=⟨_,_,rfl,fun d h=>by obtain⟨x,_,rfl⟩:=List.mem_map.1 h;rfl⟩
theorem Qf{f:aA}{env:Env}{m:Mem}{nx C n:Nat}{M:Value}{na:D}{bs:List Bool}{l:List Int}{Q:St->Prop}(he:jM [(1,.s M),(2,.rs C 0 n),(3,na),(4,.rp nx 0)] env)(al:∀ i r,m i=some r->i<nx)(X:m C=some (.cells (bs.map B) 4))(nJ:JM m C na l)
 (K:∀ U m1 q9,U≠C->U<q9->nx<=q9->m1 C=some (.cells (bs.map B) 4)->m1 U=some (.cells (l.map I) 3)->(∀ q n',na=.rs q 0 n'->q=U)->Q ⟨ax [(1,.s M),(2,.rs C 0 n),(3,.rs U 0 l.length),(4,.pt (ay f))],m1,q9⟩):
 ∃ st',Ghost prog ⟨env,up m nx (some (.cells (ay f) 26)),nx+1⟩ st'/\Q st':=by
 obtain⟨e1,e2,e3,e4,_⟩:=he;have eg:=al _ _ X;have J:C≠nx:=by omega
 have Nz:∀ (l:List Bool),Row.sub (fz0 nx (ay f) (prog.cellsOf 26)) (.cells (l.map B) 4)=.cells (l.map B) 4:=fun l=>by
  show Row.cells ((l.map B).map _) 4=_;rw[List.map_map];rfl
 have hrI:∀ (l:List Int),Row.sub (fz0 nx (ay f) (prog.cellsOf 26)) (.cells (l.map I) 3)=.cells (l.map I) 3:=fun l=>by
  show Row.cells ((l.map I).map _) 3=_;rw[List.map_map];rfl
 rcases nJ with⟨rfl,rfl⟩|⟨q,rfl,hq,j4⟩
 .refine⟨_,(zG (i:=nx) (l:=[(1,.s M),(2,.rs C 0 n),(3,.z),(4,.pt (ay f))]) (up_same _ _ _) ⟨congrArg (sub (fz0 nx (ay f) (prog.cellsOf 26))) e1,(congrArg (sub (fz0 nx (ay f) (prog.cellsOf 26))) e2).trans (s5 J),congrArg (sub (fz0 nx (ay f) (prog.cellsOf 26))) e3,(congrArg (sub (fz0 nx (ay f) (prog.cellsOf 26))) e4).trans jl,trivial⟩).trans ((Ghost.nilrow _ _ _ 3 3 rfl).trans (ao (l:=[(1,.s M),(2,.rs C 0 n),(3,.rs (nx+1) 0 0),(4,.pt (ay f))]) eH)),K (nx+1) _ (nx+2) oG oG oG ?_ (up_same _ _ _) (fun q n' h=>oH)⟩;rw[up_ne _ _ (by have:=al _ _ X;omega),if_neg J,up_ne _ _ J,X,Option.map_some,Nz]
 .have rj:q≠nx:=by have:=al _ _ j4;omega
  refine⟨_,zG (i:=nx) (l:=[(1,.s M),(2,.rs C 0 n),(3,.rs q 0 l.length),(4,.pt (ay f))]) (up_same _ _ _) ⟨congrArg (sub (fz0 nx (ay f) (prog.cellsOf 26))) e1,(congrArg (sub (fz0 nx (ay f) (prog.cellsOf 26))) e2).trans (s5 J),(congrArg (sub (fz0 nx (ay f) (prog.cellsOf 26))) e3).trans (s5 rj),(congrArg (sub (fz0 nx (ay f) (prog.cellsOf 26))) e4).trans jl,trivial⟩,K q _ (nx+1) hq (by have:=al _ _ j4;omega) oG ?_ ?_ (fun q n' h=>(by cases h;rfl))⟩
  .rw[if_neg J,up_ne _ _ J,X,Option.map_some,Nz]
  .rw[if_neg rj,up_ne _ _ rj,j4,Option.map_some,hrI]
set_option maxHeartbeats 1000000 in
theorem vC{f:aA}(hF:sa f)(hw:∀ b∈f.blocks,b.fin.az.length<=9){n:Nat}(hn:f.blocks.length=n):∀ (k:Nat) (m:Mem) (nx J:Nat) (C:List Bool×List Int) (b:Nat) (na:D),
 C.1.length=n->b<n->C.1.count false<=k->C.1.getD b false=false->C.2.length+C.1.count false<=100000->m J=some (.cells (C.1.map B) 4)->JM m J na C.2->
 ACalls prog 150 [.agg (ay f),I b,.rs J 0 n,na] m nx (fun d m' nx'=>∃ q',nx<=q'/\d=.rs q' 0 (cR (b9 f) (-1) k C b).2.length/\m' q'=some (.cells ((cR (b9 f) (-1) k C b).2.map I) 3)/\
  m' J=some (.cells ((cR (b9 f) (-1) k C b).1.map B) 4)/\∀ q n',na=.rs q 0 n'->m' q=none)
 |0,m,nx,J,C,b,na,eg,hb,tO,mI,hlen,hs,nJ=>by
  have:=pg (pj mI oG);omega
 |k+1,m,nx,J,C,b,na,eg,hb,tO,mI,hlen,hs,nJ=>by
  have iC:=beh_in hF.ok
  change ∀ b,∀ t∈b9 f b,_ at iC
  rw[hn] at iC;have cB:=iC b;have mB:=pg (pj mI oG);have IH:=vC hF hw hn k;have jz:=(z' (w:= -1) iC k).2;have hx:f.blocks[b]? =some f.blocks[b]:=aL oG;have bT:f.blocks[b]∈f.blocks:=bR _;have ig:=ig hx (by have:=hw _ bT;omega);rw[(hF.ed _ bT).2, <- zU hx] at ig
  have gF:(b9 f b).length<=100000:=by
   rw[zU hx];have:=rM f.blocks[b].fin;have:=hw _ bT;omega
  refine Qe KX.he fun al=>?_;refine sO KX ?_;rw[UB];rw[rN];clear hx bT;generalize b9 f b=l at ig cB gF;refine au ?_;refine af ?_;refine ab (Qf ⟨rfl,rfl,rfl,rfl,trivial⟩ al hs nJ fun q0 m1 q9 Fy Ml Yg lx yI hold=>aj ?_);have Fz:J<q9:=by have:=al _ _ hs;omega
  clear hs nJ al;have av:=lx;refine ap ?_;refine cE (gl (d:=.s (.bool _)) (cs':=_) rfl rfl av rfl rfl) ak (dx V.h V.h (by first|(simp;done)|exact⟨rfl,bn rfl⟩|(simp;omega)) rfl) ?_;refine er ?_;refine af ?_;refine cl ig ?_;refine SS ?_;refine ab (aB (au ?_));have uu:up m1 J (some (.cells ((C.1.map B).set b (B true)) 4)) J=some (.cells ((C.1.set b true).map B) 4):=by rw[up_same,List.map_set]
  have iI:up m1 J (some (.cells ((C.1.map B).set b (B true)) 4)) q0=some (.cells (C.2.map I) 3):=aw Fy yI;refine SS ?_
  refine ab (bZ (fun s=>∃ m U M,Ghost prog s ⟨ax [(1,I b),(3,.rs M 0 (cb (b9 f) (-1) k (C.1.set b true,C.2) l).2.length)],m,U⟩/\nx<=U/\M<U/\J<U/\q0<U/\M≠J/\m M=some (.cells ((cb (b9 f) (-1) k (C.1.set b true,C.2) l).2.map I) 3)/\m J=some (.cells ((cb (b9 f) (-1) k (C.1.set b true,C.2) l).1.map B) 4)/\(M=q0\/m q0=none)) (cP (α:=Nat×Nat×Mem×Nat)
   (fun j=>⟨ax [(1,I b),(2,.rs J 0 n),(3,.rs j.2.1 0 (cb (b9 f) (-1) k (C.1.set b true,C.2) (l.take j.1)).2.length),(4,.pt (ay f)),(9,aC l),(10,I j.1)],j.2.2.1,j.2.2.2⟩)
   (fun j=>j.1<=l.length/\nx<=j.2.2.2/\j.2.1<j.2.2.2/\J<j.2.2.2/\q0<j.2.2.2/\j.2.1≠J/\j.2.2.1 j.2.1=some (.cells ((cb (b9 f) (-1) k (C.1.set b true,C.2) (l.take j.1)).2.map I) 3)/\j.2.2.1 J=some (.cells ((cb (b9 f) (-1) k (C.1.set b true,C.2) (l.take j.1)).1.map B) 4)/\(j.2.1=q0\/j.2.2.1 q0=none)) (fun j=>l.length - j.1) (0,q0,_,q9)
   (ao eH) ⟨Nat.zero_le _,Yg,Ml,Fz,Ml,Fy,iI,uu,.inl rfl⟩ ?_) ?_)
  .clear uu iI av lx yI;rintro⟨j,M,m,U⟩ ⟨hj,AX,rj,fN,AD,sP,j4,mA,wa⟩;dsimp only at hj AX rj fN AD sP j4 mA wa ⊢;obtain⟨cl,cc⟩:=(wV (beh:=b9 f) (w:= -1) k).2 (l.take j) (C.1.set b true,C.2);have cp:=jz (l.take j) (fun c h=>cB c (List.mem_of_mem_take h)) (C.1.set b true,C.2) (by simpa using eg)
   have bL:∀ t,l[j]? =some t->cb (b9 f) (-1) k (C.1.set b true,C.2) (l.take (j+1))=if pS (cb (b9 f) (-1) k (C.1.set b true,C.2) (l.take j)).1 t=false/\t≠ -1 then cR (b9 f) (-1) k (cb (b9 f) (-1) k (C.1.set b true,C.2) (l.take j)) t.toNat else cb (b9 f) (-1) k (C.1.set b true,C.2) (l.take j):=fun t ht=>by
    rw[List.take_add_one,ht];exact zH (b9 f) (-1) k (C.1.set b true,C.2) (l.take j) t
   have fC:j=l.length->cb (b9 f) (-1) k (C.1.set b true,C.2) (l.take j)=cb (b9 f) (-1) k (C.1.set b true,C.2) l:=fun e=>by rw[e,List.take_length]
   generalize cb (b9 f) (-1) k (C.1.set b true,C.2) (l.take j)=s at cl cc bL fC cp j4 mA;simp only[List.length_set] at cl cc cp;have av:=mA;refine aN ?_;refine ab ⟨_,rfl,fun h=>?_,fun h=>?_⟩
   .have al:j<l.length:=by simpa using h
    have hx:l[j]? =some l[j]:=aL al;have mD:=cB _ (bR al);generalize l[j]=t at hx mD;have X:=bL t hx;obtain⟨tn,rfl⟩:=eC mD.1;have yZ:tn<n:=mD.2;have hv:s.1[tn]? =some s.1[tn]:=aL oG;have lD:s.1.getD tn false=s.1[tn]:=by simp[bD,hv]
    have oW:pS s.1 (tn:Int)=s.1[tn]:=lD;generalize s.1[tn]=v at hv lD oW;have kd:=fZ (f:=B) hv;refine ws ?_;refine bH ?_;refine ab (an rfl (fun hp=>?_) fun hp=>?_)
    .have kP:v=false:=by simpa using hp
     have X:=X.trans (if_pos ⟨oW.trans kP,oG⟩);rw[dg] at X;have NA:=fun U=>IH (only [J,M] m) U J s tn (.rs M 0 s.2.length) (cl.trans eg) yZ oG (lD.trans kP) oG (by rw[<- mA];exact if_pos oS) (.inr ⟨M,rfl,sP,by rw[<- j4];exact if_pos oS⟩);generalize cR (b9 f) (-1) k s tn=u at X NA;refine kX Qg ?_;refine dF ?_;refine KW (args:=[.agg (ay f),I tn,.rs J 0 n,.rs M 0 s.2.length]) (es:=u.2.map I) (n:=u.2.length) (t:=3) (ups:=[(J,some (.cells (u.1.map B) 4)),(M,none)]) (rds:=[J,M]) ?_ ?_ ?_ rfl cY ?_
     .refine⟨fun i hi=>?_,fun x hx=>?_,fun a ha=>?_⟩
      .simp only[List.mem_cons,List.not_mem_nil,or_false] at hi;rcases hi with rfl|rfl
       .exact⟨_,mA,Ak _⟩
       .exact⟨_,j4,Tw _⟩
      .simp only[List.mem_cons,List.not_mem_nil,or_false] at hx;rcases hx with rfl|rfl
       .exact⟨oS,fun r h=>by cases h;exact Ak _⟩
       .exact⟨oS,fun r h=>by cases h⟩
      .simp only[List.mem_cons,List.not_mem_nil,or_false] at ha;rcases ha with rfl|rfl|rfl|rfl
       .exact .inl (.agg (fq f))
       .exact .inl (.s _)
       .exact .inr ⟨J,0,n,oS,rfl⟩
       .exact .inr ⟨M,0,_,oS,rfl⟩
     .intro d hd;obtain⟨x,_,rfl⟩:=List.mem_map.1 hd;rfl
     .refine fun uv=>(NA uv).mono fun d m' nx' ⟨q',h1,h2,h3,h4,h5⟩=>⟨q',h1,h2,h3,fun i hi=>?_⟩
      simp only[List.mem_cons,List.not_mem_nil,or_false] at hi;rcases hi with rfl|rfl
      .rw[h4];show _=up (up m i _) M none i;rw[up_ne _ _ (fun e=>sP e.symm),up_same]
      .rw[h5 i _ rfl];exact(up_same _ _ _).symm
     refine SS ?_;refine bf bg ?_;refine ap ?_;refine ab (aP (j+1,U,_,U+1) (ao ⟨rfl,rfl,by rw[X];rfl,rfl,rfl,rfl,trivial⟩) ⟨oM,oM,oM,oM,oM,oM,?_,?_,?_⟩ oM)
     .dsimp only;rw[X];exact up_same _ _ _
     .dsimp only;rw[X,up_ne _ _ oG];show up (up m J _) M none J=_;rw[up_ne _ _ (fun e=>sP e.symm),up_same]
     .refine .inr ?_;dsimp only;rw[up_ne _ _ oG];show up (up m J _) M none q0=_;by_cases e:q0=M
      .rw[e];exact up_same _ _ _
      .rw[up_ne _ _ e,up_ne _ _ Fy];exact wa.resolve_left fun h=>e h.symm
    .have kP:v=true:=by simpa using hp
     have X:=X.trans (if_neg fun hh=>by rw[oW,kP] at hh;exact absurd hh.1 oS);refine cD ?_;show AOps _ _ _ _ _ _ _ _ _;refine ap ?_;refine ab (aP (j+1,M,m,U) (ao ⟨rfl,rfl,by rw[X];rfl,rfl,rfl,rfl,trivial⟩) ⟨oM,AX,rj,fN,AD,sP,by rw[X];exact j4,by rw[X];exact mA,wa⟩ oM)
   .have a9:¬ j<l.length:=by simpa using h
    rw[<- fC oG];exact⟨m,U,M,ao eH,AX,rj,fN,AD,sP,j4,mA,wa⟩
  .clear uu iI av lx yI;rintro s ⟨m,U,M,hg,AX,rj,fN,AD,sP,j4,mA,wa⟩;have cp:=jz l cB (C.1.set b true,C.2) (by simpa using eg);generalize cb (b9 f) (-1) k (C.1.set b true,C.2) l=u at hg j4 mA cp ⊢;obtain⟨u1,u2⟩:=u;dsimp only at hg j4 mA cp ⊢;refine⟨_,hg,aj ?_⟩;have av:=j4;have qg:(u2.map I).length=u2.length:=by simp
   refine aR ?_;refine ab (aq rfl ⟨U+1,oG,?_,?_,?_,?_⟩)
   .rw[List.length_append];rfl
   .rw[List.map_append];exact up_same _ _ _
   .dsimp only;rw[up_ne _ _ oG,up_ne _ _ (fun e=>sP e.symm),up_ne _ _ oG];exact mA
   .intro q n' h;dsimp only;rw[hold q n' h,up_ne _ _ oG];by_cases e:q0=M
    .rw[e];exact up_same _ _ _
    .rw[up_ne _ _ e,up_ne _ _ oG];exact wa.resolve_left fun h=>e h.symm
theorem Bx{f:aA}(J:sa f)(hw:∀ b∈f.blocks,b.fin.az.length<=9):PCall prog 86 [.agg (ay f)] (aC (ky (b9 f) f.blocks.length)):=by
 have FA:=J.ok.qh;have j5:=J.ok.pos;have iC:=beh_in J.ok
 change ∀ b,∀ t∈b9 f b,_ at iC
 refine a7 Yh (.cons (.agg (fq f)) .nil) (cW _) ?_;rw[Yi];have hR:ky (b9 f) f.blocks.length=(cR (b9 f) (-1) f.blocks.length (List.replicate f.blocks.length false,[]) 0).2.reverse:=rfl;rw[hR];clear hR;have hz:(List.replicate f.blocks.length false).getD 0 false=false:=by rw[bD,List.getElem?_replicate];split<;>rfl
 have lE:=(z' (w:= -1) iC f.blocks.length).1 (List.replicate f.blocks.length false,[]) 0 oS j5 hz;have vC:=fun(m:Mem) nx=>vC J hw rfl f.blocks.length m nx 1 (List.replicate f.blocks.length false,[]) 0 .z oS j5 oS hz oP;generalize cR (b9 f) (-1) f.blocks.length (List.replicate f.blocks.length false,[]) 0=u at lE vC;have gF:u.2.length<=100000:=by simp at lE;omega
 clear lE;refine au ?_;refine af ?_;refine ab (aJ (bj [(0,ay f,26)] eH (l:=[(1,.pt (ay f))]) eH) (mR Rt ?_));refine aR ?_
 have M:up (fun _:Nat=>(none:Option Row)) 1 (some (.cells (replD ((f.blocks.length:Nat):Int).toNat [B false]) 4)) 1=some (.cells ((List.replicate f.blocks.length false).map B) 4):=by
  rw[up_same,dg,qu]
 refine KW (args:=[.agg (ay f),I 0,.rs 1 0 ((f.blocks.length:Nat):Int).toNat,.z]) (es:=u.2.map I) (n:=u.2.length) (t:=3) (ups:=[(1,some (.cells (u.1.map B) 4))]) (rds:=[1]) ?_ ?_ ?_ rfl cY ?_
 .refine⟨fun i hi=>?_,fun x hx=>?_,fun a ha=>?_⟩
  .simp only[List.mem_cons,List.not_mem_nil,or_false] at hi;subst hi;exact⟨_,M,Ak _⟩
  .simp only[List.mem_cons,List.not_mem_nil,or_false] at hx;subst hx;exact⟨oS,fun r h=>by cases h;exact Ak _⟩
  .simp only[List.mem_cons,List.not_mem_nil,or_false] at ha;rcases ha with rfl|rfl|rfl|rfl
   .exact .inl (.agg (fq f))
   .exact .inl (.s _)
   .exact .inr ⟨1,0,_,oS,rfl⟩
   .exact .inl AE
 .intro d hd;obtain⟨x,_,rfl⟩:=List.mem_map.1 hd;rfl
 .refine fun uv=>ACalls.mono ?_ fun d m' nx' (h:∃ C,uv<=C/\d=.rs C 0 u.2.length/\m' C=some (.cells (u.2.map I) 3)/\m' 1=some (.cells (u.1.map B) 4)/\∀ q n',D.z=.rs q 0 n'->m' q=none)=>?_
  .have:=vC (only [1] (up (fun _:Nat=>(none:Option Row)) 1 (some (.cells (replD ((f.blocks.length:Nat):Int).toNat [B false]) 4)))) uv (by rw[<- M];exact if_pos oS) (.inl ⟨rfl,rfl⟩)
   rwa[show f.blocks.length=((f.blocks.length:Nat):Int).toNat by omega] at this
  .obtain⟨C,h1,h2,h3,h4,_⟩:=h;refine⟨C,h1,h2,h3,fun i hi=>?_⟩;simp only[List.mem_cons,List.not_mem_nil,or_false] at hi;subst hi;rw[h4];exact(up_same (up (fun _:Nat=>(none:Option Row)) 1 (some (.cells (replD ((f.blocks.length:Nat):Int).toNat [B false]) 4))) 1 (some (.cells (u.1.map B) 4))).symm
 clear vC M;refine SS ?_;refine bf bg (aJ (bj [(2,u.2.map I,3)] eH (l:=[(3,aC u.2)]) ⟨?_,trivial⟩) (au ?_))
 .show sub (fz0 2 _ (prog.cellsOf 3)) (D.rs 2 0 u.2.length)=_;rw[lM (by rw[c3];simp)]
 obtain⟨_,l⟩:=u;dsimp only at gF ⊢;refine SS ?_;refine ab ⟨_,(Ghost.nilrow _ _ _ 4 3 rfl).trans (aH (l:=[(3,aC l),(4,.rs 3 0 0)]) (ml:=[(3,.cells [] 3)]) eH ⟨up_same _ _ _,trivial⟩),aB (au ?_)⟩;have ow:((l.length:Nat):Int) - 1=(l.length:Int) - 1/\ -9223372036854775808<=(l.length:Int) - 1/\(l.length:Int) - 1<=9223372036854775807:=by omega
 refine aN ?_;clear ow
 refine ab (bZ (fun s=>∃ j m nx,Ghost prog s ⟨ax [(4,.rs j 0 l.length)],m,nx⟩/\m j=some (.cells (l.reverse.map I) 3)) (cP (α:=Nat×Nat×Mem×Nat)
  (fun s=>⟨ax [(3,aC l),(4,.rs s.2.1 0 s.1),(5,I ((l.length:Int) - 1 - s.1))],s.2.2.1,s.2.2.2⟩)
  (fun s=>s.1<=l.length/\s.2.1<s.2.2.2/\s.2.2.1 s.2.1=some (.cells ((l.reverse.take s.1).map I) 3)) (fun s=>l.length - s.1) (0,3,bc [(3,.cells [] 3)],4)
  (ao ⟨rfl,rfl,by show I _=I _;congr 1;omega,trivial⟩) ⟨Nat.zero_le _,oC,rfl⟩ ?_) ?_)
 .rintro⟨p,j,m,nx⟩ ⟨hp,cI,av⟩;dsimp only at hp cI av ⊢;by_cases jz:p<l.length
  .have AT:decide (((l.length:Int) - 1 - p)>=0)=true:=decide_eq_true oG;refine af ?_;refine ab ⟨_,rfl,fun _=>?_,fun h=>oH⟩;have U:=OI jz
   have hy:l[l.length - (p+1)]? =some (l.getD (l.length - (p+1)) 0):=by
    rw[bD,aL oG];rfl
   have X:(l.length:Int) - 1 - p=((l.length - (p+1):Nat):Int):=by omega
   have NB:(l.reverse.take p).length=p:=by simp;omega
   generalize l.reverse.take p=tk at U av NB;generalize l.getD (l.length - (p+1)) 0=y at hy U;rw[X];generalize hq:l.length - (p+1)=q at hy ⊢;refine fJ ?_;refine bH ?_;refine ab ?_;have ow:((q:Nat):Int) - 1=(q:Int) - 1/\ -9223372036854775808<=(q:Int) - 1/\(q:Int) - 1<=9223372036854775807:=by omega
   refine ap ?_;refine ab (aP (p+1,nx+1,_,nx+2) (ao ⟨rfl,rfl,?_,trivial⟩) ⟨oM,oM,?_⟩ oM)
   .show I _=I _;congr 1;omega
   .dsimp only;rw[U,List.map_append];exact up_same _ _ _
  .have AT:decide (((l.length:Int) - 1 - p)>=0)=false:=decide_eq_false oG;refine af ?_;refine ab ⟨_,rfl,fun h=>oH,fun _=>?_⟩;have:p=l.length:=by omega
   subst this;rw[cL oS] at av;exact⟨j,m,nx,ao eH,av⟩
 .rintro s ⟨j,m,nx,hg,av⟩;refine⟨_,hg,au ?_⟩;have lA:l.reverse.length=l.length:=by simp
  generalize l.reverse=rl at av lA ⊢;refine af ?_;refine ab (aJ (bj [(j,rl.map I,3)] ⟨av,trivial⟩ (l:=[(2,aC rl)]) ⟨?_,trivial⟩) (aq rfl rfl));show sub (fz0 j _ (prog.cellsOf 3)) (D.rs j 0 l.length)=_;rw[lM (by rw[c3];simp[lA])];unfold aC;rw[lA]
theorem rk{f:aA}(M:sb f)(J:∀ b∈f.blocks,b.fin.az.length<=9):PCall prog 34 [.agg (ay f)] (pH f):=by
 have nK:=nK M J;refine a7 Yj (.cons (.agg (fq f)) .nil) (Ch f) ?_;rw[Yk];unfold pH;refine au ?_;refine ap ?_;refine ab (aJ (bj [(0,ay f,26)] eH (l:=[(1,.pt (ay f))]) eH) (aj ?_));by_cases C:dV f=0
 .rw[C] at nK;rw[if_pos C];have Bx:=Bx (AF (Gm C)) J;generalize ky (b9 f) f.blocks.length=o at Bx ⊢;refine SS ?_;refine cl nK ?_;refine SS ?_;refine ab (aB (aj ?_));refine af ?_;refine ab (oc (cu (aj ?_)));refine SS ?_;refine cl Bx ?_;refine af ?_;exact ab (lT rfl rfl rfl)
 .rw[if_neg C];generalize dV f=ce at C nK ⊢;have ja:(ce !=0)=true:=by simp[C]
  refine SS ?_;refine cl nK ?_;refine SS ?_;refine ab (aB (aj ?_));refine af ?_;refine ab (np ?_);refine aB (aj ?_);refine ap ?_;exact ab (di (lT rfl rfl rfl))
theorem Yl:PCall prog 35 [.z,.z] (B true):=B8 (k:=3) (uw (a:=[]) (b:=[])) (by simp[hU,mJ,c6,wc]) (.cons .z (.cons .z .nil))
theorem Ym{l:List Bool}:PCall prog 35 [c6 l,c6 l] (B true):=by
 have:=uw (a:=l) (b:=l)
 rwa[decide_eq_true rfl] at this
theorem k7{f:aA}(M:sb f)(y0:PCall prog 17 [] (B true)):PCall prog 7 [.agg (ay f)] (B true):=by
 have y3:=y3 (f:=f);have X:∀ x∈[D.agg (ay f)],Tr x:=.cons (.agg (fq f)) .nil;refine a7 ok7 X (Tr.s _) ?_;have C:nz f=true->_:=Qh;generalize nz f=fb at y3 C;rw[sk7];refine au ?_;refine af ?_;refine ab (aJ (bj [(0,ay f,26)] eH (l:=[(1,.pt (ay f))]) eH) (aB (aj ?_)));refine SS ?_;refine cl y3 ?_;refine SS ?_;refine ab (cy rfl (fun h=>?_) fun h=>cu (aj ?_))
 .refine aB (aj ?_);refine cl y0 ?_;refine SS ?_;exact ab (di (aq rfl rfl))
 have U:=C (by revert h;cases fb<;>simp);clear h y3 C;have rm:=rm (f:=f);have rq:=rq M U;have ru:=ru (f:=f);have rk:=rk M U;unfold nj at rm rq;unfold pH at ru rk;by_cases J:dV f=0
 .rw[if_pos J] at rm rq ru rk;have uw:=Ym (l:=dH (b9 f) f.blocks.length (-1));have ux:=Yn (l:=ky (b9 f) f.blocks.length);generalize dH (b9 f) f.blocks.length (-1)=l1 at rm rq uw;generalize ky (b9 f) f.blocks.length=l2 at ru rk ux;refine SS ?_;refine cl rm ?_;refine aR ?_;refine er ?_;refine SS ?_;refine cl rq ?_;refine aR ?_;refine er ?_;refine SS ?_;refine cl ru ?_;refine aR ?_;refine er ?_;refine SS ?_;refine cl rk ?_;refine aR ?_;refine er ?_;refine cl y0 ?_;refine ap ?_;refine gc uw ?_;refine aQ ?_;refine gc ux ?_;refine dF ?_;exact ab (aq rfl (congrArg B oS))
 .rw[if_neg J] at rm rq ru rk;have uw:=Yl;have ux:=Yo;generalize dV f=e at rm rq ru rk;refine SS ?_;refine cl rm ?_;refine aR ?_;refine er ?_;refine SS ?_;refine cl rq ?_;refine aR ?_;refine er ?_;refine SS ?_;refine cl ru ?_;refine aR ?_;refine er ?_;refine SS ?_;refine cl rk ?_;refine aR ?_;refine er ?_;refine cl y0 ?_;refine ap ?_;refine gc uw ?_;refine aQ ?_;refine gc ux ?_;refine dF ?_;exact ab (aq rfl (congrArg B oS))
end Go.Proofs.Tryz.K
namespace Go.Proofs.Tryz.K
theorem Qi{f:aA}(C:sb f):PCall prog 7 [.agg (ay f)] (B true):=k7 C y0
end Go.Proofs.Tryz.K
end
