/- Part 4. -/
import Derived.Test.YtonoegleildfnaaGreatProofs3
set_option linter.all false
set_option maxHeartbeats 2000000
set_option maxRecDepth 10000
open List(range)
open List(replicate)
section
open Go Go.Abs Go.Proofs Go.Argus
namespace Go.Argus
def y3(l:List bC):List (List D):=(range l.length).map fun i=>[I ((l.length - 1 - i:Nat):Int),.agg (bu (l.getD (l.length - 1 - i) eB))]
@[simp] theorem aa8 (l : List bC) : (y3 l).length = l.length := by simp [y3]
theorem aa9{l:List bC}{i:Nat}{x:bC}(hi:i<l.length)(hx:l[l.length - 1 - i]? =some x):(y3 l)[i]? =some [I ((l.length - 1 - i:Nat):Int),.agg (bu x)]:=by
 unfold y3;rw[List.getElem?_map,List.getElem?_range hi];simp[bl,hx]
def aA(beh:List (List Int))(b:Nat):List Int:=beh.getD b []
theorem tk{beh:List (List Int)}{b:Nat}(h:b<beh.length):beh[b]? =some (aA beh b):=by
 unfold aA;rw[bl,aN h];rfl
theorem Ql(beh:Nat->List Int)(w:Int)(k:Nat)(s:List Bool×List Int)(c:Int)(l:List Int):
 dZ beh w k s (c::l)=dZ beh w k (if y4 s.1 c=false/\c≠w then eO beh w k s c.toNat else s) l:=rfl
theorem Hp{beh:Nat->List Int}{w:Int}:∀ (k:Nat),(∀ s b,(eO beh w k s b).1.length=s.1.length/\(eO beh w k s b).1.count false<=s.1.count false)/\
 (∀ l s,(dZ beh w k s l).1.length=s.1.length/\(dZ beh w k s l).1.count false<=s.1.count false):=by
 have key:∀ k,(∀ s b,(eO beh w k s b).1.length=s.1.length/\(eO beh w k s b).1.count false<=s.1.count false)->
  (∀ l s,(dZ beh w k s l).1.length=s.1.length/\(dZ beh w k s l).1.count false<=s.1.count false):=fun k h l=>by
  induction l with
  |nil=>exact fun s=>⟨rfl,bF _⟩
  |cons c l ih=>
   intro s;rw[Ql];split
   .obtain⟨a1,a2⟩:=ih (eO beh w k s c.toNat);obtain⟨b1,b2⟩:=h s c.toNat;exact⟨a1.trans b1,Nat.le_trans a2 b2⟩
   .exact ih s
 intro k
 induction k with
 |zero=>exact⟨fun s b=>⟨rfl,bF _⟩,key 0 fun s b=>⟨rfl,bF _⟩⟩
 |succ k ih=>
  have h:∀ s b,(eO beh w (k+1) s b).1.length=s.1.length/\(eO beh w (k+1) s b).1.count false<=s.1.count false:=fun s b=>by
   rw[wl];obtain⟨a1,a2⟩:=ih.2 (beh b) (s.1.set b true,s.2);refine⟨a1.trans oS,Nat.le_trans a2 Jw⟩
  exact⟨h,key (k+1) h⟩
theorem ae'{beh:Nat->List Int}{w:Int}{k:Nat}{s:List Bool×List Int}{b:Nat}:(eO beh w (k+1) s b).2≠[]:=by
 rw[wl];simp
theorem akP{l c:List Int}{n k:Nat}(hl:l.length=n)(hc:c.length=n)(h:∀ p,p<n->c.getD p 0=if p<k\/n<=p+k then l.getD (n - 1 - p) 0 else l.getD p 0)(hk:n<=2*k+1):c=l.reverse:=by
 apply List.ext_getElem (by simp[hl,hc]);intro p h1 h2;rw[List.getElem_reverse];have hp:=h p oG;rw[show c.getD p 0=c[p] by simp[bl,aN h1]] at hp;rw[hp];have e:∀ (i j:Nat) (h:i=j) (hj:j<l.length),l.getD i 0=l[j]:=fun i j h hj=>by subst h;simp[bl,aN hj]
 split
 .exact e _ _ oG _
 .exact e _ _ oG _
theorem R3{beh:Nat->List Int}{w:Int}{n:Nat}(hb:∀ b,∀ c∈beh b,0<=c/\c.toNat<n):∀ (k:Nat),(∀ (s:List Bool×List Int) b,s.1.length=n->b<n->s.1.getD b false=false->(eO beh w k s b).2.length+(eO beh w k s b).1.count false<=s.2.length+s.1.count false)/\
 (∀ l,(∀ c∈l,0<=c/\c.toNat<n)->∀ s:List Bool×List Int,s.1.length=n->(dZ beh w k s l).2.length+(dZ beh w k s l).1.count false<=s.2.length+s.1.count false):=by
 have key:∀ k,(∀ (s:List Bool×List Int) b,s.1.length=n->b<n->s.1.getD b false=false->(eO beh w k s b).2.length+(eO beh w k s b).1.count false<=s.2.length+s.1.count false)->
  (∀ l,(∀ c∈l,0<=c/\c.toNat<n)->∀ s:List Bool×List Int,s.1.length=n->(dZ beh w k s l).2.length+(dZ beh w k s l).1.count false<=s.2.length+s.1.count false):=fun k h l=>by
  induction l with
  |nil=>exact fun _ s _=>bF _
  |cons c l ih=>
   intro hl s hs;have hc:=hl c oS;rw[Ql];split
   .rename_i C;have a:=ih (fun c h=>hl c (by simp[h])) (eO beh w k s c.toNat) (((Hp k).1 s c.toNat).1.trans hs);have b:=h s c.toNat hs hc.2 C.1;omega
   .exact ih (fun c h=>hl c (by simp[h])) s hs
 intro k
 induction k with
 |zero=>exact⟨fun s b _ _ _=>bF _,key 0 fun s b _ _ _=>bF _⟩
 |succ k ih=>
  have h:∀ (s:List Bool×List Int) b,s.1.length=n->b<n->s.1.getD b false=false->(eO beh w (k+1) s b).2.length+(eO beh w (k+1) s b).1.count false<=s.2.length+s.1.count false:=fun s b hs M J=>by
   rw[wl];have a:=ih.2 (beh b) (hb b) (s.1.set b true,s.2) (by simpa using hs);have b:=yr (yv J oG);simp only[List.length_append,List.length_singleton] at a ⊢;omega
  exact⟨h,key (k+1) h⟩
end Go.Argus
namespace Go.Proofs.Tryz.K
section
variable{f:aG}{beh ahd:List (List Int)}{c:D}(hc:Tr c)(gg:c.one=true)
include hc gg
end
theorem akN{l:List bC}(hlen:l.length<=100000):SeqA prog 176 [] [.pt [iH l]] (y3 l):=by
 refine Lj mixed Ve kr fun L J Stop m nx hI X h0=>?_;rw[agP];refine az (aP ?_)
 refine af (cQ (α:=Nat×Mem×Nat) (fun k=>⟨aD [(0,.fn (.yield L) [] []),(1,.pt [iH l]),(3,I ((l.length:Int) - 1 - k.1))],k.2.1,k.2.2⟩)
  (fun k=>k.1<=l.length/\J k.1 k.2.1 k.2.2) (fun k=>l.length - k.1) (0,m,nx) (ap ⟨rfl,rfl,congrArg (fun z:Int=>I z) (show(l.length:Int) - 1=(l.length:Int) - 1 - ((0:Nat):Int) by omega),trivial⟩) ⟨oG,h0⟩ ?_)
 rintro⟨k,m,nx⟩ ⟨hk,C⟩;dsimp only at hk C ⊢;refine ag ?_;refine af ⟨_,rfl,fun h=>?_,fun h=>?_⟩
 .have ao:k<l.length:=by have h:(0:Int)<=(l.length:Int) - 1 - k:=by simpa using h
                         omega
  have hx:l[l.length - 1 - k]? =some l[l.length - 1 - k]:=aN oG;generalize l[l.length - 1 - k]=x at hx;have hy:=aa9 ao hx;have M:(l.length:Int) - 1 - k=((l.length - 1 - k:Nat):Int):=by omega
  rw[M];refine ws (bB ?_);refine MF rfl rfl cv ⟨rfl,k,hy,C,fun d m' nx' hp=>?_⟩;rcases hp with⟨rfl,hp⟩|⟨rfl,hp⟩
  .refine SS ?_;refine af (aw rfl (fun h=>oH) fun h=>bS (aq ?_));exact af (aK (k+1,m',nx') (ap ⟨rfl,rfl,congrArg (fun z:Int=>I z) (show((l.length - 1 - k:Nat):Int) - 1=(l.length:Int) - 1 - ((k+1:Nat):Int) by omega),trivial⟩) ⟨by simp only;omega,hp⟩ (by simp only;omega))
  .refine SS ?_;exact af (aw rfl (fun h=>aY (br (wH (.inr hp)))) fun h=>oH)
 .have a9:¬ k<l.length:=by
   intro ao;simp at h;omega
  have:k=l.length:=by omega
  subst this;exact qP (.inl (by rw[aa8];exact C))
section
variable{f:aG}{beh ahd:List (List Int)}{c:D}(hc:Tr c)(gg:c.one=true)
include hc gg
theorem Ir{n:Nat}{w:Int}(hn:beh.length=n)(uc:∀ b,∀ t∈aA beh b,0<=t/\t.toNat<n)(cZ:∀ b,(aA beh b).length<=100000){i5 i6 r:Nat}(h56:i5≠i6)(F6:i5≠r)(Yn:i6≠r):∀ (k:Nat) (m:Mem) (nx:Nat) (seen:List Bool) (o:List Int) (b:Nat),
 i5<nx->i6<nx->r<nx->m i5=some (.cells [.rs r 0 n] 52)->m i6=some (.cells [.fn (.func 168) [] [.rp i5 0,.pt [.pt (bA f beh ahd c)],.pt [I w],.rp i6 0]] 128)->m r=some (.cells (seen.map B) 4)->
 seen.length=n->b<n->seen.count false<=k->seen.getD b false=false->
 ACalls prog 168 [I b,.rp i5 0,.pt [.pt (bA f beh ahd c)],.pt [I w],.rp i6 0] m nx (fun d m' nx'=>d=.tup []/\nx'=nx/\m'=up m r (some (.cells ((eO (aA beh) w k (seen,o) b).1.map B) 4)))
 |0,m,nx,seen,o,b,h5,h6,hr,Ow,xD,AZ,fQ,hb,Fa,yg=>by
  have _:=hc;have _:=gg;have:=yr (yv yg oG);omega
 |k+1,m,nx,seen,o,b,h5,h6,hr,Ow,xD,AZ,fQ,hb,Fa,yg=>by
  have pB:=tk (beh:=beh) (b:=b) oG;have dU:=uc b;have jj:=cZ b;have sS:=yr (yv yg oG);have IH:=Ir (w:=w) hn uc cZ h56 F6 Yn k;refine zI Vf ?_;rw[agQ];have ax:=Ow;have di:=AZ;rw[wl];generalize aA beh b=l at pB dU jj;refine ws (aP ?_);refine af (az (aJ ?_))
  refine af (dV (α:=Nat) (fun j=>⟨aD [(1,.rp i5 0),(3,.pt [I w]),(4,.rp i6 0),(17,au l),(18,I l.length),(19,I j)],up m r (some (.cells ((dZ (aA beh) w k (seen.set b true,o) (l.take j)).1.map B) 4)),nx⟩)
   (fun j=>j<=l.length) (fun j=>l.length - j) 0 (nC eH ?_) (Nat.zero_le _) ?_)
  .rw[List.take_zero];show up m r _=up m r (some (.cells ((seen.set b true).map B) 4));rw[List.map_set]
  intro j hj;obtain⟨cl,cc⟩:=(Hp (beh:=aA beh) (w:=w) k).2 (l.take j) (seen.set b true,o)
  have cg:∀ t,l[j]? =some t->dZ (aA beh) w k (seen.set b true,o) (l.take (j+1))=if y4 (dZ (aA beh) w k (seen.set b true,o) (l.take j)).1 t=false/\t≠w then eO (aA beh) w k (dZ (aA beh) w k (seen.set b true,o) (l.take j)) t.toNat else dZ (aA beh) w k (seen.set b true,o) (l.take j):=fun t ht=>by
   rw[List.take_add_one,ht];exact GP (aA beh) w k (seen.set b true,o) (l.take j) t
  have fU:j=l.length->dZ (aA beh) w k (seen.set b true,o) (l.take j)=dZ (aA beh) w k (seen.set b true,o) l:=fun e=>by rw[e,List.take_length]
  generalize dZ (aA beh) w k (seen.set b true,o) (l.take j)=s at cl cc cg fU;simp only[List.length_set] at cl cc;have ax:up m r (some (.cells (s.1.map B) 4)) i5=some (.cells [.rs r 0 n] 52):=aC F6 Ow;have di:up m r (some (.cells (s.1.map B) 4)) r=some (.cells (s.1.map B) 4):=up_same _ _ _;have gV:up m r (some (.cells (s.1.map B) 4)) i6=some (.cells [.fn (.func 168) [] [.rp i5 0,.pt [.pt (bA f beh ahd c)],.pt [I w],.rp i6 0]] 128):=aC Yn xD;have j5:∀ v,up (up m r (some (.cells (s.1.map B) 4))) r v=up m r v:=fun v=>p9 _ _ _ _;generalize hM:up m r (some (.cells (s.1.map B) 4))=M at ax di gV j5;refine SS ?_;refine af ⟨_,rfl,fun h=>?_,fun h=>?_⟩
  .have ao:j<l.length:=by simpa using h
   have hx:l[j]? =some l[j]:=aN ao;have xM:=dU _ (cy ao);generalize l[j]=t at hx xM;have J:=cg t hx;obtain⟨C,rfl⟩:=cU xM.1;have De:C<n:=xM.2;have hv:s.1[C]? =some s.1[C]:=aN oG;have pF:s.1.getD C false=s.1[C]:=by simp[bl,hv]
   have Bl:y4 s.1 (C:Int)=s.1[C]:=pF;generalize s.1[C]=v at hv pF Bl;have kd:=iG (f:=B) hv;refine ws (aq ?_);refine er (bK ?_);refine ag ?_;refine af (aw rfl (fun hp=>?_) fun hp=>?_)
   .have X:v=false/\(C:Int)≠w:=by
     revert hp;cases v<;>simp
    have J:=J.trans (if_pos ⟨Bl.trans X.1,X.2⟩);refine fh (ag ?_);refine kO (IH M nx s.1 s.2 C h5 h6 hr ax gV di (cl.trans fQ) De oG (pF.trans X.1)) rfl cv fun d m' nx' hp=>?_;obtain⟨rfl,rfl,rfl⟩:=hp;refine af (ag ?_);refine af (aK (j+1) (nC eH ?_) oG oG);rw[j5,J];rfl
   .have X:¬ (v=false/\(C:Int)≠w):=by
     revert hp;cases v<;>simp
    have J:=J.trans (if_neg fun hh=>X ⟨Bl.symm.trans hh.1,hh.2⟩);refine bS (ag ?_);refine af (aK (j+1) (nC eH ?_) oG oG);rw[J];exact hM.symm
  .have a9:¬ j<l.length:=by simpa using h
   refine qP ⟨rfl,rfl,?_⟩;rw[<- fU oG];exact hM.symm
end
theorem k84{m:Mem}{nx i n:Nat}{l:List Int}(hi:i<nx)(hm:m i=some (.cells (l.map I) 3))(hl:l.length=n)(hn:n<=100000):
 ACalls prog 84 [.rs i 0 n] m nx (fun r m' nx'=>r=.tup []/\nx'=nx/\m'=up m i (some (.cells (l.reverse.map I) 3))):=by
 refine zI W8 ?_;rw[akQ]
 have s9:up m i (some (.cells (l.map I) 3))=m:=by
  funext j;simp only[up];split
  .rename_i e;rw[e,hm]
  .rfl
 have ax:=hm;refine az (aO ?_)
 refine af (cQ (α:=List Int×Nat) (fun s=>⟨aD [(0,.rs i 0 n),(2,I s.2),(3,I ((n:Int) - 1 - s.2))],up m i (some (.cells (s.1.map I) 3)),nx⟩)
  (fun s=>s.1.length=n/\s.2<=n/\∀ p,p<n->s.1.getD p 0=if p<s.2\/n<=p+s.2 then l.getD (n - 1 - p) 0 else l.getD p 0) (fun s=>n - s.2) (l,0) (nC ⟨rfl,rfl,congrArg (fun z:Int=>I z) (show(n:Int) - 1=(n:Int) - 1 - ((0:Nat):Int) by omega),trivial⟩ s9.symm) ⟨hl,Nat.zero_le _,fun p hp=>by rw[if_neg (by simp only;omega)]⟩ ?_)
 rintro⟨d,k⟩ ⟨hd,hk,hinv⟩;dsimp only at hd hk hinv ⊢;have ax:up m i (some (.cells (d.map I) 3)) i=some (.cells (d.map I) 3):=up_same _ _ _;refine aq ?_;refine af ⟨_,rfl,fun h=>?_,fun h=>?_⟩
 .have ao:(k:Int)<(n:Int) - 1 - k:=by simpa using h
  obtain⟨j,hj⟩:∃ j:Nat,(n:Int) - 1 - k=j/\j=n - 1 - k:=⟨n - 1 - k,oG,rfl⟩
  have ha:d[k]? =some d[k]:=aN oG;have hb:d[j]? =some d[j]:=aN oG;have C:d.getD k 0=d[k]:=by simp[bl,ha]
  have J:d.getD j 0=d[j]:=by simp[bl,hb]
  have kd:=iG (f:=I) hb;have j3:=iG (f:=I) ha;generalize M:d[k]=a at ha C j3;generalize X:d[j]=b at hb J kd;clear M X;rw[hj.1];refine pO acE (aJ ?_);refine ag ?_;refine aI (gQ rfl ax j3 V.h) ak (gR V.h V.h j3) (SS ?_);refine cA (fI (d:=.s (.int _ _)) (cs':=_) rfl rfl ax rfl rfl) ak (du V.h V.h (by first|(simp;done)|exact⟨rfl,bE rfl⟩|(simp;omega)) rfl) ?_;refine ag ?_;refine a8 bc (bB ?_);refine af (aK ((d.set k b).set j a,k+1) (nC ⟨rfl,rfl,congrArg (fun z:Int=>I z) (show(j:Int) - 1=(n:Int) - 1 - ((k+1:Nat):Int) by omega),trivial⟩ ?_) ⟨by simp[hd],by simp only;omega,fun p hp=>?_⟩ (by simp only;omega))
  .rw[p9,p9];simp only[List.map_set]
  .simp only
   have e:((d.set k b).set j a).getD p 0=if p=j then a else if p=k then b else d.getD p 0:=by
    simp only[bl,List.getElem?_set];by_cases e1:j=p
    .subst e1;simp[hd,hp]
    .rw[if_neg e1,if_neg (show ¬ p=j from fun e=>e1 e.symm)];by_cases e2:k=p
     .subst e2;simp[hd,hp]
     .rw[if_neg e2,if_neg (show ¬ p=k from fun e=>e2 e.symm)]
   rw[e];have h1:=hinv p hp;by_cases e1:p=j
   .subst e1;rw[if_pos rfl,if_pos oG];have:=hinv k oG;rw[if_neg oG,C] at this;rw[this,show n - 1 - p=k by omega]
   .rw[if_neg e1];by_cases e2:p=k
    .subst e2;rw[if_pos rfl,if_pos oG];have:=hinv j oG;rw[if_neg oG,J] at this;rw[this,show n - 1 - p=j by omega]
    .rw[if_neg e2,h1];by_cases e3:p<k\/n<=p+k
     .rw[if_pos e3,if_pos oG]
     .rw[if_neg e3,if_neg oG]
 .have a9:¬ (k:Int)<(n:Int) - 1 - k:=by simpa using h
  refine qP ⟨rfl,rfl,?_⟩;rw[akP hl hd hinv oG]
section
variable{f:aG}{beh ahd:List (List Int)}{c:D}(hc:Tr c)(gg:c.one=true)
include hc gg
theorem It{n:Nat}{w:Int}(hn:beh.length=n)(pg:f.ab.length=n)(jZ:0<n)(jf:n<=100000)(uc:∀ b,∀ t∈aA beh b,0<=t/\t.toNat<n)(X:∀ b,(aA beh b).length<=100000):
 OCall prog 116 [.pt (bA f beh ahd c),I w] ((cO (aA beh) n w).map B) n 4:=by
 refine zK Vi (.cons (Ab hc) (.cons (.s _) .nil)) (.map fun _=>.s _) ?_;rw[agW];refine az (iB (HA (d:=.pt _) rfl rfl) ak rfl (ag ?_));refine af (aW (bG [(0,[.pt (bA f beh ahd c)],79),(1,[I w],3)] eH (l:=[(2,.pt [.pt (bA f beh ahd c)]),(3,.pt [I w])]) eH) (az ?_));have J:((f.ab.length:Nat):Int).toNat=n:=pg;refine bK ?_;refine W9 ?_;refine af (aW (aQ (l:=[(2,.pt [.pt (bA f beh ahd c)]),(3,.pt [I w]),(5,.rp 3 0)]) (ml:=[(2,.cells ((replicate n false).map B) 4),(3,.cells [.rs 2 0 n] 52)]) eH ⟨?_,?_,trivial⟩) (aB (aj ?_)))
 .exact congrArg (fun c=>some (Row.cells c 4)) ((congrArg (fun k=>replD k [B false]) J).trans (wA n false))
 .exact congrArg (fun k=>some (Row.cells [D.rs 2 0 k] 52)) J
 refine ag ?_;refine af (cx rfl (fun h=>?_) fun h=>bP (aj ?_))
 .have C:w=0:=by simpa using h
  refine aB (az (ag ?_));refine af (aW (.refl _) (bX (av rfl ⟨2,rfl,?_⟩)));rw[cO,if_pos C];rfl
 .have C:¬ w=0:=by simpa using h
  refine SS ?_;refine er (SS ?_);refine cA (fI (d:=.fn _ _ _) (cs':=[_]) rfl rfl rfl rfl rfl) ak (du V.h V.h (by first|(simp;done)|exact⟨rfl,bE rfl⟩|(simp;omega)) rfl) ?_;refine af (az ?_);have Ir:=Ir (f:=f) (beh:=beh) (ahd:=ahd) (w:=w) hc gg hn uc X (i5:=3) (i6:=4) (r:=2) oC oC oC n;have hR:cO (aA beh) n w=(eO (aA beh) w n (replicate n false,[]) 0).1:=by rw[cO,if_neg C]
  have M:=(Hp (beh:=aA beh) (w:=w) n).1 (replicate n false,[]) 0;rw[<- hR] at M;refine SS ?_;refine kO (Ir _ _ (replicate n false) [] 0 oG oG oG rfl rfl rfl oS jZ oS (by rw[bl,List.getElem?_replicate];split<;>rfl)) rfl cv fun d m' nx' hp=>?_;obtain⟨rfl,rfl,rfl⟩:=hp;rw[<- hR];generalize cO (aA beh) n w=R at M hR ⊢;refine af (aW (aQ (l:=[(5,.rp 3 0)]) (ml:=[(2,.cells (R.map B) 4),(3,.cells [.rs 2 0 n] 52)]) eH eH) (az (ag ?_)));exact af (aW (.refl _) (av rfl ⟨2,rfl,rfl⟩))
end
structure Iu(i3 i4 i5 r n:Nat)(fv:D)(m:Mem)(nx q:Nat)(s:List Bool×List Int):Prop where
 h3:i3<nx
 h4:i4<nx
 h5:i5<nx
 hr:r<nx
 m3:m i3=some (.cells [.rs r 0 n] 52)
 m5:m i5=some (.cells [fv] 128)
 mr:m r=some (.cells (s.1.map B) 4)
 m4:m i4=some (.cells [jc q (s.2.map I)] 27)
 mq:s.2≠[]->q<nx/\q≠i3/\q≠i4/\q≠i5/\q≠r/\m q=some (.cells (s.2.map I) 3)
section
variable{f:aG}{beh ahd:List (List Int)}{c:D}(hc:Tr c)(gg:c.one=true)
include hc gg
theorem Fb{n:Nat}(hn:beh.length=n)(uc:∀ b,∀ t∈aA beh b,0<=t/\t.toNat<n)(cZ:∀ b,(aA beh b).length<=100000){i3 i4 i5 r:Nat}(sU:i3≠i4)(h35:i3≠i5)(Yo:i3≠r)(Ox:i4≠i5)(Jg:i4≠r)(F6:i5≠r):
 ∀ (k:Nat) (m:Mem) (nx q:Nat) (C:List Bool×List Int) (b:Nat),
 Iu i3 i4 i5 r n (.fn (.func 149) [] [.rp i3 0,.pt [.pt (bA f beh ahd c)],.rp i5 0,.rp i4 0]) m nx q C->C.1.length=n->b<n->C.1.count false<=k->C.1.getD b false=false->C.2.length+C.1.count false<=100000->
 ACalls prog 149 [I b,.rp i3 0,.pt [.pt (bA f beh ahd c)],.rp i5 0,.rp i4 0] m nx (fun d m' nx'=>d=.tup []/\∃ q',Iu i3 i4 i5 r n (.fn (.func 149) [] [.rp i3 0,.pt [.pt (bA f beh ahd c)],.rp i5 0,.rp i4 0]) m' nx' q' (eO (aA beh) (-1) k C b))
 |0,m,nx,q,C,b,J,fQ,hb,Fa,yg,hlen=>by
  have _:=hc;have _:=gg;have:=yr (yv yg oG);omega
 |k+1,m,nx,q,C,b,J,fQ,hb,Fa,yg,hlen=>by
  have pB:=tk (beh:=beh) (b:=b) oG;have dU:=uc b;have jj:=cZ b;have sS:=yr (yv yg oG);have IH:=Fb hn uc cZ sU h35 Yo Ox Jg F6 k;have iO:=(R3 (w:= -1) uc k).2;refine zI Vj ?_;rw[agX];have ax:=J.m3;have di:=J.mr;have⟨p3,p4,p5,pr,_,_,_,_,pq⟩:=J;rw[wl];generalize aA beh b=l at pB dU jj;refine ws (aP ?_);refine af (aB (az (aJ ?_)))
  refine af (bR (fun s=>∃ m nx q,Ghost prog s ⟨aD [(0,I b),(4,.rp i4 0)],m,nx⟩/\Iu i3 i4 i5 r n (.fn (.func 149) [] [.rp i3 0,.pt [.pt (bA f beh ahd c)],.rp i5 0,.rp i4 0]) m nx q (dZ (aA beh) (-1) k (C.1.set b true,C.2) l)) (dV (α:=Nat×Nat×Mem×Nat)
   (fun j=>⟨aD [(0,I b),(1,.rp i3 0),(3,.rp i5 0),(4,.rp i4 0),(17,au l),(18,I l.length),(19,I j.1)],j.2.2.1,j.2.2.2⟩)
   (fun j=>j.1<=l.length/\Iu i3 i4 i5 r n (.fn (.func 149) [] [.rp i3 0,.pt [.pt (bA f beh ahd c)],.rp i5 0,.rp i4 0]) j.2.2.1 j.2.2.2 j.2.1 (dZ (aA beh) (-1) k (C.1.set b true,C.2) (l.take j.1))) (fun j=>l.length - j.1) (0,q,_,nx)
   (ap eH) ⟨Nat.zero_le _,?_⟩ ?_) ?_)
  .dsimp only;refine⟨p3,p4,p5,pr,aC Yo J.m3,aC F6 J.m5,?_,aC Jg J.m4,fun h=>?_⟩
   .rw[List.take_zero];show up m r _ r=some (.cells ((C.1.set b true).map B) 4);rw[List.map_set];exact up_same _ _ _
   .obtain⟨a1,a2,a3,a4,a5,a6⟩:=pq h;exact⟨a1,a2,a3,a4,a5,aC a5 a6⟩
  .clear J ax di p3 p4 p5 pr pq;rintro⟨j,q,m,nx⟩ ⟨hj,J⟩;dsimp only at hj J ⊢;obtain⟨cl,cc⟩:=(Hp (beh:=aA beh) (w:= -1) k).2 (l.take j) (C.1.set b true,C.2);have cp:=iO (l.take j) (fun c h=>dU c (List.mem_of_mem_take h)) (C.1.set b true,C.2) (by simpa using fQ)
   have cg:∀ t,l[j]? =some t->dZ (aA beh) (-1) k (C.1.set b true,C.2) (l.take (j+1))=if y4 (dZ (aA beh) (-1) k (C.1.set b true,C.2) (l.take j)).1 t=false/\t≠ -1 then eO (aA beh) (-1) k (dZ (aA beh) (-1) k (C.1.set b true,C.2) (l.take j)) t.toNat else dZ (aA beh) (-1) k (C.1.set b true,C.2) (l.take j):=fun t ht=>by
    rw[List.take_add_one,ht];exact GP (aA beh) (-1) k (C.1.set b true,C.2) (l.take j) t
   have fU:j=l.length->dZ (aA beh) (-1) k (C.1.set b true,C.2) (l.take j)=dZ (aA beh) (-1) k (C.1.set b true,C.2) l:=fun e=>by rw[e,List.take_length]
   generalize dZ (aA beh) (-1) k (C.1.set b true,C.2) (l.take j)=s at cl cc cg fU J cp;simp only[List.length_set] at cl cc cp;have ax:=J.m3;have di:=J.mr;have gV:=J.m5;refine SS ?_;refine af ⟨_,rfl,fun h=>?_,fun h=>?_⟩
   .have ao:j<l.length:=by simpa using h
    have hx:l[j]? =some l[j]:=aN ao;have xM:=dU _ (cy ao);generalize l[j]=t at hx xM;have X:=cg t hx;obtain⟨M,rfl⟩:=cU xM.1;have De:M<n:=xM.2;have hv:s.1[M]? =some s.1[M]:=aN oG;have pF:s.1.getD M false=s.1[M]:=by simp[bl,hv]
    have Bl:y4 s.1 (M:Int)=s.1[M]:=pF;generalize s.1[M]=v at hv pF Bl;have kd:=iG (f:=B) hv;refine ws (aq ?_);refine er (aO ?_);refine af (aw rfl (fun hp=>?_) fun hp=>?_)
    .have wa:v=false:=by simpa using hp
     have X:=X.trans (if_pos ⟨Bl.trans wa,oG⟩);refine fh (ag ?_);refine kO (IH m nx q s M J (cl.trans fQ) De oG (pF.trans wa) oG) rfl cv fun d m' nx' hp=>?_;obtain⟨rfl,q',hp⟩:=hp;refine af (ag ?_);refine af (aK (j+1,q',m',nx') (ap eH) ⟨oM,?_⟩ oM);dsimp only;rw[X];exact hp
    .have wa:v=true:=by simpa using hp
     have X:=X.trans (if_neg fun hh=>by rw[Bl,wa] at hh;exact absurd hh.1 oS);refine bS (ag ?_);refine af (aK (j+1,q,m,nx) (ap eH) ⟨oM,?_⟩ oM);dsimp only;rw[X];exact J
   .have a9:¬ j<l.length:=by simpa using h
    rw[<- fU oG];exact⟨m,nx,q,ap eH,J⟩
  .clear J ax di p3 p4 p5 pr pq;rintro s ⟨m,nx,q,hg,J⟩;have cp:=iO l dU (C.1.set b true,C.2) (by simpa using fQ);generalize dZ (aA beh) (-1) k (C.1.set b true,C.2) l=u at J cp ⊢;obtain⟨u1,u2⟩:=u;have⟨p3,p4,p5,pr,m3,m5,mr,m4,pq⟩:=J;dsimp only at mr m4 pq cp ⊢;refine⟨_,hg,gB ?_⟩;by_cases hz:u2=[]
   .subst hz;have ax:m i4=some (.cells [.z] 27):=m4;refine aO ?_;refine af (qP ⟨rfl,nx+1,?_⟩);dsimp only;refine⟨oG,oG,oG,oG,?_,?_,?_,?_,fun _=>⟨oG,oG,oG,oG,oG,?_⟩⟩
    .exact aC sU (aC oG (aC oG m3))
    .exact aC (Ne.symm Ox) (aC oG (aC oG m5))
    .exact aC (Ne.symm Jg) (aC oG (aC oG mr))
    .exact(up_same _ _ _).trans rfl
    .exact aC oG ((up_same _ _ _).trans rfl)
   .have aE:u2.map I≠[]:=by simpa using hz
    obtain⟨q1,q2,q3,q4,q5,q6⟩:=pq hz;have ax:m i4=some (.cells [.rs q 0 u2.length] 27):=by rw[m4,qb aE,List.length_map]
    have di:=q6;have rO:(u2.map I).length=u2.length:=by simp
    refine aP ?_;refine Ws ?_;refine af (qP ⟨rfl,nx+1,?_⟩);dsimp only;refine⟨oG,oG,oG,oG,?_,?_,?_,?_,fun _=>⟨oG,oG,oG,oG,oG,?_⟩⟩
    .exact aC sU (aC oG (aC (Ne.symm q2) (aC oG m3)))
    .exact aC (Ne.symm Ox) (aC oG (aC (Ne.symm q4) (aC oG m5)))
    .exact aC (Ne.symm Jg) (aC oG (aC (Ne.symm q5) (aC oG mr)))
    .refine(up_same _ _ _).trans ?_;rw[List.map_append,qb oS];simp
    .refine aC oG ((up_same _ _ _).trans ?_);rw[List.map_append];rfl
theorem Dr{n:Nat}(hn:beh.length=n)(pg:f.ab.length=n)(jZ:0<n)(jf:n<=100000)(uc:∀ b,∀ t∈aA beh b,0<=t/\t.toNat<n)(cZ:∀ b,(aA beh b).length<=100000):
 OCall prog 85 [.pt (bA f beh ahd c)] ((cS (aA beh) n).map I) (cS (aA beh) n).length 3:=by
 refine zK Xa (.cons (Ab hc) .nil) (.map fun _=>.s _) ?_;rw[akR];refine az (iB (HA (d:=.pt _) rfl rfl) ak rfl (SS ?_));refine af (aW (bG [(0,[.pt (bA f beh ahd c)],79)] eH (l:=[(1,.pt [.pt (bA f beh ahd c)])]) eH) (az ?_));have dn:((f.ab.length:Nat):Int).toNat=n:=pg;refine bK ?_;refine W9 ?_;refine af (aW (aQ (l:=[(1,.pt [.pt (bA f beh ahd c)]),(3,.rp 2 0)]) (ml:=[(1,.cells ((replicate n false).map B) 4),(2,.cells [.rs 1 0 n] 52)]) eH ⟨?_,?_,trivial⟩) (aj ?_))
 .exact congrArg (fun c=>some (Row.cells c 4)) ((congrArg (fun k=>replD k [B false]) dn).trans (wA n false))
 .exact congrArg (fun k=>some (Row.cells [D.rs 1 0 k] 52)) dn
 refine SS ?_;refine er (SS ?_);refine er (SS ?_);refine cA (fI (d:=.fn _ _ _) (cs':=[_]) rfl rfl rfl rfl rfl) ak (du V.h V.h (by first|(simp;done)|exact⟨rfl,bE rfl⟩|(simp;omega)) rfl) ?_;refine af (az ?_);have Fb:=Fb (f:=f) (beh:=beh) (ahd:=ahd) hc gg hn uc cZ (i3:=2) (i4:=3) (i5:=4) (r:=1) oC oC oC oC oC oC n;have hz:(replicate n false).getD 0 false=false:=by rw[bl,List.getElem?_replicate];split<;>rfl
 have wc:=(R3 (w:= -1) uc n).1 (replicate n false,[]) 0 oS jZ hz
 have C:(eO (aA beh) (-1) n (replicate n false,[]) 0).2≠[]:=by
  obtain⟨j,rfl⟩:∃ j,n=j+1:=⟨n - 1,oG⟩
  exact ae'
 have hR:cS (aA beh) n=(eO (aA beh) (-1) n (replicate n false,[]) 0).2.reverse:=rfl;refine SS ?_;refine kO (Fb _ _ 0 (replicate n false,[]) 0 ⟨oC,oC,oC,oC,rfl,rfl,rfl,rfl,fun h=>absurd rfl h⟩ oS jZ oS hz oP) rfl cv fun d m' nx' hp=>?_;obtain⟨rfl,J,X⟩:=hp;have m4:=X.m4;obtain⟨q1,q2,q3,q4,q5,M⟩:=X.mq C;rw[hR];clear X hR Fb;generalize (eO (aA beh) (-1) n (replicate n false,[]) 0)=u at wc C m4 M ⊢;obtain⟨u1,u2⟩:=u;dsimp only at wc C m4 M ⊢;have EY:u2.map I≠[]:=by simpa using C
 have ax:m' 3=some (.cells [.rs J 0 u2.length] 27):=by rw[m4,qb EY,List.length_map]
 have di:=M;have jj:u2.length<=100000:=by simp at wc;omega
 refine af (aW (ap (l:=[(4,.rp 3 0)]) eH) (aj (SS ?_)));refine kO (k84 q1 M rfl jj) rfl cv fun d m2 cI hp=>?_;obtain⟨rfl,rfl,rfl⟩:=hp;refine er ?_;have ax:up m' J (some (.cells (u2.reverse.map I) 3)) 3=some (.cells [.rs J 0 u2.length] 27):=aC (Ne.symm q3) ax;refine ag ?_;refine af (av rfl ⟨J,?_,up_same _ _ _⟩);rw[List.length_reverse];rfl
end
end Go.Proofs.Tryz.K
namespace Go.Abs
section
variable{P:Program}{m:Mem}{nx:Nat}
theorem Y'{f:FuncId}{rds:List Nat}{args args' es:List D}{n:Nat}{t:TypeId}(pf:Sns P rds m args args')(hc:OCall P f args' es n t)(lK:∀ d∈es,d.scal=true):
 ACalls P f args m nx (fun d m' nx'=>d=.rs nx 0 n/\m'=up m nx (some (.cells es t))/\nx'=nx+1):=by
 refine⟨hc.1,fun F β w vs hm hβ hR=>?_⟩;have hn:=hβ nx (bF _)
 obtain⟨h1,h2⟩:=sns_R (P:=P) (F:=F) (β:=β) (w:=w) (fun i hi r hr=>by
  obtain⟨p,hp,ax⟩:=hm.row i r hr
  exact⟨p,hp,ax,fun b hb=>hm.nf i p b hp hb⟩) pf
 refine(hc.2.2 F w vs (fun b hb=>hm.fb b hb) ⟨by rw[hR.1,h1],fun k d v hd hv=>?_⟩).mono ?_
 .have ao:k<args.length:=by rw[h1];exact(bw.1 hd).1
  exact h2 k args[k] d (by simp[ao]) hd v (hR.2 k args[k] v (by simp[ao]) hv)
 rintro e w' ⟨v,p,he,LB,C,ax,hv,hk⟩;have jd:=hm.kept hk
 have hs:Step β w (up β nx (some p)) w':=by
  refine⟨hk.1,fun b hb hf=>⟨hk.2.1 b hb,fun i q hq=>?_⟩,fun i q hq=>.inl ?_,hk.2.2⟩
  .by_cases hi:i=nx
   .subst hi;rw[up_same] at hq;cases hq;intro e;have:=(C b e).1;omega
   .rw[up_ne _ _ hi] at hq;exact hf i q hq
  .rw[up_ne _ _ (fun e=>by rw[e,hn] at hq;cases hq)];exact hq
 have M:∀ i q b,up β nx (some p) i=some q->q.blk=some b->(i=nx/\q=p)\/(i≠nx/\β i=some q):=fun i q b hq _=>by
  by_cases hi:i=nx
  .subst hi;rw[up_same] at hq;cases hq;exact .inl ⟨rfl,rfl⟩
  .rw[up_ne _ _ hi] at hq;exact .inr ⟨hi,hq⟩
 have LC:RowR P F (up β nx (some p)) w' (.cells es t) p:=by
  cases ax with
  |nil _=>exact .nil _
  |cells _ _ b o room sz c h1 h2 h3 h4 h5=>
   refine .cells es t b o room sz c h1 h2 h3 h4 fun k d hd=>?_;obtain⟨u,ry,rz,rA⟩:=h5 k d hd;exact⟨u,ry,scal_R (lK d (bU hd)) rz,rA⟩
 refine⟨v,.rs nx 0 n,up m nx (some (.cells es t)),nx+1,up β nx (some p),he,⟨rfl,rfl,rfl⟩,?_,fun i hi=>by rw[up_ne _ _ oG];exact hβ i oG,?_,hs,Nat.le_succ _,fun i hi hb=>by rw[up_ne _ _ oG];exact hb⟩
 .refine⟨fun i r hi=>?_,fun i j q q' b hq iN e J=>?_,fun i q b hq e=>?_,fun i q b hq e=>?_,jd.fb⟩
  .by_cases X:i=nx
   .subst X;rw[up_same] at hi;cases hi;exact⟨p,up_same _ _ _,LC⟩
   .rw[up_ne _ _ X] at hi;obtain⟨q,hq,Nm⟩:=hm.row i r hi;exact⟨q,by rw[up_ne _ _ X];exact hq,Nm.step hs fun b hb=>hk.2.1 b (hm.lt i q b hq hb)⟩
  .rcases M i q b hq e with⟨rfl,rfl⟩|⟨hi,h1⟩<;>rcases M j q' b iN J with⟨rfl,rfl⟩|⟨hj,h2⟩
   .rfl
   .have:=(C b e).1;have:=hm.lt j q' b h2 J;omega
   .have:=(C b J).1;have:=hm.lt i q b h1 e;omega
   .exact hm.inj i j q q' b h1 h2 e J
  .rcases M i q b hq e with⟨_,rfl⟩|⟨_,h1⟩
   .exact(C b e).2
   .exact jd.lt i q b h1 e
  .rcases M i q b hq e with⟨_,rfl⟩|⟨_,h1⟩
   .intro hF;have:=hm.fb b hF;have:=(C b e).1;omega
   .exact hm.nf i q b h1 e
 .cases hv with
  |rsd _ _ _ _ h _=>rw[up_same] at h;cases h;exact absurd rfl LB
  |rsn _ a h=>rw[up_same] at h;cases h;exact .rsn nx a (up_same _ _ _)
  |rsz _ _ a b o len room sz h=>rw[up_same] at h;cases h;exact .rsz nx 0 a b o len room sz (up_same _ _ _)
  |rs _ _ _ cap b o len room sz h h1 h2 h3 h4=>rw[up_same] at h;cases h;exact .rs nx 0 n cap b o len room sz (up_same _ _ _) h1 h2 h3 h4
end
section
variable{P:Program}{env:Env}{m:Mem}{nx:Nat}
theorem Hb{f:FuncId}{args:List D}{cN:D->Mem->Nat->Prop}{i:Nat}{r:Row}(hm:m i=some r)(he:enterOk P f=true)(h:i<nx->ACalls P f args m nx cN):ACalls P f args m nx cN:=⟨he,fun F β w vs C J hR=>by
 refine(h ?_).2 F β w vs C J hR;rcases Nat.lt_or_ge i nx with g|g
 .exact g
 .obtain⟨p,hp,_⟩:=C.row i r hm
  rw[J i g] at hp;cases hp⟩
theorem H2{Y:YSpec}{ops:Array Oper}{dr:Bool}{cf:List (Nat×Nat)}{Q:Exit->St->Prop}{rest:List Oper}{tr:Tra}{op:Op}{ty:TypeId}{pos:String}{after:Array Edge}{f:FuncId}{args:List D}{r:D}{ups:List (Nat×Option Row)}{rds:List Nat}{d:Option Nat}
 (h:∀ C cI,(∀ i∈rds,m i≠none->C i=m i)->ACalls P f args C cI fun r' m' nx'=>r'=r/\m'=upds C ups/\nx'=cI) (J:∀ i∈ups.map (·.1),i∈rds/\m i≠none) (hc:callD (rho env op) op=some (f,args)) (ha:ja env op.operands.toList)
 (K:AOps P Y ops dr cf Q rest (St.put ⟨env,upds m ups,nx⟩ d r) (tr++[(rds,ups.map (·.1))])):AOps P Y ops dr cf Q (⟨d,op,ty,pos,after,none⟩::rest) ⟨env,m,nx⟩ tr:=DU hc ha (.inr (.inr (.inr (.inr (.inl ⟨r,ups,rds,h,J,K⟩)))))
theorem Qn{i:Nat}{cs:List D}{e:TypeId}{l:List (Nat×D)}(hm:m i=some (.cells cs e))(hl:jN l fun t=>sub (fz0 i cs (P.cellsOf e)) (env t)):
 Ghost P ⟨env,m,nx⟩ ⟨aD l,fun j=>if j=i then none else(m j).map (Row.sub (fz0 i cs (P.cellsOf e))),nx⟩:=
 (Ghost.freeze env m nx i cs e hm).trans (Ghost.forget _ _ _ _ (pN hl))
theorem eP.fz{j n q sz:Nat}{e et:TypeId}{ρ:Nat->Nat}{L:Nat->List D}{cs:List D}(h:eP m nx j n e et ρ L)(hs:∀ i,zg (L i))(hq:j≠q)(C:∀ i,i<n->L i≠[]->ρ i≠q):
 eP (fun p=>if p=q then none else(m p).map (Row.sub (fz0 q cs sz))) nx j n e et ρ L:=by
 refine⟨?_,h.qA,fun i hi hl=>?_,h.lt,h.ne,h.inj⟩
 .rw[if_neg hq,h.row];refine congrArg some (nN.cells (X:=fun p=>p=q) (fun d hd=>?_) q cs sz rfl);obtain⟨i,hi,rfl⟩:=List.mem_map.1 hd;by_cases hl:L i=[]
  .rw[hl];exact .z
  .rw[qb hl];exact .rs (C i (by simpa using hi) hl)
 .rw[if_neg (C i hi hl),h.sM i hi hl];exact congrArg some (nN.WT (X:=fun p=>p=q) (hs i) q cs sz rfl)
end
end Go.Abs
namespace Go.Argus
open Go.Proofs.Tryz.K (nextR)
theorem GQ{f:aG}{x:End}(h:j9 f x=true):dW x=dp x:=by
 unfold j9 at h;rw[aM] at h;obtain⟨h,hb⟩:=h;have hb:=R1 hb;obtain⟨kind,a,b,to,gF,name,ins,args,aL,cX⟩:=x;simp only[gK] at h hb;by_cases h1:kind=1
 .subst h1;simp only[Int.reduceEq,if_false,if_true] at hb;have J:aL=[]:=List.length_eq_zero_iff.1 hb.2.2.2.2.2.2.2;have C:cX= -1:=hb.2.2.2.2.2.1;subst J C;simp[dW,gv,oB,dC,dp,iP,aU]
 by_cases h2:kind=2
 .subst h2;simp only[Int.reduceEq,if_false,if_true] at hb;have J:aL=[]:=List.length_eq_zero_iff.1 hb.2.2.2.2.2.2.2;have C:cX= -1:=hb.2.2.2.2.2.1;subst J C;simp[dW,gv,oB,dC,dp,iP,aU]
 by_cases h3:kind=3
 .subst h3;simp only[Int.reduceEq,if_false,if_true] at hb;have J:aL=[]:=List.length_eq_zero_iff.1 hb.2.2.2.2.2.2.2;have C:cX= -1:=hb.2.2.2.2.2.1;subst J C;simp[dW,gv,oB,dC,dp,iP,aU]
 by_cases h4:kind=4
 .subst h4;simp only[Int.reduceEq,if_false,if_true] at hb;have J:aL=[]:=List.length_eq_zero_iff.1 hb.2.2.2.2.2.2.2;have C:cX= -1:=hb.2.2.2.2.2.1;subst J C;simp[dW,gv,oB,dC,dp,iP,aU]
 by_cases h5:kind=5
 .subst h5;by_cases C:0<=cX<;>simp[dW,gv,oB,dC,dp,iP,aU,C]
 by_cases M:kind=6
 .subst M;by_cases C:0<=cX<;>simp[dW,gv,oB,dC,dp,iP,aU,C]
 by_cases X:kind=7
 .subst X;simp only[Int.reduceEq,if_false,if_true] at hb;have J:aL=[]:=List.length_eq_zero_iff.1 hb.2.2.2.2.2.2.2;have C:cX= -1:=hb.2.2.2.2.2.1;subst J C;simp[dW,gv,oB,dC,dp,iP,aU]
 by_cases h8:kind=8
 .subst h8;by_cases C:0<=cX<;>simp[dW,gv,oB,dC,dp,iP,aU,C]
 by_cases h9:kind=9
 .subst h9;simp only[Int.reduceEq,if_false,if_true] at hb;have J:aL=[]:=List.length_eq_zero_iff.1 hb.2.2.2.2.2.2.2;have C:cX= -1:=hb.2.2.2.2.2.1;subst J C;simp[dW,gv,oB,dC,dp,iP,aU]
 .simp only[h1,h2,h3,h4,h5,M,X,h8,h9,if_false] at h;cases h
theorem Zm{f:aG}(h:jz f=true):∀ x∈f.ab,dW x.fin=dp x.fin:=by
 unfold jz at h;simp only[aM] at h;obtain⟨J,M,_,C,hR⟩:=h;intro x hx;obtain⟨k,hk⟩:=cC hx;have ao:k<f.ab.length:=(bw.1 hk).1;have:=bj.1 C k (by simpa using ao);rw[j8,getD_some hk] at this;simp only[aM,Bool.not_eq_true',decide_eq_false_iff_not] at this;exact GQ this.1
def bI(f:aG):List (List Int):=f.ab.map fun x=>nextR x.fin
theorem yA{f:aG}{k:Nat}{x:b7}(h:f.ab[k]? =some x):aA (bI f) k=nextR x.fin:=by
 unfold aA bI;simp[bl,h]
theorem GK{f:aG}{k:Nat}(h:f.ab.length<=k):aA (bI f) k=[]:=by
 unfold aA bI;rw[bl,List.getElem?_eq_none (by simpa using h)];rfl
def jl(f:aG)(a b c:D):List D:=[S f.name,B f.iter,I f.args,U8 f.result,lh f.al,lh f.aZ,r9 f.ac,gz f.ab,a,b,c]
def jW(f:aG)(n k:Nat):List D:=(range n).map fun i=>if i<k then au (aA (bI f) i) else .z
@[simp] theorem aoq (f : aG) (n k : Nat) : (jW f n k).length = n := by simp [jW]
theorem acF{f:aG}{n k:Nat}{x:D}(hk:k<n):(jW f n k).set k x=(range n).map fun i=>if i=k then x else if i<k then au (aA (bI f) i) else .z:=by
 unfold jW;rw[GJ];exact List.map_congr_left fun i _=>rfl
def wI(f:aG):List D:=bA f (bI f) (cM f.ab) (dw (cO (aA (bI f)) f.ab.length (-1)))
end Go.Argus
namespace Go.Proofs.Tryz.K
theorem beh_in{f:aG}(h:qT f):∀ b,∀ t∈aA (bI f) b,0<=t/\t.toNat<f.ab.length:=fun b t ht=>by
 cases hx:f.ab[b]? with
 |none=>rw[GK (List.getElem?_eq_none_iff.1 hx)] at ht;simp at ht
 |some x=>
  rw[yA hx] at ht;have:=(h.ends x (bU hx)).to t (Gu.1 ht);omega
theorem KU{f:aG}(h:qT f):∀ b,(aA (bI f) b).length<=100000:=fun b=>by
 cases hx:f.ab[b]? with
 |none=>rw[GK (List.getElem?_eq_none_iff.1 hx)];simp
 |some x=>
  rw[yA hx];have:=z7 x.fin;have:=(h.ends x (bU hx)).wh;omega
theorem HF{f:aG}(b9:dH f=0):PCall prog 51 [.agg (aH f)] (.tup [.pt (wI f),I 0]):=by
 have zV:=zV (f:=f);rw[b9] at zV
 have hf:jz f=true:=by
  unfold dH at b9;split at b9
  .assumption
  .cases b9
 have bZ:=tG hf;have mw:=Zm hf;obtain⟨n,hn⟩:∃ n,f.ab.length=n:=⟨_,rfl⟩
 have jf:n<=1200:=hn▸bZ.mC;have qC:∀ b,∀ t∈aA (bI f) b,0<=t/\t.toNat<n:=hn▸beh_in bZ;have cZ:=KU bZ;refine bg M9 (.cons (.agg (iu f)) .nil) (.tup (.cons (.pt (J1 (.sl (.map fun _=>.s _)))) (.cons (.s _) .nil))) ?_;rw[Xb];refine az (aq ?_);refine af (aW (bG [(0,aH f,26)] eH (l:=[(1,.pt (aH f))]) eH) (aB (aj (SS ?_))));refine cl zV (SS ?_);refine af (aB (aj (ag ?_)));refine af (cx rfl (fun h=>oH) fun h=>bP (aj (aP ?_)));refine af (pK acG (dA ?_));refine aI (oJ (v:=.rp _ _) rfl) ak trivial ?_;have dn:((f.ab.length:Nat):Int).toNat=n:=hn;refine a8 bc (aW (aQ (l:=[(1,.pt (aH f)),(6,.rp 3 0)]) (ml:=[(1,.cells (replicate n .z) 27),(2,.cells (replicate n .z) 27),(3,.cells (jl f (.rs 1 0 n) (.rs 2 0 n) .z) 89)]) eH ⟨?_,?_,?_,trivial⟩) (aB (az ?_)))
 .exact congrArg (fun c=>some (Row.cells c 27)) ((congrArg (fun k=>replD k [D.z]) dn).trans (BO n))
 .exact congrArg (fun c=>some (Row.cells c 27)) ((congrArg (fun k=>replD k [D.z]) dn).trans (BO n))
 .exact congrArg (fun k=>some (Row.cells (jl f (.rs 1 0 k) (.rs 2 0 k) .z) 89)) dn
 refine aP ?_
 have qt:jW f n 0=replicate n D.z:=by
  unfold jW;simp only[Nat.not_lt_zero,if_false];rw[List.map_const',List.length_range]
 refine af (bR (fun s=>∃ m nx ρ,Ghost prog s ⟨aD [(6,.rp 3 0)],m,nx⟩/\4<=nx/\m 1=some (.cells (jW f n n) 27)/\m 3=some (.cells (jl f (.rs 1 0 n) (.rs 2 0 n) .z) 89)/\eP m nx 2 n 27 3 ρ (fun i=>(bH f.ab n i).map I)/\(∀ i,i<n->(bH f.ab n i).map I≠[]->ρ i≠1/\ρ i≠3)) (dV (α:=Nat×Mem×Nat)
  (fun k=>⟨aD [(1,.pt (aH f)),(6,.rp 3 0),(28,gz f.ab),(29,I n),(30,I k.1)],k.2.1,k.2.2⟩)
  (fun k=>k.1<=n/\4<=k.2.2/\k.2.1 1=some (.cells (jW f n k.1) 27)/\k.2.1 3=some (.cells (jl f (.rs 1 0 n) (.rs 2 0 n) .z) 89)/\(∃ ρ,eP k.2.1 k.2.2 2 n 27 3 ρ (fun i=>(bH f.ab k.1 i).map I)/\(∀ i,i<n->(bH f.ab k.1 i).map I≠[]->ρ i≠1/\ρ i≠3))/\∀ i,(bH f.ab k.1 i).length<=12*k.1) (fun k=>n - k.1)
  (0,bf [(1,.cells (replicate n .z) 27),(2,.cells (replicate n .z) 27),(3,.cells (jl f (.rs 1 0 n) (.rs 2 0 n) .z) 89)],4)
  (ap ⟨rfl,rfl,rfl,congrArg (fun k:Nat=>I k) hn,rfl,trivial⟩) ⟨Nat.zero_le _,bF _,by rw[qt];rfl,rfl,⟨fun _=>0,Kr (show 2<4 by decide) rfl,fun _ _ h=>absurd rfl h⟩,fun _=>bF _⟩ ?_) ?_)
 .rintro⟨k,m,nx⟩ ⟨hk,fO,m1,m3,⟨ρ,C,J⟩,hlen⟩;dsimp only at hk fO m1 m3 C J hlen ⊢;refine SS ?_;refine af ⟨_,rfl,fun h=>?_,fun h=>?_⟩
  .have ao:k<n:=by simpa using h
   have hx:f.ab[k]? =some f.ab[k]:=aN oG;have cz:f.ab[k]∈f.ab:=cy _;generalize f.ab[k]=x at hx cz
   have cg:bH f.ab (k+1)=(nextR x.fin).foldl (dM k) (bH f.ab k):=by
    rw[bH,List.range_succ,List.foldl_append];show qS f.ab _ k=_;rw[qS,hx];rfl
   have iQ:=yA hx;have dU:=qC k;have Ja:=(bZ.ends x cz).wh;have hle:=DF x.fin;have Yp:=mw x cz;have Da:=z7 x.fin;have zC:nextR x.fin=lj (gD (dW x.fin)):=by rw[Yp];rfl
   have E':=E' (x:=x.fin) oG;rw[iQ] at dU;generalize bH f.ab k=L0 at C hlen J cg;refine ws (bB ?_);refine er (SS ?_);refine aI (ep (vs:=bh _) rfl (up_same _ _ _) V.h V.h rfl) ak (ez V.h V.h (by first|(simp;done)|omega|exact bE rfl)) ?_;refine Ce E' rfl cv (SS ?_);generalize dW x.fin=d at hle zC E';refine af (az (SS ?_));refine kO (yc (i:=nx+1) (l:=d) oG (up_same _ _ _) rfl oG) rfl cv fun r m' nx' hp=>?_;obtain⟨rfl,rfl,rfl⟩:=hp;have fQ:(gD d).length=d.length:=JX d;have cJ:(lj (gD d)).length=(nextR x.fin).length:=by rw[zC]
   refine af (aW (nC (l:=[(1,.pt (aH f)),(6,.rp 3 0),(7,I k),(9,.rs (nx+1) 0 d.length),(28,gz f.ab),(29,I n),(30,I k)]) (m':=up (up m nx (some (.cells (fJ x) 72))) (nx+1) (some (.cells ((gD d).map I) 3))) eH (by rw[p9,p9])) (pK aba ?_));have ax:up (up m nx (some (.cells (fJ x) 72))) (nx+1) (some (.cells ((gD d).map I) 3)) 3=some (.cells (jl f (.rs 1 0 n) (.rs 2 0 n) .z) 89):=aC oG (aC oG m3);have di:up (up m nx (some (.cells (fJ x) 72))) (nx+1) (some (.cells ((gD d).map I) 3)) 1=some (.cells (jW f n k) 27):=aC oG (aC oG m1);have gV:up (up m nx (some (.cells (fJ x) 72))) (nx+1) (some (.cells ((gD d).map I) 3)) (nx+1)=some (.cells ((gD d).map I) 3):=up_same _ _ _;have Bj:=C.lt;have C:=C.ext (m':=up (up m nx (some (.cells (fJ x) 72))) (nx+1) (some (.cells ((gD d).map I) 3))) (nx':=nx+2) (fun q hq=>aC oG (aC oG rfl)) oG;generalize up (up m nx (some (.cells (fJ x) 72))) (nx+1) (some (.cells ((gD d).map I) 3))=M at ax di gV C;clear m1 m3;refine bB ?_;refine H2 (r:=.rs (nx+1) 0 (lj (gD d)).length) (ups:=[(nx+1,some (.cells (wU (gD d) d.length) 3))]) (rds:=[nx+1]) (fun m2 cI mj=>?_) ?_ rfl cv ?_
   .have e:=mj (nx+1) oS (by rw[gV];simp);rw[gV] at e;refine Hb e CC.he fun vu=>(E6 vu e fQ oG).mono ?_;rintro r m' nx' ⟨h1,h2,h3⟩;exact⟨h2,h3,h1⟩
   .intro i hi;simp at hi;subst hi;exact⟨oS,by rw[gV];simp⟩
   have sT:wU (gD d) d.length=(nextR x.fin).map I++replicate (d.length - (nextR x.fin).length) (I 0):=by rw[wU,zC]
   show AOps _ _ _ _ _ _ _ ⟨up _ 46 _,up M (nx+1) (some (.cells (wU (gD d) d.length) 3)),_⟩ _;rw[<- zC,sT]
   have cR:(nextR x.fin).length<=d.length:=by
    rw[zC];have:(lj (gD d)).length<=(gD d).length:=KW _;omega
   clear sT cJ zC gV;generalize nextR x.fin=l at dU Da cg iQ cR;refine aI (mN rfl rfl (aC oG di) V.h V.h) ak ⟨V.h,oG⟩ (cA (fI (d:=.rs _ _ _) (cs':=_) rfl rfl (aC oG di) rfl rfl) ak (du V.h V.h (by first|(simp;done)|exact⟨rfl,bE rfl⟩|(simp;omega)) rfl) ?_);refine a8 (by simp[apartT];omega) ?_;have e1:(jW f n k).set k (.rs (nx+1) 0 l.length)=(range n).map fun i=>if i=k then .rs (nx+1) 0 l.length else if i<k then au (aA (bI f) i) else .z:=acF ao
   rw[e1];refine aW (Qn (i:=nx+1) (e:=3) (cs:=l.map I++replicate (d.length - l.length) (I 0)) (l:=[(1,.pt (aH f)),(6,.rp 3 0),(7,I k),(28,gz f.ab),(29,I n),(30,I k)]) (aC oG (up_same _ _ _)) ⟨rfl,Hc oG,rfl,rfl,rfl,rfl,trivial⟩) (az ?_)
   have N1:(fun j=>if j=nx+1 then none else(up (up M (nx+1) (some (.cells (l.map I++replicate (d.length - l.length) (I 0)) 3))) 1 (some (.cells ((range n).map fun i=>if i=k then .rs (nx+1) 0 l.length else if i<k then au (aA (bI f) i) else .z) 27)) j).map (Row.sub (fz0 (nx+1) (l.map I++replicate (d.length - l.length) (I 0)) (prog.cellsOf 3)))) 1=some (.cells (jW f n (k+1)) 27):=by
    dsimp only;rw[if_neg oG,up_same];show some (Row.cells (List.map _ (List.map _ _)) 27)=_;rw[List.map_map,jW];refine congrArg (fun c=>some (Row.cells c 27)) (List.map_congr_left fun i _=>?_);simp only[Function.comp_apply];by_cases Oy:i=k
    .subst Oy;rw[if_pos rfl,if_pos oG,iQ,c3,Cn];simp[au]
    .rw[if_neg Oy];by_cases h2:i<k
     .rw[if_pos h2,if_pos oG];rfl
     .rw[if_neg h2,if_neg oG];rfl
   have N3:(fun j=>if j=nx+1 then none else(up (up M (nx+1) (some (.cells (l.map I++replicate (d.length - l.length) (I 0)) 3))) 1 (some (.cells ((range n).map fun i=>if i=k then .rs (nx+1) 0 l.length else if i<k then au (aA (bI f) i) else .z) 27)) j).map (Row.sub (fz0 (nx+1) (l.map I++replicate (d.length - l.length) (I 0)) (prog.cellsOf 3)))) 3=some (.cells (jl f (.rs 1 0 n) (.rs 2 0 n) .z) 89):=by
    dsimp only;rw[if_neg oG,up_ne _ _ oG,up_ne _ _ oG,ax];refine congrArg some (nN.cells (X:=fun p=>p=nx+1) (fun d hd=>?_) _ _ _ rfl);simp only[jl,List.mem_cons,List.not_mem_nil,or_false] at hd;rcases hd with rfl|rfl|rfl|rfl|rfl|rfl|rfl|rfl|rfl|rfl|rfl
    .exact .s _
    .exact .s _
    .exact .s _
    .exact .s _
    .exact .sl _ _
    .exact .sl _ _
    .exact .sl _ _
    .exact .sl _ _
    .exact .rs oG
    .exact .rs oG
    .exact .z
   have NJ:eP (fun j=>if j=nx+1 then none else(up (up M (nx+1) (some (.cells (l.map I++replicate (d.length - l.length) (I 0)) 3))) 1 (some (.cells ((range n).map fun i=>if i=k then .rs (nx+1) 0 l.length else if i<k then au (aA (bI f) i) else .z) 27)) j).map (Row.sub (fz0 (nx+1) (l.map I++replicate (d.length - l.length) (I 0)) (prog.cellsOf 3)))) (nx+2) 2 n 27 3 ρ (fun i=>(L0 i).map I):=by
    refine eP.fz ⟨?_,C.qA,fun i hi hl=>?_,C.lt,C.ne,C.inj⟩ (fun _=>.map) oG fun i hi hl=>by have:=Bj i hi hl;omega
    .exact aC oG (aC oG C.row)
    .have:=Bj i hi hl;exact aC (J i hi hl).1 (aC oG (C.sM i hi hl))
   clear ax di C e1;generalize (fun j=>if j=nx+1 then none else(up (up M (nx+1) (some (.cells (l.map I++replicate (d.length - l.length) (I 0)) 3))) 1 (some (.cells ((range n).map fun i=>if i=k then .rs (nx+1) 0 l.length else if i<k then au (aA (bI f) i) else .z) 27)) j).map (Row.sub (fz0 (nx+1) (l.map I++replicate (d.length - l.length) (I 0)) (prog.cellsOf 3))))=m at N1 N3 NJ ⊢;have ax:=N3;have di:=N1
   have kd:(jW f n (k+1)).drop k=au l::(jW f n (k+1)).drop (k+1):=by
    rw[List.drop_eq_getElem_cons oP];congr 1;simp[jW,iQ]
   refine aJ ?_;have we:l.length<=10:=by omega
   clear kd ax di hx Ja Yp hle Da fQ cR E'
   refine af (dV (α:=Nat×Mem×Nat)
    (fun j=>⟨aD [(1,.pt (aH f)),(6,.rp 3 0),(7,I k),(28,gz f.ab),(29,I n),(30,I k),(54,au l),(55,I l.length),(56,I j.1)],j.2.1,j.2.2⟩)
    (fun j=>j.1<=l.length/\4<=j.2.2/\j.2.1 1=some (.cells (jW f n (k+1)) 27)/\j.2.1 3=some (.cells (jl f (.rs 1 0 n) (.rs 2 0 n) .z) 89)/\(∃ ρ,eP j.2.1 j.2.2 2 n 27 3 ρ (fun i=>((l.take j.1).foldl (dM k) L0 i).map I)/\(∀ i,i<n->((l.take j.1).foldl (dM k) L0 i).map I≠[]->ρ i≠1/\ρ i≠3))/\∀ i,((l.take j.1).foldl (dM k) L0 i).length<=12*k+j.1) (fun j=>l.length - j.1) (0,m,nx+2)
    (ap eH) ⟨Nat.zero_le _,oM,N1,N3,⟨ρ,NJ,J⟩,hlen⟩ ?_)
   clear N1 N3 NJ hlen J Bj fO;rintro⟨j,m,nx⟩ ⟨hj,fO,m1,m3,⟨ρ,C,J⟩,hlen⟩;dsimp only at hj fO m1 m3 C J hlen ⊢;have ax:=C.row;have di:=m3;have cV:=C.qA;have eL:∀ t,l[j]? =some t->(l.take (j+1)).foldl (dM k) L0=dM k ((l.take j).foldl (dM k) L0) t:=fun t ht=>oF ht;have qa:j=l.length->(l.take j).foldl (dM k) L0=bH f.ab (k+1):=fun e=>by rw[cg,df oG]
   generalize (l.take j).foldl (dM k) L0=L at C J hlen ax eL qa;refine SS ?_;refine af ⟨_,rfl,fun h=>?_,fun h=>?_⟩
   .have zi:j<l.length:=by simpa using h
    have s7:l[j]? =some l[j]:=aN zi;have pH:=dU _ (cy zi);generalize l[j]=t at s7 pH;obtain⟨i,rfl⟩:=cU pH.1;have bm:i<n:=pH.2;have hL:=hlen i;have eL:(l.take (j+1)).foldl (dM k) L0=up L i (L i++[(k:Int)]):=eL _ s7
    have tO:∀ i,((l.take (j+1)).foldl (dM k) L0 i).length<=12*k+(j+1):=fun a=>by
     rw[eL];exact Gx (t:=(i:Int)) hlen a
    have zU:(fun a=>((l.take (j+1)).foldl (dM k) L0 a).map I)=up (fun a=>(L a).map I) i ((L i++[(k:Int)]).map I):=by rw[eL];exact Lq
    obtain⟨cs,kd⟩:=G' (ρ:=ρ) (L:=fun i=>(L i).map I) bm
    have Yq:∀ a,a<n->((l.take (j+1)).foldl (dM k) L0 a).map I≠[]->up ρ i (nx+1) a≠1/\up ρ i (nx+1) a≠3:=fun a ha aE=>by
     simp only[up];split
     .omega
     .rename_i gG;refine J a ha ?_;rw[eL,up_ne _ _ gG] at aE;exact aE
    refine ws (aq ?_);refine af (pO abb ?_);by_cases hz:L i=[]
    .have uD:jc (ρ i) ((L i).map I)=.z:=by rw[hz];rfl
     rw[uD] at kd;refine aJ ?_;refine bK ?_;refine a8 (by simp[apartT];omega) ?_;refine ag ?_;refine af (aK (j+1,up (up (up m nx (some (.cells [I k] 3))) (nx+1) (some (.cells [I k] 3))) 2 (some (.cells ((jF ρ (fun i=>(L i).map I) n).set i (.rs (nx+1) 0 1)) 27)),nx+2) (ap eH) ⟨oM,oM,?_,?_,⟨up ρ i (nx+1),?_,Yq⟩,tO⟩ oM)
     .dsimp only;exact aC oG (aC oG (aC oG m1))
     .dsimp only;exact aC oG (aC oG (aC oG m3))
     dsimp only;rw[zU];refine C.kH bm oS oG oG ?_ ?_ (fun q hq tc _=>?_)
     .rw[hz];exact up_same _ _ _
     .rw[hz];exact aC oG (up_same _ _ _)
     .exact aC oG (aC oG (aC oG rfl))
    .have aE:(L i).map I≠[]:=by simpa using hz
     have uD:jc (ρ i) ((L i).map I)=.rs (ρ i) 0 (L i).length:=by rw[qb aE,List.length_map]
     rw[uD] at kd;have gV:=C.sM i bm aE;have Bj:=C.lt i bm aE;have hρ2:=C.ne i bm aE;obtain⟨Oo,hρ3⟩:=J i bm aE;refine aJ ?_;refine aO ?_;refine vo (uX rfl (aC oG gV) rfl V.h V.h (wm (up_same _ _ _) rfl) rfl) ak ⟨V.h,rfl,(by first|omega|exact bE rfl|(simp;done)|(simp;omega)),oC,(by first|rfl|(simp;done)|(simp;omega)),(by unfold maxLen;first|omega|(simp;omega)),(by rw[b3];first|omega|(simp;omega)),(by first|(simp;done)|(simp;omega))⟩ ?_;refine ag ?_;refine a8 (by simp[apartT];omega) ?_;refine ag ?_;refine af (aK (j+1,up (up (up (up m nx (some (.cells [I k] 3))) (ρ i) none) (nx+1) (some (.cells ((L i).map I++[I k]) 3))) 2 (some (.cells ((jF ρ (fun i=>(L i).map I) n).set i (.rs (nx+1) 0 ((L i).length+1))) 27)),nx+2) (ap eH) ⟨oM,oM,?_,?_,⟨up ρ i (nx+1),?_,Yq⟩,tO⟩ oM)
     .dsimp only;exact aC oG (aC oG (aC oG (aC oG m1)))
     .dsimp only;exact aC oG (aC oG (aC oG (aC oG m3)))
     dsimp only;rw[zU];refine C.kH bm oS oG oG ?_ ?_ (fun q hq tc nq=>?_)
     .rw[List.length_map,List.length_append];exact up_same _ _ _
     .rw[List.map_append];exact aC oG (up_same _ _ _)
     .have:=nq aE;exact aC oG (aC oG (aC oG (aC oG rfl)))
   .have a9:¬ j<l.length:=by simpa using h
    have vl:=qa oG;subst vl;show AOps _ _ _ _ _ _ _ _ _;refine ag ?_;refine af (aK (k+1,m,nx) (ap eH) ⟨oM,fO,m1,m3,⟨ρ,C,J⟩,fun i=>by have:=hlen i;dsimp only at this ⊢;omega⟩ oM)
  .have a9:¬ k<n:=by simpa using h
   have:k=n:=by omega
   subst this;exact⟨m,nx,ρ,ap eH,fO,m1,m3,C,J⟩
 .rintro s ⟨m,nx,ρ,hg,fO,m1,m3,C,J⟩;have qD:¬ ∃ i,i<n/\(bH f.ab n i).map I≠[]/\ρ i=2:=fun⟨i,h1,h2,h3⟩=>C.ne i h1 h2 h3;have Yr:¬ ∃ i,i<n/\(bH f.ab n i).map I≠[]/\ρ i=1:=fun⟨i,h1,h2,h3⟩=>(J i h1 h2).1 h3;have Ys:¬ ∃ i,i<n/\(bH f.ab n i).map I≠[]/\ρ i=3:=fun⟨i,h1,h2,h3⟩=>(J i h1 h2).2 h3;have xG:=hg.trans (GN (l:=[(6,.rp 3 0)]) (ml:=[(1,.cells (jW f n n) 27),(3,.cells (jl f (.rs 1 0 n) (.rs 2 0 n) .z) 89)]) (fun r=>∃ i,i<n/\(bH f.ab n i).map I≠[]/\ρ i=r) C (fun _=>.map) c3 (fun i h1 h2=>⟨i,h1,h2,rfl⟩) qD ⟨rfl,trivial⟩ (fun x hx=>by simp at hx;subst hx;exact .rp Ys) ⟨m1,m3,trivial⟩ (fun x hx=>?_))
  rotate_left
  .simp only[List.mem_cons,List.not_mem_nil,or_false] at hx;rcases hx with rfl|rfl
   .refine⟨nN.cells fun d hd=>?_,Yr⟩;obtain⟨i,_,rfl⟩:=List.mem_map.1 hd;split
    .exact .sl _ _
    .exact .z
   .refine⟨nN.cells fun d hd=>?_,Ys⟩;simp only[jl,List.mem_cons,List.not_mem_nil,or_false] at hd;rcases hd with rfl|rfl|rfl|rfl|rfl|rfl|rfl|rfl|rfl|rfl|rfl
    .exact .s _
    .exact .s _
    .exact .s _
    .exact .s _
    .exact .sl _ _
    .exact .sl _ _
    .exact .sl _ _
    .exact .sl _ _
    .exact .rs Yr
    .exact .rs qD
    .exact .z
  have hbc:jW f n n=(bI f).map au:=by
   unfold jW bI;refine List.ext_getElem (by simp[hn]) fun i h1 h2=>?_;have hi:i<n:=by simpa using h1
   simp only[List.getElem_map,List.getElem_range,hi,if_true];exact congrArg au (yA (aN oG))
  have Oz:=xG.trans (lQ (i:=1) (e:=27) (cs:=jW f n n) (l:=[(6,.rp 3 0)]) (ml:=[(2,.cells ((range n).map fun i=>.sl ((bH f.ab n i).map I) ((bH f.ab n i).map I).length) 27),(3,.cells (jl f (bx (bI f)) (.rs 2 0 n) .z) 89)]) rfl eH ⟨?_,?_,trivial⟩)
  rotate_left
  .refine Ac oG rfl (nN.cells (X:=fun p=>p=1) (fun d hd=>?_) _ _ _ rfl);obtain⟨i,_,rfl⟩:=List.mem_map.1 hd;exact .sl _ _
  .show some (Row.cells (List.map _ (jl f (.rs 1 0 n) (.rs 2 0 n) .z)) 89)=_
   have e1:sub (fz0 1 (jW f n n) (prog.cellsOf 27)) (.rs 1 0 n)=bx (bI f):=by
    rw[nB (by rw[Bh];simp),hbc,bx,show(bI f).length=n by simp[bI,hn]]
   have e2:sub (fz0 1 (jW f n n) (prog.cellsOf 27)) (.rs 2 0 n)=.rs 2 0 n:=GL oG;simp only[jl,List.map_cons,List.map_nil,e1,e2];rfl
  have hg3:=Oz.trans (lQ (i:=2) (e:=27) (cs:=(range n).map fun i=>.sl ((bH f.ab n i).map I) ((bH f.ab n i).map I).length) (l:=[(6,.rp 3 0)]) (ml:=[(3,.cells (jl f (bx (bI f)) (bx (cM f.ab)) .z) 89)]) rfl eH ⟨?_,trivial⟩)
  rotate_left
  .show some (Row.cells (List.map _ (jl f (bx (bI f)) (.rs 2 0 n) .z)) 89)=_
   have e1:sub (fz0 2 ((range n).map fun i=>.sl ((bH f.ab n i).map I) ((bH f.ab n i).map I).length) (prog.cellsOf 27)) (.rs 2 0 n)=bx (cM f.ab):=by
    rw[nB (by rw[Bh];simp),G9,cM,hn]
   simp only[jl,List.map_cons,List.map_nil,e1];rfl
  refine⟨_,hg3,az ?_⟩;have It:=It (f:=f) (beh:=bI f) (ahd:=cM f.ab) (c:=.z) (w:= -1) .z rfl (by simp[bI,hn]) hn (by have:=bZ.pos;omega) oG qC cZ;have wc:=wk (w:= -1) qC (by have:=bZ.pos;omega);have xV:wI f=bA f (bI f) (cM f.ab) (dw (cO (aA (bI f)) n (-1))):=by rw[wI,hn]
  rw[xV];generalize cO (aA (bI f)) n (-1)=R at It wc ⊢;refine ag ?_;refine kO (Y' (rds:=[3]) (args:=[.rp 3 0,I (-1)]) (args':=[.pt (bA f (bI f) (cM f.ab) .z),I (-1)]) ⟨Us (cs:=bA f (bI f) (cM f.ab) .z) rfl oS rfl (J1 .z),c8 (.s _),trivial⟩ It (fun d hd=>by obtain⟨x,_,rfl⟩:=List.mem_map.1 hd;rfl)) rfl cv fun d m' nx' hp=>?_;obtain⟨rfl,rfl,rfl⟩:=hp;have ax:up (bf [(3,.cells (jl f (bx (bI f)) (bx (cM f.ab)) .z) 89)]) nx (some (.cells (R.map B) 4)) 3=some (.cells (jl f (bx (bI f)) (bx (cM f.ab)) .z) 89):=aC oG rfl;refine ag ?_;refine cA (fI (d:=.rs _ _ _) (cs':=_) rfl rfl ax rfl rfl) ak (du V.h V.h (by first|(simp;done)|exact⟨rfl,bE rfl⟩|(simp;omega)) rfl) ?_;refine af ?_
  have e0:(fun j=>if j=nx then none else(up (up (bf [(3,.cells (jl f (bx (bI f)) (bx (cM f.ab)) .z) 89)]) nx (some (.cells (R.map B) 4))) 3 (some (.cells (jl f (bx (bI f)) (bx (cM f.ab)) (.rs nx 0 n)) 89)) j).map (Row.sub (fz0 nx (R.map B) (prog.cellsOf 4)))) 3=some (.cells (jl f (bx (bI f)) (bx (cM f.ab)) (dw R)) 89):=by
   dsimp only;rw[if_neg oG,up_same];show some (Row.cells (List.map _ (jl f (bx (bI f)) (bx (cM f.ab)) (.rs nx 0 n))) 89)=_
   have e1:sub (fz0 nx (R.map B) (prog.cellsOf 4)) (.rs nx 0 n)=dw R:=by
    rw[nB (by rw[c4];simp[wc]),dw,wc]
   simp only[jl,List.map_cons,List.map_nil,e1];rfl
  refine⟨_,(Qn (i:=nx) (e:=4) (cs:=R.map B) (l:=[(6,.rp 3 0)]) (aC oG (up_same _ _ _)) ⟨Hc oG,trivial⟩).trans (uO (i:=3) (l:=[(6,.pt (bA f (bI f) (cM f.ab) (dw R)))]) e0 ⟨oZ,trivial⟩),aj ?_⟩;refine SS ?_;refine Wg ?_;refine SS ?_;exact af (fk rfl rfl rfl)
end Go.Proofs.Tryz.K
end
namespace Go.Argus
open Go Go.Abs
structure LG where
 beh:Nat->List Int
 blk:Nat->b7
 Y0:Nat->Int->List Int
 Y1:Nat->Int->Int
def LA(l:List Int):Prop:=∀ r∈l,0<=r/\r<1216
structure aiQ(y:bC):Prop where
 rd:LA (cP y)
 wr:dL y<1216
structure akU(g:LG)(n:Nat):Prop where
 beh:∀ b,∀ c∈g.beh b,0<=c/\c.toNat<n
 ins:∀ b,∀ y∈(g.blk b).ins,aiQ y
 Y0:∀ b,∀ c∈g.beh b,LA (g.Y0 b c)
 Y1:∀ b,∀ c∈g.beh b,g.Y1 b c<1216
 red:∀ b,LA (cK (g.blk b).fin)
section
variable{g:LG}{n:Nat}
end
end Go.Argus
namespace Go.Argus
section
variable{g:LG}{n:Nat}{ord:List Int}
end
end Go.Argus
section
open Go Go.Abs Go.Proofs Go.Argus
namespace Go.Argus
def Iv(f:aG)(c:Nat):List Int:=bH f.ab f.ab.length c
def vA(f:aG)(b:Nat):b7:=f.ab.getD b kn
def lgR(f:aG):LG:=⟨aA (bI f),vA f,fun b c=>ae8 (Iv f c.toNat) b (vA f c.toNat),fun b c=>Ha (vA f b).fin c⟩
theorem Ku{f:aG}{b:Nat}{x:b7}(h:f.ab[b]? =some x):vA f b=x:=getD_some h
theorem Qo{f:aG}{b:Nat}(h:f.ab.length<=b):vA f b=kn:=by
 unfold vA;rw[bl,List.getElem?_eq_none h];rfl
theorem TE{α:Type}{p:α->Bool}{y:α}:∀ {l:List α},y∈l.takeWhile p->p y=true
 |[],h=>by simp at h
 |a::l,h=>by
  rw[List.takeWhile_cons] at h;split at h
  .rename_i ha;rcases List.mem_cons.1 h with e|e
   .subst e;exact ha
   .exact TE e
  .simp at h
theorem acH{x:b7}{y:bC}(h:y∈ET x):y.op=19:=by simpa[cr] using TE h
theorem abc{x:b7}{y:bC}(h:y∈ET x):y∈x.ins:=(List.takeWhile_prefix cr).subset h
theorem qT.akS{f:aG}(h:qT f){b:Nat}{x:b7}(hx:f.ab[b]? =some x){y:bC}(hy:y∈ET x):y.args.length=(Iv f b).length/\∀ r∈y.args,0<=r/\r<1200:=by
 obtain⟨j,hj⟩:=cC (abc hy);obtain⟨h1,_,_,_,h2⟩:=(JE h.al h.aZ.1 h.aZ.2 (h.right b x hx j y hj)).2 (acH hy);refine⟨by unfold Iv;omega,fun r hr=>?_⟩;have:=(h2 r hr).2;unfold jC at this;have:=h.al;omega
def akT(f:aG):List Int:=(cS (aA (bI f)) f.ab.length).reverse
end Go.Argus
namespace Go.Proofs.Tryz.K
theorem lg_ok{f:aG}(h:qT f):akU (lgR f) f.ab.length:=by
 have M:∀ b,∀ y∈(vA f b).ins,qV y:=fun b y hy=>by
  cases hx:f.ab[b]? with
  |none=>rw[Qo (List.getElem?_eq_none_iff.1 hx)] at hy;simp[kn] at hy
  |some x=>rw[Ku hx] at hy;exact(h.blk x (bU hx)).ins y hy
 have C:∀ b,b<f.ab.length->Cm (vA f b).fin:=fun b hb=>by
  rw[Ku (aN hb)];exact(h.ends _ (cy hb)).fin
 refine⟨beh_in h,fun b y hy=>?_,fun b c hc=>?_,fun b c hc=>?_,fun b=>?_⟩
 .have:=M b y hy;exact⟨fun r hr=>by have:=this.rd r hr;omega,by have:=this.wr;omega⟩
 .have J:=beh_in h b c hc;have hx:=aN J.2;intro r hr;obtain⟨y,hy,rfl⟩:=List.mem_map.1 hr;rw[Ku hx] at hy;obtain⟨e1,e2⟩:=h.akS hx hy;rw[bl];cases e:y.args[(oc (fun z=>(b:Int)==z) (Iv f c.toNat)).toNat]? with
  |none=>simp
  |some v=>
   have:=e2 v (bU e);simp only[Option.getD_some];omega
 .show Ha _ _<1216
  have hb:b<f.ab.length:=by
   rcases Nat.lt_or_ge b f.ab.length with g|g
   .exact g
   .have hc:c∈aA (bI f) b:=hc;rw[GK g] at hc;simp at hc
  have:=(C b hb).wr;show Ha (vA f b).fin c<1216;unfold Ha;split<;>omega
 .intro r hr;have hr:r∈cK (vA f b).fin:=hr;rcases Nat.lt_or_ge b f.ab.length with g|g
  .have:=(C b g).rd r hr;omega
  .rw[Qo g] at hr;simp[kn,cK,aU] at hr
theorem ord_in{f:aG}(h:qT f):∀ b∈akT f,0<=b/\b.toNat<f.ab.length:=fun b hb=>by
 have C:=h.pos;have hb:=(J3 (beh_in h) C).1 (List.mem_reverse.1 hb);refine⟨hb.1,?_⟩;have hl:=wk (w:= -1) (beh_in h) C;rcases Nat.lt_or_ge b.toNat f.ab.length with g|g
 .exact g
 .rw[bl,List.getElem?_eq_none oG] at hb;simp at hb
theorem RT{f:aG}(C:dH f≠0):PCall prog 51 [.agg (aH f)] (.tup [.s (.pointer none),I (dH f)]):=by
 have zV:=zV (f:=f);generalize dH f=e at zV C;have dv:(e !=0)=true:=by simpa using C
 refine bg M9 (.cons (.agg (iu f)) .nil) (.tup (.cons (.s _) (.cons (.s _) .nil))) ?_;rw[Xb];refine az (aq ?_);refine af (aW (bG [(0,aH f,26)] eH (l:=[(1,.pt (aH f))]) eH) (aB (aj (SS ?_))));refine cl zV (SS ?_);refine af (aB (aj (ag ?_)));refine af (dN (aB (aj (aq ?_))));exact af (bX (fk rfl rfl rfl))
end Go.Proofs.Tryz.K
end
namespace Go.Argus
open Go Go.Abs
open Go.Proofs.Tryz.K (nextR lg_ok beh_in ord_in)
theorem BB:∀ {n:Nat} {l:List Int},l.Nodup->(∀ x∈l,0<=x/\x.toNat<n)->l.length<=n
 |0,l,_,h=>by
  cases l with
  |nil=>simp
  |cons a l=>have:=h a oS;omega
 |n+1,l,hd,h=>by
  by_cases hm:(n:Int)∈l
  .have h1:=BB (n:=n) (l:=l.erase n) (hd.erase _) fun x hx=>by
    have C:=(hd.mem_erase_iff).1 hx;have:=h x C.2;have:=C.1;omega
   rw[List.length_erase_of_mem hm] at h1;omega
  .have h1:=BB (n:=n) (l:=l) hd fun x hx=>by
    have:=h x hx;have:x≠n:=fun e=>hm (e▸hx);omega
   omega
end Go.Argus
section
open Go Go.Abs Go.Proofs Go.Argus
namespace Go.Abs
section
variable{P:Program}{m:Mem}{nx:Nat}
def tH(P:Program)(f:FuncId)(args:List D)(cN:D->Prop):Prop:=
 enterOk P f=true/\(∀ a∈args,Tr a)/\∀ F w vs,(∀ b,F b->b<w.heap.size)->Rs F noRows w args vs->
  Calls P f vs w fun e w'=>∃ v r,cN r/\e=.returned v/\R F noRows w' r v/\Kept w w'
theorem abd{fn:Func}(J:P.follows .mixedOrders=true){f:FuncId}{c:Code}(hf:na P f fn c){args:List D}(hn:Nat.ble args.length fn.ntmps=true)(ht:∀ a∈args,Tr a){cN:D->Prop}(hr:∀ r,cN r->Tr r)
 (h:AW P noY true c (retQ P fn.results.toList fun d _=>cN d) ⟨envOf args,fun _=>none,0⟩):tH P f args cN:=
 ⟨hf.he,ht,fun F w vs hF hR=>(BE J hf.hf hf.hb hf.ao hn h (fun _ _ _ _ _ h=>h.elim) (GD hF) (fun _ _=>rfl) hR).mono fun e w' hp=>by
  obtain⟨v,d,st',β',h1,hd,h3,h4,h5,C,M,h8⟩:=hp
  exact⟨v,d,hd,h1,(hr d hd).Cc h3,Gq C⟩⟩
theorem ZV{f:FuncId}{args:List D}{cN:D->Prop}(hc:tH P f args cN):ACalls P f args m nx (fun d m' nx'=>cN d/\m'=m/\nx'=nx):=
 ⟨hc.1,fun F β w vs hm C hR=>(hc.2.2 (owned F β) w vs (fun b hb=>owned_lt hm hb) ⟨hR.1,fun k d v hd hv=>hc.2.1 d (bU hd) F β w v (hR.2 k d v hd hv)⟩).mono
  fun e w' ⟨v,r,hp,he,hr,hk⟩=>⟨v,r,m,nx,β,he,⟨hp,rfl,rfl⟩,hm.kept hk,C,hr.lift fun b hb=>owned_free hb,kept_step hk,bF _,fun i _ h=>h⟩⟩
end
theorem Tx{id i:Nat}{Q:Exit->St->Prop}{s:St}(C:i≠id)(h:Q (.exit i) s):blockQ id Q (.exit i) s:=by simp only[blockQ,if_neg C];exact h
end Go.Abs
namespace Go.Proofs.Tryz.K
theorem NT{f:FuncId}{fn:Func}{c:Code}(hf:na Tryz.prog f fn c){args:List D}(ht:∀ a∈args,Tr a){cN:D->Prop}(hr:∀ r,cN r->Tr r)(h:AW Tryz.prog noY true c (retQ Tryz.prog fn.results.toList fun d _=>cN d) ⟨envOf args,fun _=>none,0⟩)(hn:Nat.ble args.length fn.ntmps=true:=by kernel_rfl):tH Tryz.prog f args cN:=abd mixed hf hn ht hr h
end Go.Proofs.Tryz.K
namespace Go.Argus
def TF(f:aG)(b r:Int):Prop:=nI f.ab.length b=true/\0<=r/\r<f.al.length
instance(f:aG)(b r:Int):Decidable (TF f b r):=by unfold TF;infer_instance
theorem hd9:∀ a b c d e f g h i:Bool,(if(if(if(if(if(if(if a=true then b else false)=true then true else c)=true then true else(if d=true then e else false))=true then true else f)=true then true else g)=true then true else h)=true then true else i)=((a&&b)||(c||((d&&e)||(f||(g||(h||i)))))):=by decide
theorem akV:∀ a b c d e:Bool,(if(if(if(if a=true then true else b)=true then true else c)=true then true else d)=true then true else e)=(a||(b||(c||(d||e)))):=by decide
def Cz(l:List Int)(n:Int):Bool:=l.any fun y=>y==n
theorem aca{l:List Int}{x:Int}:Cz l x=true↔x∈l:=by simp[Cz]
def CH(f:aG):Bool:=(decide (24<(f.ab.length:Int))&&decide ((f.ab.length:Int)<=1200))||(decide (1210<(f.ab.length:Int))||((decide (14<(f.al.length:Int))&&decide ((f.al.length:Int)<=1200))||(decide (1210<(f.al.length:Int))||(decide (130<(f.name.size:Int))||(decide (70<(f.aZ.length:Int))||decide (10<(f.ac.length:Int)))))))
def tI(b:b7):Bool:=decide (12<(b.ins.length:Int))||(decide (8<(b.fin.aL.length:Int))||(decide (10<(b.fin.args.length:Int))||(decide (130<(b.fin.name.size:Int))||decide (10<(b.fin.ins.args.length:Int)))))
def tJ(y:bC):Bool:=decide (26<(y.args.length:Int))
def sK(f:aG):Bool:= !(CH f)&&(f.ac.all (fun s=> !(decide (20<(s.size:Int))))&&f.ab.all (fun b=> !(tI b)&&b.ins.all fun y=> !(tJ y)))
theorem aot{f:aG}(h:sK f=true):f.ab.length<=24\/1200<f.ab.length:=by
 unfold sK CH at h;simp only[aM,Bool.not_eq_true',Bool.or_eq_false_iff] at h;have h1:=h.1.1;by_cases h2:24<f.ab.length
 .by_cases h3:f.ab.length<=1200
  .simp at h1;omega
  .omega
 .omega
def allI(cnt:List Bool)(k:Nat):List Int:=((range k).filter fun i=>cnt.getD i false).map fun(i:Nat)=>(i:Int)
theorem J4(cnt:List Bool)(k:Nat):allI cnt (k+1)=if cnt.getD k false=true then allI cnt k++[(k:Int)] else allI cnt k:=by
 unfold allI;rw[List.range_succ,List.filter_append,List.map_append];by_cases h:cnt.getD k false=true
 .rw[if_pos h,List.filter_cons_of_pos (by exact h)];rfl
 .rw[if_neg h,List.filter_cons_of_neg (by exact h),List.filter_nil,List.map_nil,List.append_nil]
theorem Rj(cnt:List Bool):∀ {k n:Nat},k<=n->∃ t,allI cnt n=allI cnt k++t
 |k,0,h=>by
  have:k=0:=by omega
  subst this;exact⟨[],oS⟩
 |k,n+1,h=>by
  rcases Nat.lt_or_ge k (n+1) with g|g
  .obtain⟨t,ht⟩:=Rj cnt (k:=k) (n:=n) oG;rw[J4];split
   .exact⟨t++[(n:Int)],by rw[ht,List.append_assoc]⟩
   .exact⟨t,ht⟩
  .have:k=n+1:=by omega
   subst this;exact⟨[],oS⟩
theorem ad1{cnt:List Bool}{k n:Nat}(hk:k<n)(hc:cnt.getD k false=true):(allI cnt n)[(allI cnt k).length]? =some (k:Int):=by
 obtain⟨t,ht⟩:=Rj cnt (k:=k+1) (n:=n) oG;rw[ht,J4,if_pos hc,List.append_assoc,List.getElem?_append_right (bF _),Nat.sub_self];rfl
def Fg(k a to gF:Int)(x:bC):End:=⟨k,a,0,to,gF,⟨#[]⟩,x,[],[], -1⟩
def ru:aG:=⟨⟨#[115,117,109]⟩,false,1,1,[1,1,1],[],[],[⟨[⟨1,1,0,0,0,[]⟩],Fg 1 0 1 0 eB⟩,⟨[],Fg 2 0 2 3 eB⟩,⟨[⟨1,2,0,0, -1,[]⟩],Fg 5 0 4 0 ⟨30,1,1,0,0,[]⟩⟩,⟨[],Fg 3 1 0 0 eB⟩,⟨[],Fg 5 0 1 0 ⟨30,0,0,2,0,[]⟩⟩]⟩
def xv:List D:=bA ru [[1],[2,3],[4],[],[1]] [[],[0,4],[1],[1],[2]] (dw [true,true,true,true,true])
end Go.Argus
namespace Go.Proofs.Tryz.K
theorem Dk{f:aG}:PCall prog 15 [.agg (aH f)] (B (sK f)):=by
 have a7:∀ a∈[D.agg (aH f)],Tr a:=.cons (.agg (iu f)) .nil;refine bg akW a7 (Tr.s _) ?_;rw[akX];refine az (ag ?_);refine af (aW (bG [(0,aH f,26)] eH (l:=[(1,.pt (aH f))]) eH) (aB (az (aJ ?_))));refine aJ ?_;refine aJ ?_;refine bK ?_;refine ag ?_;refine bt rfl rfl (Lh rfl) (fun hc=>⟨ak,V.h⟩) (aJ ?_);refine aO ?_;have hd:CH f=_:=(hd9 (decide (24<(f.ab.length:Int))) (decide ((f.ab.length:Int)<=1200)) (decide (1210<(f.ab.length:Int))) (decide (14<(f.al.length:Int))) (decide ((f.al.length:Int)<=1200)) (decide (1210<(f.al.length:Int))) (decide (130<(f.name.size:Int))) (decide (70<(f.aZ.length:Int))) (decide (10<(f.ac.length:Int)))).symm;refine af ⟨_,.refl _,cx rfl (fun h=>?_) fun h=>bP (aB (az ?_))⟩
 .have h1:CH f=true:=hd.trans h;refine aB (aj (SS ?_));refine af (bX (av (d:=B false) rfl ?_));rw[sK,h1];rfl
 have h1:CH f=false:=hd.trans h;clear hd h
 have aoA:f.ab.length<=100000/\f.ac.length<=100000:=by
  unfold CH at h1;simp only[Bool.or_eq_false_iff,decide_eq_false_iff_not] at h1;omega
 refine SS ?_
 refine af (bR (fun s=>Ghost prog s ⟨aD [(1,.pt (aH f))],fun _=>none,1⟩/\f.ac.all (fun s=> !(decide (20<(s.size:Int))))=true) (cQ (α:=Nat) (fun k=>⟨aD [(1,.pt (aH f)),(3,I k)],fun _=>none,1⟩)
  (fun k=>k<=f.ac.length/\(f.ac.take k).all (fun s=> !(decide (20<(s.size:Int))))=true) (fun k=>f.ac.length - k) 0 (ap eH) ⟨oG,rfl⟩ ?_) ?_)
 .rintro k ⟨hk,hinv⟩;refine aO ?_;refine af ⟨_,rfl,fun h=>?_,fun h=>?_⟩
  .have ao:k<f.ac.length:=by simpa using h
   have hx:f.ac[k]? =some f.ac[k]:=by simp[ao]
   have J:f.ac[k]∈f.ac:=cy _;generalize f.ac[k]=x at hx J;refine ws (dA ?_);refine af (aw rfl (fun hp=>?_) fun hp=>?_)
   .refine ws (SS ?_);refine af (aY (br (aR (av (d:=B false) rfl ?_))))
    have:f.ac.all (fun s=> !(decide (20<(s.size:Int))))=false:=by
     refine Bool.eq_false_iff.2 fun ht=>?_;have:=bj.1 ht x J;rw[hp] at this;cases this
    rw[sK,this];simp
   .refine bS (aq ?_);refine af (aK (k+1) (ap eH) ⟨oG,?_⟩ oG);rw[List.take_add_one,hx,List.all_append,hinv];show(true&&(!(decide (20<(x.size:Int)))&&true))=true;rw[hp];rfl
  .have X:¬ k<f.ac.length:=by simpa using h
   rw[df oG] at hinv;exact⟨ap eH,hinv⟩
 rintro s ⟨hg,Xc⟩;refine⟨_,hg,aB (az ?_)⟩;refine SS ?_
 refine af (bR (fun s=>(∃ nx,Ghost prog s ⟨aD [],fun _=>none,nx⟩)/\f.ab.all (fun b=> !(tI b)&&b.ins.all fun y=> !(tJ y))=true) (cQ (α:=Nat×Nat) (fun k=>⟨aD [(1,.pt (aH f)),(4,I k.1)],fun _=>none,k.2⟩)
  (fun k=>k.1<=f.ab.length/\(f.ab.take k.1).all (fun b=> !(tI b)&&b.ins.all fun y=> !(tJ y))=true) (fun k=>f.ab.length - k.1) (0,1) (ap eH) ⟨Nat.zero_le _,rfl⟩ ?_) ?_)
 .rintro⟨k,nx⟩ ⟨hk,hinv⟩;dsimp only at hk hinv ⊢;refine aO ?_;refine af ⟨_,rfl,fun h=>?_,fun h=>?_⟩
  .have ao:k<f.ab.length:=by simpa using h
   have hx:f.ab[k]? =some f.ab[k]:=by simp[ao]
   have J:f.ab[k]∈f.ab:=cy _;generalize f.ab[k]=x at hx J
   have C:(!(tI x)&&x.ins.all fun y=> !(tJ y))=false->sK f=false:=fun hb=>by
    have:f.ab.all (fun b=> !(tI b)&&b.ins.all fun y=> !(tJ y))=false:=by
     refine Bool.eq_false_iff.2 fun ht=>?_;have:=bj.1 ht x J;rw[hb] at this;cases this
    rw[sK,this];simp
   refine az (dA ?_);refine af (aW (uO (i:=nx) (l:=[(1,.pt (aH f)),(4,I k),(5,.pt (fJ x))]) (up_same _ _ _) ⟨rfl,rfl,oZ,trivial⟩) (aB (aj (aJ ?_))));refine aJ ?_;refine aP ?_;refine bt rfl rfl (Lh rfl) (fun hc=>⟨ak,V.h⟩) (bK ?_);refine ag ?_;have hd:tI x=_:=(akV (decide (12<(x.ins.length:Int))) (decide (8<(x.fin.aL.length:Int))) (decide (10<(x.fin.args.length:Int))) (decide (130<(x.fin.name.size:Int))) (decide (10<(x.fin.ins.args.length:Int)))).symm;refine af (cx rfl (fun h=>?_) fun h=>bP (az ?_))
   .have hb:tI x=true:=hd.trans h;refine aB (aj (SS ?_));refine af (bX (br (aR (av (d:=B false) rfl ?_))));rw[C (by rw[hb];rfl)]
   .have hb:tI x=false:=hd.trans h;clear hd h
    have fZ:x.ins.length<=100000:=by
     unfold tI at hb;simp only[Bool.or_eq_false_iff,decide_eq_false_iff_not] at hb;omega
    refine SS ?_
    refine af (cQ (α:=Nat) (fun j=>⟨aD [(1,.pt (aH f)),(4,I k),(5,.pt (fJ x)),(6,I j)],fun _=>none,nx+1⟩)
     (fun j=>j<=x.ins.length/\(x.ins.take j).all (fun y=> !(tJ y))=true) (fun j=>x.ins.length - j) 0 (ap eH) ⟨Nat.zero_le _,rfl⟩ ?_)
    rintro j ⟨hj,M⟩;refine aO ?_;refine af ⟨_,rfl,fun h=>?_,fun h=>?_⟩
    .have cV:j<x.ins.length:=by simpa using h
     have hy:x.ins[j]? =some x.ins[j]:=by simp[cV]
     have ye:x.ins[j]∈x.ins:=cy _;generalize x.ins[j]=y at hy ye;refine ws (bK ?_);refine af (aw rfl (fun hp=>?_) fun hp=>?_)
     .have hp:tJ y=true:=hp;refine ws (SS ?_);refine af (aY (br (br (aR (av (d:=B false) rfl ?_)))));rw[C]
      have:x.ins.all (fun y=> !(tJ y))=false:=by
       refine Bool.eq_false_iff.2 fun ht=>?_;have:=bj.1 ht y ye;rw[hp] at this;cases this
      rw[this];simp
     .have hp:tJ y=false:=hp;refine bS (aq ?_);refine af (aK (j+1) (ap eH) ⟨oG,?_⟩ oG);rw[List.take_add_one,hy,List.all_append,M];show(true&&(!(tJ y)&&true))=true;rw[hp];rfl
    .have X:¬ j<x.ins.length:=by simpa using h
     rw[df oG] at M;show AOps _ _ _ _ _ _ _ _ _;refine aq ?_;refine af (aK (k+1,nx+1) (ap eH) ⟨oM,?_⟩ oM);dsimp only;rw[List.take_add_one,hx,List.all_append,hinv];show(true&&((!(tI x)&&x.ins.all fun y=> !(tJ y))&&true))=true;rw[hb,M];rfl
  .have X:¬ k<f.ab.length:=by simpa using h
   rw[df oG] at hinv;exact⟨⟨nx,ap trivial⟩,hinv⟩
 rintro s ⟨⟨nx,hg⟩,bD⟩;refine⟨_,hg,aj ?_⟩;refine SS ?_;refine af (av (d:=B true) rfl ?_);rw[sK,h1,Xc,bD];rfl
theorem xZ{f:aG}{beh ahd:List (List Int)}{cnt:List Bool}(hlen:cnt.length<=100000):SeqA prog 61 [.pt (bA f beh ahd (dw cnt))] [] ((allI cnt cnt.length).map fun n=>[I n]):=by
 refine Lj mixed Xd kr fun L M Stop m nx hI X h0=>?_;rw[akY];refine az (bB ?_)
 refine af (dV (α:=Nat×Mem×Nat) (fun k=>⟨aD [(1,.fn (.yield L) [] []),(9,dw cnt),(10,I cnt.length),(11,I k.1)],k.2.1,k.2.2⟩)
  (fun k=>k.1<=cnt.length/\M (allI cnt k.1).length k.2.1 k.2.2) (fun k=>cnt.length - k.1) (0,m,nx) (ap eH) ⟨Nat.zero_le _,h0⟩ ?_)
 rintro⟨k,m,nx⟩ ⟨hk,C⟩;dsimp only at hk C ⊢;refine SS ?_;refine af ⟨_,rfl,fun h=>?_,fun h=>?_⟩
 .have ao:k<cnt.length:=by simpa using h
  have hx:cnt[k]? =some cnt[k]:=aN ao;have hg:cnt.getD k false=cnt[k]:=getD_some hx;have hs:=J4 cnt k
  have J:cnt.getD k false=true->((allI cnt cnt.length).map fun n=>[I n])[(allI cnt k).length]? =some [I k]:=fun h=>by
   rw[List.getElem?_map,ad1 ao h];rfl
  rw[hg] at hs J;generalize cnt[k]=c at hx hs J;refine ws (aO ?_);refine er ?_;cases c with
  |false=>
   refine ag ?_;(iterate 4 refine z fun _ _=>?_);refine SS ?_;refine af (gT (bS (ag ?_)));refine af (aK (k+1,m,nx) (ap eH) ⟨oM,?_⟩ oM);dsimp only;rw[hs];exact C
  |true=>
   refine aP ?_;refine HS rfl rfl rfl rfl cv ⟨rfl,_,J rfl,C,fun d m' nx' hp=>?_⟩;rcases hp with⟨rfl,hp⟩|⟨rfl,hp⟩
   .refine ag ?_;refine af (gT (bS (ag ?_)));refine af (aK (k+1,m',nx') (ap eH) ⟨oM,?_⟩ oM);dsimp only;rw[hs,if_pos rfl,List.length_append];exact hp
   .refine ag ?_;exact af (gJ (aY (br (wH (.inr hp)))))
 .have a9:¬ k<cnt.length:=by simpa using h
  have:k=cnt.length:=by omega
  subst this;exact qP (.inl (by rw[List.length_map];exact C))
end Go.Proofs.Tryz.K
namespace Go.Abs
def FN:Value->Value->Bool
 | .int k n,.int k' n'=>decide (k=k')&&decide (n=n')
 | .bool a,.bool b=>a==b
 | .string a,.string b=>decide (a=b)
 |_,_=>false
theorem TG{a b:Value}(h:FN a b=true):a=b:=by
 unfold FN at h;split at h
 .rw[aM,decide_eq_true_eq,decide_eq_true_eq] at h;rw[h.1,h.2]
 .rw[show _=_ from eq_of_beq h]
 .rw[of_decide_eq_true h]
 .cases h
def lD(g:D->D->Bool):List D->List D->Bool
 |[],[]=>true
 |a::xs,b::bs=>g a b&&lD g xs bs
 |_,_=>false
def sX:Nat->D->D->Bool
 |0,_,_=>false
 |_+1,.s a,.s b=>FN a b
 |_+1,.z,.z=>true
 |_+1,.sl [] 0,.z=>true
 |k+1,.agg a,.agg b=>lD (sX k) a b
 |k+1,.tup a,.tup b=>lD (sX k) a b
 |k+1,.sl a n,.sl b m=>Nat.beq n m&&lD (sX k) a b
 |k+1,.pt a,.pt b=>lD (sX k) a b
 |_+1,_,_=>false
theorem Ad{g:D->D->Bool}:∀ {xs bs:List D},lD g xs bs=true->xs.length=bs.length/\∀ (k:Nat) a,xs[k]? =some a->∃ b,bs[k]? =some b/\g a b=true
 |[],[],_=>⟨rfl,fun k a h=>by simp at h⟩
 |a::xs,b::bs,h=>by
  simp only[lD,aM] at h;obtain⟨h1,h2⟩:=Ad h.2;refine⟨by simp[h1],fun k x hx=>?_⟩;cases k with
  |zero=>simp at hx;subst hx;exact⟨b,rfl,h.1⟩
  |succ k=>exact h2 k x (by simpa using hx)
 |[],_::_,h=>by simp[lD] at h
 |_::_,[],h=>by simp[lD] at h
theorem Co{F:Nat->Prop}{β:Pla}{w:World}:∀ (k:Nat) {a b:D} {v:Value},sX k a b=true->R F β w b v->R F β w a v
 |0,a,b,v,h,_=>by simp[sX] at h
 |k+1,a,b,v,h,hv=>by
  unfold sX at h;split at h
  .cases h
  .rename_i e;rw[TG h];exact hv
  .exact hv
  .obtain⟨x,rfl⟩:=hv.z_inv;exact .sln x 0
  .rename_i a b e;cases e;obtain⟨h1,h2⟩:=Ad h;cases hv with
   |agg _ vs hl hh=>
    refine .agg _ vs oG fun j d u hd hu=>?_;obtain⟨C,hb,hg⟩:=h2 j d hd;exact Co k hg (hh j C u hb hu)
  .rename_i a b e;cases e;obtain⟨h1,h2⟩:=Ad h;cases hv with
   |tup _ vs hl hh=>
    refine .tup _ vs oG fun j d u hd hu=>?_;obtain⟨C,hb,hg⟩:=h2 j d hd;exact Co k hg (hh j C u hb hu)
  .rename_i a n b m e;cases e;rw[aM] at h;have Ds:n=m:=Nat.eq_of_beq_eq_true h.1;obtain⟨h1,h2⟩:=Ad h.2;subst Ds;cases hv with
   |sln a' cap=>
    have:a=[]:=List.length_eq_zero_iff.1 (by simpa using h1);subst this;exact .sln _ _
   |sl _ _ C o cap us J M X g4 g5 g6 g7=>
    refine .sl _ _ C o cap us J M X g4 g5 (fun j hj=>g6 j oG) fun j d hd=>?_;obtain⟨d',hb,hg⟩:=h2 j d hd;exact Co k hg (g7 j d' hb)
  .rename_i a b e;cases e;obtain⟨h1,h2⟩:=Ad h;cases hv with
   |pt _ C o us J M X g6 g7=>
    refine .pt _ C o us J M X (fun j hj=>g6 j oG) fun j d hd=>?_;obtain⟨d',hb,hg⟩:=h2 j d hd;exact Co k hg (g7 j d' hb)
  .cases h
theorem PK{P:Program}{f:FuncId}{args args':List D}{r:D}{k:Nat}(hc:PCall P f args' r)(h:lD (sX k) args' args=true)(ht:∀ a∈args,Tr a):PCall P f args r:=by
 obtain⟨h1,h2⟩:=Ad h;refine⟨hc.1,ht,fun F w vs hF hR=>hc.2.2 F w vs hF ⟨by rw[hR.1,h1],fun j d v hd hv=>?_⟩⟩;obtain⟨b,hb,hg⟩:=h2 j d hd;exact Co k hg (hR.2 j b v hb hv)
theorem acI{P:Program}{f:FuncId}{fs C:List D}{xs:List (List D)}{k:Nat}(hc:SeqA P f C [] xs)(h:lD (sX k) C fs=true):SeqA P f fs [] xs:=by
 obtain⟨h1,h2⟩:=Ad h;refine⟨hc.1,fun F l I Stop m nx β w vs J hS hm hn hR hy h0=>hc.2 F l I Stop m nx β w vs J hS hm hn ⟨?_,fun j d v hd hv=>?_⟩ hy h0⟩
 .have:=hR.1;simp only[List.length_append] at this ⊢;omega
 .rcases Nat.lt_or_ge j C.length with g|g
  .rw[List.append_nil,List.getElem?_append_left g] at hd;obtain⟨b,hb,hg⟩:=h2 j d hd;exact Co k hg (hR.2 j b v (by rw[List.append_nil,List.getElem?_append_left oG];exact hb) hv)
  .rw[List.append_nil,List.getElem?_append_right g] at hd;exact hR.2 j d v (by rw[List.append_nil,List.getElem?_append_right oG, <- h1];exact hd) hv
def HH(t:List (FuncId×List D×D))(f:FuncId)(args:List D):Option D:=(t.find? fun x=>Nat.beq x.1 f&&(lD (sX 20) x.2.1 args&&args.all (rF depth))).map (·.2.2)
def H3(t:List (FuncId×List D×List (List D)))(f:FuncId)(fs cs:List D):Option (List (List D)):=match cs with
 |[]=>(t.find? fun x=>Nat.beq x.1 f&&lD (sX 20) x.2.1 fs).map (·.2.2)
 |_=>none
theorem Qq{P:Program}{t:List (FuncId×List D×D)}(h:∀ x∈t,PCall P x.1 x.2.1 x.2.2){f:FuncId}{args:List D}{r:D}(hr:HH t f args=some r):PCall P f args r:=by
 unfold HH at hr;rw[dx] at hr;obtain⟨x,hx,rfl⟩:=hr;have h1:=List.find?_some hx;rw[aM,aM] at h1;have hf:x.1=f:=Nat.eq_of_beq_eq_true h1.1;have:=h x (List.mem_of_find?_eq_some hx);rw[hf] at this;exact PK this h1.2.1 fun a ha=>qQ (bj.1 h1.2.2 a ha)
theorem Ri{P:Program}{t:List (FuncId×List D×List (List D))}(h:∀ x∈t,SeqA P x.1 x.2.1 [] x.2.2/\∀ y∈x.2.2,∀ d∈y,Tr d){f:FuncId}{fs cs:List D}{xs:List (List D)}(hr:H3 t f fs cs=some xs):SeqA P f fs cs xs/\∀ y∈xs,∀ d∈y,Tr d:=by
 unfold H3 at hr;split at hr
 .rw[dx] at hr;obtain⟨x,hx,rfl⟩:=hr;have h1:=List.find?_some hx;rw[aM] at h1;have hf:x.1=f:=Nat.eq_of_beq_eq_true h1.1;have h2:=h x (List.mem_of_find?_eq_some hx);rw[hf] at h2;exact⟨acI h2.1 h1.2,h2.2⟩
 .cases hr
def Dt:Nat->D->D->Bool
 |0,_,_=>false
 |_+1,.s a,.s b=>FN a b
 |_+1,.z,.z=>true
 |k+1,.sl a n,.sl b m=>Nat.beq n m&&lD (Dt k) a b
 |_+1,_,_=>false
theorem R4{g:D->D->Bool}(hg:∀ a b,g a b=true->a=b):∀ {xs bs:List D},lD g xs bs=true->xs=bs
 |[],[],_=>rfl
 |a::xs,b::bs,h=>by
  simp only[lD,aM] at h;rw[hg a b h.1,R4 hg h.2]
 |[],_::_,h=>by simp[lD] at h
 |_::_,[],h=>by simp[lD] at h
theorem afa:∀ (k:Nat) (a b:D),Dt k a b=true->a=b:=fun k=>by
 induction k with
 |zero=>exact fun a b h=>by simp[Dt] at h
 |succ k ih=>
  intro a b h;cases a<;>cases b<;>simp only[Dt,aM,reduceCtorEq,Bool.false_eq_true] at h ⊢
  .rw[TG h]
  .rw[Nat.eq_of_beq_eq_true h.1,R4 ih h.2]
def Ey:Nat->Code->List Code
 |k+1,.seq a b=>a::Ey k b
 |_,_=>[]
def H4:Nat->Code->Code
 |k+1,.seq a b=>H4 k b
 |_,c=>c
theorem parts_eq:∀ (k:Nat) (c:Code),c=(Ey k c).foldr .seq (H4 k c)
 |0,c=>by cases c<;>rfl
 |k+1,c=>by
  cases c with
  |seq a b=>
   show Code.seq a b=.seq a ((Ey k b).foldr .seq (H4 k b));rw[<- parts_eq k b]
  |_=>rfl
def Ez(C:Bool->Code->cB->Option (Exit×cB)):List Code->cB->Option cB
 |[],s=>some s
 |c::cs,s=>match C true c s with
  |some (.normal,s')=>Ez C cs s'
  |_=>none
theorem Qr{P:Program}{M:Bool->Code->cB->Option (Exit×cB)}(C:Cx P M){B:Code}{Q:Exit->St->Prop}:∀ {cs:List Code} {c:Code} {s s':cB},Ez M (c::cs) s=some s'->(∃ st',Ghost P s'.st st'/\AW P noY true B Q st')->AW P noY true ((c::cs).foldr .seq B) Q s.st
 |[],c,s,s',h,k=>by
  simp only[Ez] at h;split at h
  .rename_i J he;cases h;exact eI (fun st=>st=s'.st) (C _ _ _ _ _ he _ rfl) fun st e=>e▸k
  .cases h
 |d::cs,c,s,s',h,k=>by
  rw[Ez] at h;split at h
  .rename_i J he;exact eI (fun st=>st=J.st) (C _ _ _ _ _ he _ rfl) fun st e=>⟨J.st,e▸ .refl _,Qr C h k⟩
  .cases h
section
variable{P:Program}{env:Env}{m:Mem}{nx:Nat}{x y:Operand}{t p:TypeId}{n n':Int}
variable{Y:YSpec}{rf:Bool}{Q:Exit->St->Prop}{st:St}{id iF i1:Nat}{rc:Array Oper}{body:Code}{α:Type}{cf:List (Nat×Nat)}{u:Nat}
end
theorem su{P:Program}{Y:YSpec}{rf:Bool}{b:Code}{Q:Exit->St->Prop}{env:Env}{m:Mem}{nx:Nat}{l:List (Nat×D)}(he:jN l env)(K:∀ M,M=m->AW P Y rf b Q ⟨aD l,M,nx⟩):
 ∃ st',Ghost P ⟨env,m,nx⟩ st'/\AW P Y rf b Q st':=⟨_,ap he,K m rfl⟩
end Go.Abs
namespace Go.Proofs.Tryz.K
set_option maxRecDepth 100000
theorem abe:dH ru=0:=kr
theorem abf:wI ru=xv:=kr
end Go.Proofs.Tryz.K
namespace Go.Argus
def Vm(n:Int):List Int:=n::replicate 18 0
def Vn:D:=.sl (cY ([1,3,3,2,7].map Vm)) 5
def TH:D:=.sl (cY ([3,3,7,2,7].map Vm)) 5
def Ex:List (List D):=[[I 0],[I 1],[I 2],[I 3],[I 4]]
def Xe:List (List bC):=[[],[⟨1,1,0,0,0,[]⟩],[⟨1,2,0,0, -1,[]⟩]]
def M'(f:FuncId)(fs cs:List D):Option (List (List D)):=match H3 [(61,[.pt xv],Ex)] f fs cs with
 |some x=>some x
 |none=>match fs,cs with
  |[],[.pt [e]]=>if Nat.beq f 176 then(Xe.find? fun l=>Dt 10 (iH l) e).map y3 else none
  |_,_=>none
def EA:D:=.sl [.z,.sl [I 1] 1,.sl [I 1] 1,.z,.sl [I 1] 1] 5
end Go.Argus
namespace Go.Proofs.Tryz.K
set_option maxRecDepth 100000
theorem Vo:PCall prog 51 [.agg (aH ru)] (.tup [.pt xv,I 0]):=by
 have h:=HF abe;rw[abf] at h;exact h
theorem Vp:SeqA prog 61 [.pt xv] [] Ex:=xZ (f:=ru) (cnt:=[true,true,true,true,true]) oC
theorem acJ{l:List bC}{y:List D}{d:D}(hy:y∈y3 l)(hd:d∈y):Tr d:=by
 unfold y3 at hy;rw[List.mem_map] at hy;obtain⟨i,_,rfl⟩:=hy;simp only[List.mem_cons,List.not_mem_nil,or_false] at hd;rcases hd with rfl|rfl
 .exact .s _
 .exact .agg (sc _)
theorem ad2{f:FuncId}{fs cs:List D}{xs:List (List D)}(h:M' f fs cs=some xs):SeqA prog f fs cs xs/\∀ y∈xs,∀ d∈y,Tr d:=by
 unfold M' at h;split at h
 .rename_i x hx;cases h
  exact Ri (fun x hx=>by
   simp only[List.mem_singleton] at hx;subst hx;refine⟨Vp,fun y hy d hd=>?_⟩;simp only[Ex,List.mem_cons,List.not_mem_nil,or_false] at hy
   rcases hy with rfl|rfl|rfl|rfl|rfl<;>(simp only[List.mem_singleton] at hd;subst hd;exact .s _)) hx
 .rename_i hn;clear hn;split at h
  .rename_i e;split at h
   .rename_i hf;rw[dx] at h;obtain⟨l,hl,rfl⟩:=h;have hm:=List.mem_of_find?_eq_some hl;have he:=afa 10 _ _ (List.find?_some (p:=fun l=>Dt 10 (iH l) e) hl);subst he;have hf:f=176:=Nat.eq_of_beq_eq_true hf;subst hf
    have hlen:l.length<=100000:=by
     simp only[Xe,List.mem_cons,List.not_mem_nil,or_false] at hm;rcases hm with rfl|rfl|rfl<;>decide
    refine⟨akN hlen,fun y hy d hd=>?_⟩;exact acJ hy hd
   .cases h
  .cases h
noncomputable def Yt:Ctx:=⟨fun f=>E3.get f,M',HH [(51,[.agg (aH ru)],.tup [.pt xv,I 0])]⟩
theorem TI:Yt.Ok prog:=⟨mixed,Ln,fun _ _ _ _ h=>ad2 h,
 fun _ _ _ h=>Qq (fun x hx=>by
  simp only[List.mem_singleton] at hx;subst hx
  exact Vo) h⟩
theorem ag1:PCall prog 65 [.pt xv] (.tup [Vn,TH]):=lS TI 1000 rfl kr
end Go.Proofs.Tryz.K
namespace Go.Proofs.Tryz.K
set_option maxRecDepth 100000
open Go.Abs
theorem afb:H4 6 dQ=.seq (.seq (.region 16 (Z dQ 16) false) (.block 6 (.loop (.seq (.region 17 (Z dQ 17) false) (.seq (.cond (.tmp 83) .skip (.exit 6)) (.seq (.block 7 (.seq (.region 18 (Z dQ 18) false) (.seq (.region 19 (Z dQ 19) false) (.region 20 (Z dQ 20) true)))) (.region 21 (Z dQ 21) false))))))) (.seq (.region 22 (Z dQ 22) false) .ret):=by rw[Xf];rfl
def oD:List (Nat×Row):=[(4,.cells [.z,.rs 11 0 1,.rs 9 0 1,.z,.rs 7 0 1] 27),(5,.cells [.rs 4 0 5] 28),(7,.cells [I 1] 3),(9,.cells [I 1] 3),(11,.cells [I 1] 3)]
noncomputable def Yu:Option cB:=match yL 0 [.agg (aH ru)] .leaf with
 |some t=>Ez (A1 prog Yt 1000) (Ey 6 dQ) ⟨t,.leaf,0⟩
 |none=>none
theorem f39:(Yu.map fun s=>(dO s.env 7,fE s.mem 4,fE s.mem 5,fE s.mem 7,fE s.mem 9,fE s.mem 11,s.nx))=some (.rp 5 0,some (.cells [.z,.rs 11 0 1,.rs 9 0 1,.z,.rs 7 0 1] 27),some (.cells [.rs 4 0 5] 28),some (.cells [I 1] 3),some (.cells [I 1] 3),some (.cells [I 1] 3),12):=kr
end Go.Proofs.Tryz.K
namespace Go.Proofs.Tryz.K
theorem Xg:PCall prog 89 [.z] (.tup []):=lS nM 100 rfl kr
theorem Xh:PCall prog 90 [.z] .z:=lS nM 100 rfl kr
theorem w39:AW prog noY true (.seq (.seq (.region 16 (Z dQ 16) false) (.block 6 (.loop (.seq (.region 17 (Z dQ 17) false) (.seq (.cond (.tmp 83) .skip (.exit 6)) (.seq (.block 7 (.seq (.region 18 (Z dQ 18) false) (.seq (.region 19 (Z dQ 19) false) (.region 20 (Z dQ 20) true)))) (.region 21 (Z dQ 21) false))))))) (.seq (.region 22 (Z dQ 22) false) .ret)) (retQ prog [.tmp 2,.tmp 3] fun d _=>d=.tup [EA,I 0]) ⟨aD [(7,.rp 5 0)],bf oD,12⟩:=by
 refine aB (az (aq ?_));refine af (bR (fun s=>Ghost prog s ⟨aD [(7,.rp 5 0)],bf oD,12⟩) (dV (α:=Nat) (fun k=>⟨aD [(7,.rp 5 0),(81,I 5),(82,I k)],bf oD,12⟩) (fun k=>k<=5) (fun k=>5 - k) 0 (aQ eH eH) (Nat.zero_le _) ?_) ?_)
 .intro k hk;refine SS ?_;refine af ⟨_,rfl,fun h=>?_,fun h=>?_⟩
  .have ao:k<5:=by have h:(k:Int)<5:=by simpa using h
                   omega
   have hc:k=0\/k=3\/k=1\/k=2\/k=4:=by omega
   rcases hc with rfl|rfl|rfl|rfl|rfl
   .have yc:=Xg;have F1:=Xh;refine ws (ag ?_);refine er (aP ?_);refine cl yc (af (pO DG (bB ?_)));refine cl F1 (ag ?_);refine a8 bc (ag ?_);exact af (aK (0+1) (aQ eH eH) oG oG)
   .have yc:=Xg;have F1:=Xh;refine ws (ag ?_);refine er (aP ?_);refine cl yc (af (pO DG (bB ?_)));refine cl F1 (ag ?_);refine a8 bc (ag ?_);exact af (aK (3+1) (aQ eH eH) oG oG)
   .refine ws (ag ?_);refine af (az (aP ?_));refine kO (yc (i:=11) (l:=[1]) oG rfl rfl oC) rfl cv fun d m' nx' hp=>?_;obtain⟨rfl,rfl,rfl⟩:=hp;refine af (aW (aQ (l:=[(7,.rp 5 0),(12,I 1),(81,I 5),(82,I 1)]) (ml:=oD) eH eH) (pO DG (bB ?_)));refine H2 (r:=.rs 11 0 1) (ups:=[(11,some (.cells [I 1] 3))]) (rds:=[11]) (fun C cI J=>?_) (fun i hi=>?_) rfl cv ?_
    .have e:=J 11 oS (by simp[oD,bf]);have e:C 11=some (.cells ([1].map I) 3):=e;refine Hb e CC.he fun M=>(E6 (d:=[1]) M e rfl oC).mono ?_;rintro r m' nx' ⟨h1,h2,h3⟩;exact⟨h2,h3,h1⟩
    .simp at hi;subst hi;exact⟨oS,by simp[oD,bf]⟩
    show AOps _ _ _ _ _ _ _ ⟨up _ 96 _,up (bf oD) 11 (some (.cells [I 1] 3)),_⟩ _;refine ag ?_;refine a8 bc (ag ?_);exact af (aK (1+1) (aQ eH eH) oG oG)
   .refine ws (ag ?_);refine af (az (aP ?_));refine kO (yc (i:=9) (l:=[1]) oG rfl rfl oC) rfl cv fun d m' nx' hp=>?_;obtain⟨rfl,rfl,rfl⟩:=hp;refine af (aW (aQ (l:=[(7,.rp 5 0),(12,I 2),(81,I 5),(82,I 2)]) (ml:=oD) eH eH) (pO DG (bB ?_)));refine H2 (r:=.rs 9 0 1) (ups:=[(9,some (.cells [I 1] 3))]) (rds:=[9]) (fun C cI J=>?_) (fun i hi=>?_) rfl cv ?_
    .have e:=J 9 oS (by simp[oD,bf]);have e:C 9=some (.cells ([1].map I) 3):=e;refine Hb e CC.he fun M=>(E6 (d:=[1]) M e rfl oC).mono ?_;rintro r m' nx' ⟨h1,h2,h3⟩;exact⟨h2,h3,h1⟩
    .simp at hi;subst hi;exact⟨oS,by simp[oD,bf]⟩
    show AOps _ _ _ _ _ _ _ ⟨up _ 96 _,up (bf oD) 9 (some (.cells [I 1] 3)),_⟩ _;refine ag ?_;refine a8 bc (ag ?_);exact af (aK (2+1) (aQ eH eH) oG oG)
   .refine ws (ag ?_);refine af (az (aP ?_));refine kO (yc (i:=7) (l:=[1]) oG rfl rfl oC) rfl cv fun d m' nx' hp=>?_;obtain⟨rfl,rfl,rfl⟩:=hp;refine af (aW (aQ (l:=[(7,.rp 5 0),(12,I 4),(81,I 5),(82,I 4)]) (ml:=oD) eH eH) (pO DG (bB ?_)));refine H2 (r:=.rs 7 0 1) (ups:=[(7,some (.cells [I 1] 3))]) (rds:=[7]) (fun C cI J=>?_) (fun i hi=>?_) rfl cv ?_
    .have e:=J 7 oS (by simp[oD,bf]);have e:C 7=some (.cells ([1].map I) 3):=e;refine Hb e CC.he fun M=>(E6 (d:=[1]) M e rfl oC).mono ?_;rintro r m' nx' ⟨h1,h2,h3⟩;exact⟨h2,h3,h1⟩
    .simp at hi;subst hi;exact⟨oS,by simp[oD,bf]⟩
    show AOps _ _ _ _ _ _ _ ⟨up _ 96 _,up (bf oD) 7 (some (.cells [I 1] 3)),_⟩ _;refine ag ?_;refine a8 bc (ag ?_);exact af (aK (4+1) (aQ eH eH) oG oG)
  .have X:¬ k<5:=by intro hh;simp at h;omega
   exact aQ eH eH
 .intro s hg;refine⟨_,hg,az ?_⟩;refine aq ?_;refine af (aW (bG [(7,[I 1],3),(9,[I 1],3),(11,[I 1],3),(4,[.z,.sl [I 1] 1,.sl [I 1] 1,.z,.sl [I 1] 1],27)] eH (l:=[(2,EA),(3,I 0)]) ⟨?_,rfl,trivial⟩) (fk rfl rfl rfl));show sub (fz0 4 _ (prog.cellsOf 27)) (.rs 4 0 5)=_;exact nB (by rw[Bh];rfl)
theorem ag2:PCall prog 39 [.agg (aH ru)] (.tup [EA,I 0]):=by
 have s7:∀ n,Tr (I n):=fun n=>.s _;have X:Tr (.tup [EA,I 0]):=qQ (n:=5) rfl;refine bg Xi (.cons (.agg (iu ru)) .nil) X ?_;rw[akZ];have h:=f39;unfold Yu at h;cases M:yL 0 [.agg (aH ru)] .leaf with
 |none=>rw[M] at h;cases h
 |some t=>
  rw[M] at h;simp only[dx] at h;obtain⟨s,hs,he⟩:=h;have w9:=PG M
  have aF:(⟨t,.leaf,0⟩:cB).st=⟨envOf [.agg (aH ru)],fun _=>none,0⟩:=by
   unfold cB.st;rw[w9,aaz]
  rw[<- aF,parts_eq 6 dQ]
  have hp:∃ c cs,Ey 6 dQ=c::cs:=by
   rw[Xf];exact⟨_,_,rfl⟩
  obtain⟨c,cs,sS⟩:=hp;rw[sS] at hs ⊢;refine Qr (Tj TI 1000) hs ?_;rw[afb];simp only[bQ] at he;obtain⟨e7,e4,e5,C,e9,sZ,J⟩:=he;refine⟨⟨aD [(7,.rp 5 0)],bf oD,12⟩,?_,w39⟩;have:s.st=⟨dO s.env,fE s.mem,12⟩:=by unfold cB.st;rw[J]
  rw[this];exact aQ ⟨e7,trivial⟩ ⟨e4,e5,C,e9,sZ,trivial⟩
end Go.Proofs.Tryz.K
namespace Go.Proofs.Tryz.K
set_option maxRecDepth 100000
noncomputable def cx2:Ctx:=⟨fun f=>E3.get f,H3 [(61,[.pt xv],Ex)],HH [(51,[.agg (aH ru)],.tup [.pt xv,I 0]),(65,[.pt xv],.tup [Vn,TH]),(39,[.agg (aH ru)],.tup [EA,I 0])]⟩
theorem afc:cx2.Ok prog:=⟨mixed,Ln,fun _ _ _ _ h=>Ri (fun x hx=>by
 simp only[List.mem_singleton] at hx;subst hx;refine⟨Vp,fun y hy d hd=>?_⟩;simp only[Ex,List.mem_cons,List.not_mem_nil,or_false] at hy
 rcases hy with rfl|rfl|rfl|rfl|rfl<;>(simp only[List.mem_singleton] at hd;subst hd;exact .s _)) h,
 fun _ _ _ h=>Qq (fun x hx=>by
  simp only[List.mem_cons,List.not_mem_nil,or_false] at hx;rcases hx with rfl|rfl|rfl
  .exact Vo
  .exact ag1
  .exact ag2) h⟩
theorem Dj:PCall prog 17 [] (B true):=lS afc 1000 rfl kr
end Go.Proofs.Tryz.K
end
namespace Go.Argus
inductive bL(N:Nat->Nat):Nat->Nat->Prop
 |refl (x:Nat):bL N x x
 |up {w x:Nat}:bL N w (N x)->bL N w x
structure ko(V:Nat->Prop)(pl N:Nat->Nat):Prop where
 root:V 0
 mH:N 0=0
 par:∀ x,V x->x≠0->V (N x)/\pl (N x)<pl x
theorem bL.trans{N:Nat->Nat}{w z x:Nat}(h1:bL N w z)(h2:bL N z x):bL N w x:=by
 induction h2 with
 |refl=>exact h1
 |up _ ih=>exact .up ih
theorem bL.inv{N:Nat->Nat}{w x:Nat}(h:bL N w x):w=x\/bL N w (N x):=by
 cases h with
 |refl=>exact .inl rfl
 |up h=>exact .inr h
theorem bL.zero{N:Nat->Nat}(h0:N 0=0){w x:Nat}(h:bL N w x)(hx:x=0):w=0:=by
 induction h with
 |refl=>exact hx
 |up _ ih=>exact ih (by rw[hx,h0])
section
variable{V:Nat->Prop}{pl N O:Nat->Nat}
theorem ko.ind(h:ko V pl N){p:Nat->Prop}(h0:p 0)(hs:∀ x,V x->x≠0->V (N x)->pl (N x)<pl x->p (N x)->p x):∀ x,V x->p x:=by
 have key:∀ k x,pl x<k->V x->p x:=fun k=>by
  induction k with
  |zero=>exact fun x hx=>absurd hx (Nat.not_lt_zero _)
  |succ k ih=>
   intro x hx hv;by_cases C:x=0
   .rw[C];exact h0
   .obtain⟨a,b⟩:=h.par x hv C;exact hs x hv C a b (ih _ oG a)
 exact fun x hv=>key (pl x+1) x (Nat.lt_succ_self _) hv
theorem ko.low(h:ko V pl N){w x:Nat}(hv:V x)(ha:bL N w x):V w/\(w=x\/pl w<pl x):=by
 induction ha with
 |refl=>exact⟨hv,.inl rfl⟩
 |@up x ha ih=>
  by_cases C:x=0
  .subst C;rw[h.mH] at ih;exact ih hv
  .obtain⟨a,b⟩:=h.par x hv C;obtain⟨c,d⟩:=ih a;refine⟨c,.inr ?_⟩;rcases d with d|d
   .rw[d];exact b
   .omega
theorem ko.aej(h:ko V pl N):∀ x,V x->bL N 0 x:=h.ind (.refl 0) fun _ _ _ _ _ ih=>.up ih
theorem shrink(J:ko V pl O)(C:N 0=0)(rel:∀ x,V x->bL N (N x) (O x)):∀ x,V x->∀ w,bL N w x->bL O w x:=
 J.ind (fun w h=>by rw[h.zero C rfl];exact .refl 0) fun x hv _ _ _ ih w h=>by
  rcases h.inv with e|h
  .rw[e];exact .refl x
  .exact .up (ih w (h.trans (rel x hv)))
theorem aiK(C:ko V pl O)(hN:N 0=0)(rel:∀ x,V x->bL N (N x) (O x)):∀ t,V t->∀ z w,bL O z t->bL O w z->bL N w t->bL N w z:=
 C.ind (fun z w h1 _ h3=>by rw[h1.zero C.mH rfl];exact h3) fun t hv hz hp hl ih z w h1 h2 h3=>by
  rcases h1.inv with e|M
  .rw[e];exact h3
  .rcases h3.inv with e|J
   .obtain⟨X,a⟩:=C.low hv h1;obtain⟨_,b⟩:=C.low X h2;rcases a with a|a
    .rw[a];exact h3
    .rcases b with b|b
     .rw[<- b];exact .refl w
     .rw[e] at b;omega
   .exact ih z w M h2 (J.trans (rel t hv))
theorem aiL(C:ko V pl O):∀ x,V x->∀ w,bL O w x->¬ bL N w x->∃ c,V c/\bL O c x/\bL O w c/\N c≠O c/\¬ bL N w c:=
 C.ind (fun w h1 h2=>by
  rw[h1.zero C.mH rfl] at h2
  exact absurd (bL.refl 0) h2) fun x hv X hp _ ih w h1 h2=>by
  by_cases e:N x=O x
  .rcases h1.inv with J|M
   .rw[J] at h2;exact absurd (bL.refl x) h2
   .obtain⟨c,a1,a2,a3,a4,a5⟩:=ih w M fun h=>h2 (.up (by rw[e];exact h));exact⟨c,a1,.up a2,a3,a4,a5⟩
  .exact⟨x,hv,.refl x,h1,e,h2⟩
def kH(N:Nat->Nat)(c q x:Nat):Nat:=if x=c then q else N x
theorem tM(c q:Nat):kH N c q c=q:=if_pos rfl
theorem pZ{c x:Nat}(q:Nat)(h:x≠c):kH N c q x=N x:=if_neg h
theorem ac5(h:ko V pl N){c q:Nat}(J:c≠0)(C:V q)(hl:pl q<pl c):ko V pl (kH N c q):=⟨h.root,by rw[pZ q oG];exact h.mH,fun x hv hx=>by
 by_cases e:x=c
 .subst e;rw[tM];exact⟨C,hl⟩
 .rw[pZ q e];exact h.par x hv hx⟩
theorem K7(h:ko V pl N){c q:Nat}(J:c≠0):∀ x,V x->pl x<pl c->∀ w,(bL (kH N c q) w x↔bL N w x):=
 h.ind (fun _ w=>⟨fun h'=>by rw[h'.zero (by rw[pZ q oG];exact h.mH) rfl];exact .refl 0,fun h'=>by rw[h'.zero h.mH rfl];exact .refl 0⟩) fun x hv _ _ hl ih hx w=>by
  have e:kH N c q x=N x:=pZ q fun e=>by rw[e] at hx;omega
  have ih:=ih oG w;constructor
  .intro h';rcases h'.inv with C|h'
   .rw[C];exact .refl x
   .rw[e] at h';exact .up (ih.1 h')
  .intro h';rcases h'.inv with C|h'
   .rw[C];exact .refl x
   .exact .up (by rw[e];exact ih.2 h')
theorem aek(h:ko V pl N){c q:Nat}(J:V c)(C:c≠0)(hq:bL N q (N c)):∀ x,V x->bL (kH N c q) (kH N c q x) (N x):=fun x hv=>by
 by_cases e:x=c
 .subst e;rw[tM];obtain⟨a,b⟩:=h.par x J C;exact(K7 h C (N x) a b q).2 hq
 .rw[pZ q e];exact .refl _
def vH(pl N:Nat->Nat):Nat->Nat->Nat->Nat
 |0,x,_=>x
 |k+1,x,a=>if x=a then x else if pl a<pl x then vH pl N k (N x) a else vH pl N k x (N a)
theorem Kx(h:ko V pl N)(h0:pl 0=0)(inj:∀ x a,V x->V a->pl x=pl a->x=a):∀ (k x a:Nat),V x->V a->pl x+pl a<k->
 V (vH pl N k x a)/\bL N (vH pl N k x a) x/\bL N (vH pl N k x a) a/\∀ w,bL N w x->bL N w a->bL N w (vH pl N k x a)
 |0,x,a,_,_,hk=>absurd hk (Nat.not_lt_zero _)
 |k+1,x,a,vx,va,hk=>by
  rw[vH];split
  .rename_i e;subst e;exact⟨vx,.refl x,.refl x,fun w h _=>h⟩
  .rename_i e;split
   .rename_i hl;have hz:x≠0:=fun e=>by rw[e,h0] at hl;omega
    obtain⟨p1,p2⟩:=h.par x vx hz;obtain⟨q1,q2,q3,q4⟩:=Kx h h0 inj k (N x) a p1 va oG;refine⟨q1,.up q2,q3,fun w J M=>?_⟩;rcases J.inv with C|X
    .obtain⟨_,b⟩:=h.low va M;rcases b with b|b
     .exact absurd (C.symm.trans b) e
     .rw[C] at b;omega
    .exact q4 w X M
   .rename_i hl;have aE:pl x≠pl a:=fun C=>e (inj x a vx va C);have hz:a≠0:=fun e=>by rw[e,h0] at aE hl;omega
    obtain⟨p1,p2⟩:=h.par a va hz;obtain⟨q1,q2,q3,q4⟩:=Kx h h0 inj k x (N a) vx p1 oG;refine⟨q1,q2,.up q3,fun w J M=>?_⟩;rcases M.inv with C|g2'
    .obtain⟨_,b⟩:=h.low vx J;rcases b with b|b
     .exact absurd (b.symm.trans C) e
     .rw[C] at b;omega
    .exact q4 w J g2'
end
structure z3(E:Nat->Nat->Prop)(R:Nat->Prop)(pl:Nat->Nat):Prop where
 root:R 0
 next:∀ a c,E a c->R a->R c
 inj:∀ x a,R x->R a->pl x=pl a->x=a
 qG:pl 0=0
 pre:∀ c,c≠0->R c->∃ t,E t c/\R t/\pl t<pl c
inductive Av(E:Nat->Nat->Prop)(w:Nat):Nat->Prop
 |zero:0≠w->Av E w 0
 |step {x c:Nat}:Av E w x->E x c->c≠w->Av E w c
section
variable{E:Nat->Nat->Prop}{R:Nat->Prop}{pl:Nat->Nat}
theorem Av.reach(hg:z3 E R pl){w x:Nat}(h:Av E w x):R x:=by
 induction h with
 |zero=>exact hg.root
 |step _ e _ ih=>exact hg.next _ _ e ih
structure vI(E:Nat->Nat->Prop)(R:Nat->Prop)(pl O:Nat->Nat):Prop where
 tree:ko R pl O
 i1:∀ c,R c->c≠0->∀ w,(∀ a,E a c->R a->bL O w a)->bL O w (O c)
 i2:∀ c,R c->c≠0->∃ t,E t c/\R t/\pl t<pl c/\bL O (O c) t
 i3:∀ x,R x->∀ w,¬ Av E w x->bL O w x
structure AU(E:Nat->Nat->Prop)(R:Nat->Prop)(pl O N:Nat->Nat)(k:Nat):Prop where
 pI:vI E R pl O
 tree:ko R pl N
 rel:∀ x,R x->bL N (N x) (O x)
 Jo:∀ x,R x->k<=pl x->N x=O x
 m3:∀ c,R c->c≠0->pl c<k->∀ w,(∀ a,E a c->R a->bL N w a)->bL N w (N c)
 m4:∀ c,R c->c≠0->pl c<k->∃ t,E t c/\R t/\pl t<pl c/\bL N (N c) t
 m5:∀ x,R x->pl x<k->∀ w,¬ Av E w x->bL N w x
theorem vI.start(hg:z3 E R pl){O:Nat->Nat}(h:vI E R pl O):AU E R pl O O 1:=⟨h,h.tree,fun x _=>.refl _,fun _ _ _=>rfl,fun c rc C hl=>absurd (hg.inj c 0 rc hg.root (by rw[hg.qG];omega)) C,
 fun c rc C hl=>absurd (hg.inj c 0 rc hg.root (by rw[hg.qG];omega)) C,fun x M _ w J=>h.i3 x M w J⟩
theorem AU.fin{O N:Nat->Nat}{k:Nat}(h:AU E R pl O N k)(hk:∀ x,R x->pl x<k):vI E R pl N:=⟨h.tree,fun c rc C=>h.m3 c rc C (hk c rc),fun c rc C=>h.m4 c rc C (hk c rc),fun x J=>h.m5 x J (hk x J)⟩
theorem vI.down{O:Nat->Nat}(h:vI E R pl O)(hg:z3 E R pl){c w:Nat}(hc:Av E w c)(C:pl w<pl c):∀ k x,pl x<k->R x->bL O c x->Av E w x
 |0,x,hk,_,_=>absurd hk (Nat.not_lt_zero _)
 |k+1,x,hk,rx,ha=>by
  rcases ha.inv with e|M
  .rw[<- e];exact hc
  .by_cases J:x=0
   .subst J;rw[<- ha.zero h.tree.mH rfl];exact hc
   .obtain⟨t,e1,e2,e3,e4⟩:=h.i2 x rx J;refine .step (h.down hg hc C k t oG e2 (M.trans e4)) e1 fun e=>?_;obtain⟨_,b⟩:=h.tree.low rx ha;rw[e] at b;rcases b with b|b
    .rw[b] at C;omega
    .omega
theorem AU.step(hg:z3 E R pl){O N:Nat->Nat}{k c q:Nat}(h:AU E R pl O N k)(rc:R c)(hz:c≠0)(hk:pl c=k)(rq:R q)
 (hq:∀ a,E a c->R a->bL N q a) (hm:∀ w,(∀ a,E a c->R a->bL N w a)->bL N w q):
 bL N q (N c)/\AU E R pl O (kH N c q) (k+1):=by
 have M:=h.pI;have e:=h.Jo c rc oG;have sh:=shrink M.tree h.tree.mH h.rel
 have up:bL N q (N c):=by
  rw[e];obtain⟨t,e1,e2,_,e4⟩:=M.i2 c rc hz;exact aiK M.tree h.tree.mH h.rel t e2 (O c) q e4 (M.i1 c rc hz q fun a X ra=>sh a ra q (hq a X ra)) (hq t e1 e2)
 obtain⟨p1,p2⟩:=h.tree.par c rc hz;obtain⟨_,q2⟩:=h.tree.low p1 up
 have ql:pl q<pl c:=by
  rcases q2 with q2|q2
  .rw[q2];exact p2
  .omega
 have tr:=ac5 h.tree hz rq ql;have rl:=aek h.tree rc hz up;have YQ:=shrink h.tree tr.mH rl;have pd:=fun x C hl w=>K7 (q:=q) h.tree hz x C hl w;have VP:∀ w,bL (kH N c q) w q↔bL N w q:=fun w=>pd q rq ql w;refine⟨up,M,tr,fun x C=>?_,fun x C hx=>?_,fun x C xz hx w hw=>?_,fun x C xz hx=>?_,fun x C hx w hw=>?_⟩
 .by_cases J:x=c
  .subst J;have:=rl x C
   rwa[e] at this
  .rw[pZ q J];rcases Nat.lt_or_ge (pl x) (pl c) with g|g
   .by_cases xz:x=0
    .subst xz;rw[M.tree.mH,h.tree.mH];exact .refl 0
    .obtain⟨o1,o2⟩:=M.tree.par x C xz;exact(pd (O x) o1 oG _).2 (h.rel x C)
   .rw[h.Jo x C oG];exact .refl _
 .rw[pZ q fun e'=>by rw[e'] at hx;omega];exact h.Jo x C oG
 .by_cases J:x=c
  .subst J;rw[tM,VP];exact hm w fun a X ra=>YQ a ra w (hw a X ra)
  .have mD:pl x<k:=by
    rcases Nat.lt_or_ge (pl x) k with g|g
    .exact g
    .exact absurd (hg.inj x c C rc oG) J
   obtain⟨o1,o2⟩:=h.tree.par x C xz;rw[pZ q J,pd (N x) o1 oG];exact h.m3 x C xz mD w fun a X ra=>YQ a ra w (hw a X ra)
 .by_cases J:x=c
  .subst J;obtain⟨t,e1,e2,e3⟩:=hg.pre x hz rc;refine⟨t,e1,e2,e3,?_⟩;rw[tM,pd t e2 e3];exact hq t e1 e2
  .have mD:pl x<k:=by
    rcases Nat.lt_or_ge (pl x) k with g|g
    .exact g
    .exact absurd (hg.inj x c C rc oG) J
   obtain⟨t,e1,e2,e3,e4⟩:=h.m4 x C xz mD;refine⟨t,e1,e2,e3,?_⟩;rw[pZ q J,pd t e2 oG];exact e4
 .by_cases J:x=c
  .subst J;by_cases ew:w=x
   .subst ew;exact .refl w
   .refine .up ?_;rw[tM,VP];refine hm w fun a X ra=>?_;have YR:¬ Av E w a:=fun ha=>hw (.step ha X fun e=>ew e.symm);by_cases Br:bL N w a
    .exact Br
    .exfalso;obtain⟨d,d1,d2,d3,d4,d5⟩:=aiL (N:=N) M.tree a ra w (M.i3 a ra w YR) Br
     have hdk:pl d<k:=by
      rcases Nat.lt_or_ge (pl d) k with g|g
      .exact g
      .exact absurd (h.Jo d d1 g) d4
     have O1:Av E w d:=by
      refine Classical.byContradiction fun hn=>?_;exact d5 (h.m5 d d1 hdk w hn)
     have hl:pl w<pl d:=by
      obtain⟨_,b⟩:=M.tree.low d1 d3;rcases b with b|b
      .rw[b] at d5;exact absurd (.refl d) d5
      .exact b
     exact YR (M.down hg O1 hl _ a (Nat.lt_succ_self _) ra d2)
  .have mD:pl x<k:=by
    rcases Nat.lt_or_ge (pl x) k with g|g
    .exact g
    .exact absurd (hg.inj x c C rc oG) J
   rw[pd x C oG];exact h.m5 x C mD w hw
structure zn(E:Nat->Nat->Prop)(R:Nat->Prop)(pl N:Nat->Nat)(k:Nat):Prop where
 tree:ko (fun x=>R x/\pl x<k) pl N
 m3:∀ c,R c->c≠0->pl c<k->∀ w,(∀ a,E a c->R a->pl a<pl c->bL N w a)->bL N w (N c)
 m4:∀ c,R c->c≠0->pl c<k->∃ t,E t c/\R t/\pl t<pl c/\bL N (N c) t
 m5:∀ x,R x->pl x<k->∀ w,¬ Av E w x->bL N w x
theorem zn.start(hg:z3 E R pl){N:Nat->Nat}(h:N 0=0):zn E R pl N 1:=by
 have key:∀ c,R c->pl c<1->c=0:=fun c rc hl=>hg.inj c 0 rc hg.root (by rw[hg.qG];omega);refine⟨⟨⟨hg.root,by rw[hg.qG];omega⟩,h,fun x hx C=>absurd (key x hx.1 hx.2) C⟩,fun c rc C hl=>absurd (key c rc hl) C,fun c rc C hl=>absurd (key c rc hl) C,fun x X hl w M=>?_⟩;have e:=key x X hl;subst e;by_cases J:w=0
 .rw[J];exact .refl 0
 .exact absurd (.zero fun e=>J e.symm) M
theorem zn.fin{N:Nat->Nat}{k:Nat}(h:zn E R pl N k)(hk:∀ x,R x->pl x<k):vI E R pl N:=
 ⟨⟨h.tree.root.1,h.tree.mH,fun x C J=>⟨(h.tree.par x ⟨C,hk x C⟩ J).1.1,(h.tree.par x ⟨C,hk x C⟩ J).2⟩⟩,fun c rc J w X=>h.m3 c rc J (hk c rc) w fun a M ra _=>X a M ra,fun c rc J=>h.m4 c rc J (hk c rc),fun x C=>h.m5 x C (hk x C)⟩
theorem zn.step(hg:z3 E R pl){N:Nat->Nat}{k c q:Nat}(h:zn E R pl N k)(rc:R c)(hz:c≠0)(hk:pl c=k)(rq:R q)
 (hq:∀ a,E a c->R a->pl a<k->bL N q a) (hm:∀ w,(∀ a,E a c->R a->pl a<k->bL N w a)->bL N w q):zn E R pl (kH N c q) (k+1):=by
 obtain⟨t,t1,t2,t3⟩:=hg.pre c hz rc;obtain⟨⟨_,q1⟩,q2⟩:=h.tree.low (w:=q) (x:=t) ⟨t2,oG⟩ (hq t t1 t2 oG);have M:=fun x (J:R x) (hl:pl x<k) w=>K7 (q:=q) h.tree hz x ⟨J,hl⟩ (by omega:pl x<pl c) w
 have pI:∀ x,R x->x≠c->pl x<k+1->pl x<k:=fun x J C hx=>by
  rcases Nat.lt_or_ge (pl x) k with g|g
  .exact g
  .exact absurd (hg.inj x c J rc oG) C
 refine⟨⟨⟨hg.root,by rw[hg.qG];omega⟩,by rw[pZ q oG];exact h.tree.mH,fun x hx X=>?_⟩,fun x J X hx w hw=>?_,fun x J X hx=>?_,fun x J hx w hw=>?_⟩
 .by_cases C:x=c
  .subst C;rw[tM];exact⟨⟨rq,oG⟩,oG⟩
  .obtain⟨a,b⟩:=h.tree.par x ⟨hx.1,pI x hx.1 C hx.2⟩ X;rw[pZ q C];exact⟨⟨a.1,oG⟩,b⟩
 .by_cases C:x=c
  .subst C;rw[tM,M q rq q1];exact hm w fun a ea ra hl=>(M a ra hl w).1 (hw a ea ra oG)
  .have mD:=pI x J C hx;obtain⟨o1,o2⟩:=h.tree.par x ⟨J,mD⟩ X;rw[pZ q C,M (N x) o1.1 o1.2];exact h.m3 x J X mD w fun a ea ra hl=>(M a ra oG w).1 (hw a ea ra hl)
 .by_cases C:x=c
  .subst C;refine⟨t,t1,t2,t3,?_⟩;rw[tM,M t t2 oG];exact hq t t1 t2 oG
  .have mD:=pI x J C hx;obtain⟨t,e1,e2,e3,e4⟩:=h.m4 x J X mD;refine⟨t,e1,e2,e3,?_⟩;rw[pZ q C,M t e2 oG];exact e4
 .by_cases C:x=c
  .subst C;by_cases ew:w=x
   .subst ew;exact .refl w
   .refine .up ?_;rw[tM,M q rq q1];exact hm w fun a ea ra hl=>h.m5 a ra hl w fun ha=>hw (.step ha ea fun e=>ew e.symm)
  .rw[M x J (pI x J C hx)];exact h.m5 x J (pI x J C hx) w hw
theorem vI.vM(hg:z3 E R pl){O:Nat->Nat}(h:vI E R pl O)(hf:∀ c,R c->c≠0->∀ a,E a c->R a->bL O (O c) a){w x:Nat}(M:R x):bL O w x↔¬ Av E w x:=by
 refine⟨fun ha X=>?_,h.i3 x M w⟩
 induction X with
 |zero hw=>exact hw (ha.zero h.tree.mH rfl).symm
 |@step x c hx e hc ih=>
  have J:=hx.reach hg;rcases ha.inv with e'|z4
  .exact hc e'.symm
  .by_cases C:c=0
   .exact hc (C.trans (ha.zero h.tree.mH C).symm)
   .exact ih J (z4.trans (hf c M C x e J))
end
def qk(beh:Nat->List Int)(l J:List Int):Prop:=∀ M x C,l=M++x::C->x∈J\/∃ t∈C,0<=t/\x∈beh t.toNat
theorem qk.nil{beh:Nat->List Int}{C:List Int}:qk beh [] C:=fun J x M h=>by simp at h
theorem qk.mono{beh:Nat->List Int}{l J C:List Int}(h:qk beh l J)(hs:∀ x∈J,x∈C):qk beh l C:=fun M x X e=>(h M x X e).imp (hs x) id
theorem qk.app{beh:Nat->List Int}{l l' C:List Int}(h:qk beh l C)(h':qk beh l' C):qk beh (l++l') C:=fun M x J e=>by
 rcases List.append_eq_append_iff.1 e with⟨a,e1,e2⟩|⟨a,e1,e2⟩
 .exact h' a x J e2
 .cases a with
  |nil=>
   simp only[List.nil_append] at e2;exact h' [] x J e2.symm
  |cons y a=>
   simp only[List.cons_append,List.cons.injEq] at e2;obtain⟨rfl,rfl⟩:=e2;exact(h M x a e1).imp id fun⟨t,ht,r⟩=>⟨t,List.mem_append_left _ ht,r⟩
theorem qk.last{beh:Nat->List Int}{l:List Int}{b:Nat}(h:qk beh l (beh b)):qk beh (l++[(b:Int)]) [(b:Int)]:=fun C x J e=>by
 rcases List.append_eq_append_iff.1 e with⟨a,e1,e2⟩|⟨a,e1,e2⟩
 .cases a with
  |nil=>
   simp only[List.nil_append,List.cons.injEq] at e2;exact .inl (by simp[e2.1])
  |cons y a=>simp at e2
 .cases a with
  |nil=>
   simp only[List.nil_append,List.cons.injEq] at e2;exact .inl (by simp[e2.1])
  |cons y a=>
   simp only[List.cons_append,List.cons.injEq] at e2;obtain⟨rfl,rfl⟩:=e2;rcases h C x a e1 with h|⟨t,ht,r⟩
   .exact .inr ⟨b,oS,oG,by simpa using h⟩
   .exact .inr ⟨t,List.mem_append_left _ ht,r⟩
theorem SM{beh:Nat->List Int}{w:Int}(hb:∀ b,∀ c∈beh b,0<=c):∀ (k:Nat) (s:List Bool×List Int) (b:Nat),∃ l,(eO beh w k s b).2=s.2++l/\qk beh l [(b:Int)]
 |0,s,b=>⟨[],by simp[eO],.nil⟩
 |k+1,s,b=>by
  have hF:∀ cs:List Int,(∀ c∈cs,0<=c)->∀ s:List Bool×List Int,∃ l,(dZ beh w k s cs).2=s.2++l/\qk beh l cs:=fun cs=>by
   induction cs using Hm with
   |h0=>exact fun _ s=>⟨[],by simp[dZ],.nil⟩
   |h1 cs c ih=>
    intro hc s;obtain⟨l,e,h⟩:=ih (fun c h=>hc c (by simp[h])) s;rw[GP];split
    .obtain⟨l',C,h'⟩:=SM hb k (dZ beh w k s cs) c.toNat;refine⟨l++l',by rw[C,e,List.append_assoc],(h.mono fun x hx=>by simp[hx]).app (h'.mono fun x hx=>?_)⟩;have:=hc c oS;simp only[List.mem_singleton] at hx;rw[hx,Int.toNat_of_nonneg this];simp
    .exact⟨l,e,h.mono fun x hx=>by simp[hx]⟩
  rw[wl];obtain⟨l,e,h⟩:=hF (beh b) (hb b) (s.1.set b true,s.2);exact⟨l++[(b:Int)],by simp only;rw[e,List.append_assoc],h.last⟩
section
variable{beh:Nat->List Int}{n:Nat}(hb:∀ b,∀ c∈beh b,0<=c/\c.toNat<n)(hn:0<n)
include hb hn
theorem Bw:∃ t,cS beh n=0::t:=by
 obtain⟨k,rfl⟩:∃ k,n=k+1:=⟨n - 1,oG⟩
 refine⟨_,by unfold cS;rw[wl,List.reverse_append];rfl⟩
omit hn in
theorem abF{i:Nat}{x:Int}(hx:(cS beh n)[i]? =some x)(h0:x≠0):∃ j t,j<i/\(cS beh n)[j]? =some t/\0<=t/\x∈beh t.toNat:=by
 obtain⟨l,e,h⟩:=SM (w:= -1) (fun b c hc=>(hb b c hc).1) n (replicate n false,[]) 0;have C:cS beh n=l.reverse:=by unfold cS;rw[e];rfl
 rw[C] at hx ⊢;obtain⟨hi,hx⟩:=bw.1 hx;rw[List.length_reverse] at hi;rw[List.getElem_reverse] at hx;have hk:l.length - 1 - i<l.length:=by omega
 rcases h (l.take (l.length - 1 - i)) x (l.drop (l.length - 1 - i+1)) (by rw[<- hx, <- List.drop_eq_getElem_cons hk,List.take_append_drop]) with h|⟨t,ht,r⟩
 .simp at h;exact absurd h h0
 .obtain⟨m,hm⟩:=cC ht;rw[List.getElem?_drop] at hm;obtain⟨J,hm⟩:=bw.1 hm;refine⟨l.length - 1 - (l.length - 1 - i+1+m),t,oG,?_,r⟩;rw[aN (by rw[List.length_reverse];omega),List.getElem_reverse];congr 1;rw[<- hm];congr 1;omega
end
def uF(ord:List Int)(n:Nat):Nat->List Int
 |0=>replicate n 0
 |i+1=>(uF ord n i).set (ord.getD i 0).toNat i
def B6(ord:List Int)(n:Nat):List Int:=uF ord n ord.length
theorem Hq{ord:List Int}{n:Nat}:∀ i,(uF ord n i).length=n
 |0=>by simp[uF]
 |i+1=>by simp[uF,Hq i]
theorem SN{ord:List Int}{n:Nat}(nd:ord.Nodup)(C:∀ b∈ord,0<=b/\b.toNat<n):∀ i,i<=ord.length->∀ j b,j<i->ord[j]? =some b->(uF ord n i).getD b.toNat 0=j
 |0,_,j,_,h,_=>absurd h (Nat.not_lt_zero j)
 |i+1,hi,j,b,hj,hb=>by
  have hl:i<ord.length:=hi;have ha:=aN hl;have hd:ord.getD i 0=ord[i]:=by rw[bl,ha];rfl
  rw[uF,hd,bl,List.getElem?_set];have X:=C _ (cy hl);by_cases e:j=i
  .subst e;rw[ha] at hb;cases hb;rw[if_pos rfl,if_pos (by rw[Hq];exact X.2)];rfl
  .have J:¬ ord[i].toNat=b.toNat:=fun e'=>by
    obtain⟨pv,e2⟩:=bw.1 hb;have M:=C b (e2▸cy pv);have:ord[i]=ord[j]:=by rw[e2];omega
    have:=(List.getElem_inj nd).1 this;omega
   rw[if_neg J, <- List.getD_eq_getElem?_getD];exact SN nd C i oG j b oG hb
theorem QB{ord:List Int}{n:Nat}(nd:ord.Nodup)(C:∀ b∈ord,0<=b/\b.toNat<n){j:Nat}{b:Int}(h:ord[j]? =some b):(B6 ord n).getD b.toNat 0=j:=by
 obtain⟨hj,_⟩:=bw.1 h;exact SN nd C _ (bF _) j b hj h
theorem Qs{ord:List Int}{n:Nat}:(B6 ord n).length=n:=Hq _
def dD(out:List Int)(x:Int):Int:=out.getD x.toNat (-1)
def mF(pl:List Int)(x:Int):Int:=pl.getD x.toNat 0
def vD(pl out:List Int):Nat->Int->Int->Int
 |0,x,_=>x
 |k+1,x,a=>if x=a then x else if mF pl a<mF pl x then vD pl out k (dD out x) a else vD pl out k x (dD out a)
def mb(pl out:List Int)(nx a:Int):Int:=if dD out a= -1 then nx else if nx= -1 then a else vD pl out (2*pl.length) nx a
def nX(pl out l:List Int):Int:=l.foldl (mb pl out) (-1)
def ku(pl:List Int)(ahd:Nat->List Int)(s:List Int×Bool)(b:Int):List Int×Bool:=
 if dD s.1 b=nX pl s.1 (ahd b.toNat) then s else(s.1.set b.toNat (nX pl s.1 (ahd b.toNat)),true)
def sf(pl:List Int)(ahd:Nat->List Int)(rest out:List Int):List Int×Bool:=rest.foldl (ku pl ahd) (out,false)
def Hw(pl:List Int)(ahd:Nat->List Int)(rest:List Int):Nat->List Int->List Int
 |0,out=>out
 |k+1,out=>if(sf pl ahd rest out).2=true then Hw pl ahd rest k (sf pl ahd rest out).1 else(sf pl ahd rest out).1
def l7(n:Nat):List Int:=(replicate n (-1)).set 0 0
def dJ(out:List Int)(x:Nat):Nat:=(dD out x).toNat
structure Cs(V:Nat->Prop)(n:Nat)(out:List Int):Prop where
 len:out.length=n
 set:∀ x,V x->0<=dD out x
 un:∀ x:Nat,¬ V x->dD out x= -1
theorem Am{out:List Int}{b x:Nat}{q:Int}(h:b<out.length):dD (out.set b q) x=if x=b then q else dD out x:=by
 unfold dD;simp only[bN,bl,List.getElem?_set];by_cases e:b=x
 .subst e;simp[h]
 .rw[if_neg e,if_neg fun C=>e C.symm]
theorem Rp{out:List Int}{b q:Nat}(h:b<out.length):dJ (out.set b (q:Int))=kH (dJ out) b q:=by
 funext x;unfold dJ kH;rw[Am h];split<;>simp
section
variable{V:Nat->Prop}{plL out:List Int}{pl:Nat->Nat}{n:Nat}
theorem Ls(hp:∀ x:Nat,V x->mF plL x=pl x)(hg:Cs V n out)(ht:ko V pl (dJ out))(h0:pl 0=0)(inj:∀ x a,V x->V a->pl x=pl a->x=a):
 ∀ (k x a:Nat),V x->V a->vD plL out k x a=(vH pl (dJ out) k x a:Nat)
 |0,x,a,_,_=>rfl
 |k+1,x,a,vx,va=>by
  have M:dD out x=(dJ out x:Nat):=by unfold dJ;rw[Int.toNat_of_nonneg (hg.set x vx)]
  have J:dD out a=(dJ out a:Nat):=by unfold dJ;rw[Int.toNat_of_nonneg (hg.set a va)]
  rw[vD,vH,hp x vx,hp a va,M,J];have e1:((x:Int)=a)=(x=a):=propext Int.natCast_inj;have e2:((pl a:Int)<pl x)=(pl a<pl x):=propext Int.ofNat_lt;simp only[e1,e2];split
  .rfl
  .rename_i C;split
   .rename_i hl;exact Ls hp hg ht h0 inj k _ a (ht.par x vx fun e=>by rw[e,h0] at hl;omega).1 va
   .rename_i hl
    exact Ls hp hg ht h0 inj k x _ vx (ht.par a va fun e=>by
     subst e
     exact C (inj x 0 vx va oG)).1
theorem K8(hp:∀ x:Nat,V x->mF plL x=pl x)(hn:∀ x,V x->pl x<plL.length)(hg:Cs V n out)(ht:ko V pl (dJ out))(h0:pl 0=0)(inj:∀ x a,V x->V a->pl x=pl a->x=a)
 {l:List Int} (hl:∀ a∈l,0<=a):(nX plL out l= -1/\∀ a∈l,¬ V a.toNat)\/
 ∃ q:Nat,nX plL out l=q/\V q/\(∀ a∈l,V a.toNat->bL (dJ out) q a.toNat)/\∀ w,(∀ a∈l,V a.toNat->bL (dJ out) w a.toNat)->bL (dJ out) w q:=by
 induction l using Hm with
 |h0=>exact .inl ⟨rfl,fun a h=>by simp at h⟩
 |h1 l a ih=>
  have ih:=ih fun a h=>hl a (by simp[h]);have ha:=hl a oS;have e:nX plL out (l++[a])=mb plL out (nX plL out l) a:=by unfold nX;rw[List.foldl_append];rfl
  rw[e];have M:∀ x∈l++[a],x∈l\/x=a:=fun x hx=>by simpa using hx
  have X:∀ x∈l,x∈l++[a]:=fun x hx=>by simp[hx]
  obtain⟨m,rfl⟩:=cU ha;by_cases hv:V m
  .have hs:¬ dD out (m:Int)= -1:=by have:=hg.set m hv;omega
   rcases ih with⟨h1,h2⟩|⟨q,h1,h2,h3,h4⟩
   .refine .inr ⟨m,by unfold mb;rw[if_neg hs,if_pos h1],hv,fun x hx C=>?_,fun w J=>by simpa using J m oS hv⟩;rcases M x hx with h|h
    .exact absurd C (h2 x h)
    .subst h;exact .refl _
   .have hk:pl q+pl m<2*plL.length:=by have:=hn q h2;have:=hn m hv;omega
    obtain⟨s1,s2,s3,s4⟩:=Kx ht h0 inj (2*plL.length) q m h2 hv hk;refine .inr ⟨vH pl (dJ out) (2*plL.length) q m,?_,s1,fun x hx C=>?_,fun w J=>?_⟩
    .unfold mb;rw[if_neg hs,h1,if_neg oG,Ls hp hg ht h0 inj _ q m h2 hv]
    .rcases M x hx with h|h
     .exact s2.trans (h3 x h C)
     .subst h;exact s3
    .exact s4 w (h4 w fun x hx=>J x (X x hx)) (by simpa using J m oS hv)
  .have hs:dD out (m:Int)= -1:=hg.un m hv;have e':mb plL out (nX plL out l) (m:Int)=nX plL out l:=by unfold mb;rw[if_pos hs]
   rw[e'];rcases ih with⟨h1,h2⟩|⟨q,h1,h2,h3,h4⟩
   .refine .inl ⟨h1,fun x hx C=>?_⟩;rcases M x hx with h|h
    .exact h2 x h C
    .subst h;exact hv C
   .refine .inr ⟨q,h1,h2,fun x hx C=>?_,fun w J=>h4 w fun x hx=>J x (X x hx)⟩;rcases M x hx with h|h
    .exact h3 x h C
    .subst h;exact absurd C hv
end
structure ud(beh ahd:Nat->List Int)(n:Nat):Prop where
 pos:0<n
 to:∀ b,∀ c∈beh b,0<=c/\c.toNat<n
 rK:∀ (c:Nat) (a:Int),a∈ahd c↔0<=a/\a.toNat<n/\(c:Int)∈beh a.toNat
def iZ(beh:Nat->List Int)(a c:Nat):Prop:=(c:Int)∈beh a
def bM(beh:Nat->List Int)(n x:Nat):Prop:=(cO beh n (-1)).getD x false=true
def plL(beh:Nat->List Int)(n:Nat):List Int:=B6 (cS beh n) n
def eF(beh:Nat->List Int)(n x:Nat):Nat:=(mF (plL beh n) x).toNat
section
variable{beh ahd:Nat->List Int}{n:Nat}(h:ud beh ahd n)
include h
theorem K9{x:Nat}:(x:Int)∈cS beh n↔bM beh n x:=by
 rw[J3 h.to h.pos];simp[bM]
theorem BQ:∀ b∈cS beh n,0<=b/\b.toNat<n:=fun b hb=>by
 have hb:=(J3 h.to h.pos).1 hb;refine⟨hb.1,?_⟩;have hl:=wk (w:= -1) h.to h.pos;rcases Nat.lt_or_ge b.toNat n with g|g
 .exact g
 .rw[bl,List.getElem?_eq_none oG] at hb;simp at hb
theorem B8{x:Nat}(hx:bM beh n x):x<n:=by simpa using(BQ h x ((K9 h).2 hx)).2
theorem BV{x:Nat}(hx:bM beh n x):∃ i:Nat,(cS beh n)[i]? =some (x:Int)/\mF (plL beh n) x=i/\eF beh n x=i:=by
 obtain⟨i,hi⟩:=cC ((K9 h).2 hx);have:=QB (JF h.to h.pos) (BQ h) hi;exact⟨i,hi,this,by unfold eF mF plL;rw[this];rfl⟩
theorem afo{x:Nat}(hx:bM beh n x):mF (plL beh n) x=eF beh n x:=by
 obtain⟨i,_,a,b⟩:=BV h hx;rw[a,b]
theorem Lt{i:Nat}{x:Int}(hi:(cS beh n)[i]? =some x):∃ m:Nat,x=m/\bM beh n m/\eF beh n m=i:=by
 have hm:=bU hi;obtain⟨m,rfl⟩:=cU (BQ h x hm).1;refine⟨m,rfl,(K9 h).1 hm,?_⟩;have:=QB (JF h.to h.pos) (BQ h) hi;unfold eF mF plL;rw[this];rfl
theorem EC:(cS beh n).length<=n:=by
 have M:(replicate n false).getD 0 false=false:=by rw[bl,List.getElem?_replicate];split<;>rfl
 have nd:=JF h.to h.pos;have hr:=BQ h
 have J:((cS beh n).map Int.toNat).Nodup:=by
  rw[List.nodup_iff_pairwise_ne,List.pairwise_map];refine(List.Pairwise.and_mem.1 nd).imp fun {a b} C e=>?_;have:=hr a C.1;have:=hr b C.2.1;exact C.2.2 oG
 have:=List.Nodup.length_le_of_subset J (l₂:=range n) fun x hx=>by
  obtain⟨y,hy,rfl⟩:=List.mem_map.1 hx;exact List.mem_range.2 (hr y hy).2
 simpa using this
theorem EK{x:Nat}(hx:bM beh n x):eF beh n x<(cS beh n).length:=by
 obtain⟨i,a,_,b⟩:=BV h hx;rw[b];exact(bw.1 a).1
theorem wj:z3 (iZ beh) (bM beh n) (eF beh n):=by
 obtain⟨t,ht⟩:=Bw h.to h.pos;have C:(cS beh n)[0]? =some ((0:Nat):Int):=by rw[ht];rfl
 obtain⟨m,e,hm,hp⟩:=Lt h C;have:m=0:=by omega
 subst this;refine⟨hm,fun a c e ra=>?_,fun x a J ra e=>?_,hp,fun c M rc=>?_⟩
 .have:=Pj h.to h.pos ra c e;simpa[bM] using this
 .obtain⟨i,a1,_,a3⟩:=BV h J;obtain⟨j,b1,_,b3⟩:=BV h ra;have:i=j:=by omega
  subst this;rw[a1] at b1;have:=Option.some.inj b1;omega
 .obtain⟨i,a1,_,a3⟩:=BV h rc;obtain⟨j,t,hj,ht,h0,hc⟩:=abF h.to a1 oG;obtain⟨m,rfl,hm,hp⟩:=Lt h ht;exact⟨m,by simpa[iZ] using hc,hm,oG⟩
def y6(beh:Nat->List Int)(n:Nat)(out:List Int):Prop:=vI (iZ beh) (bM beh n) (eF beh n) (dJ out)/\Cs (bM beh n) n out
theorem EL{x:Nat}(hx:bM beh n x):mF (plL beh n) x=eF beh n x:=afo h hx
theorem Lu{x:Nat}(hx:bM beh n x):eF beh n x<(plL beh n).length:=by
 have:=EK h hx;have:=EC h;rw[plL,Qs];omega
omit h in
theorem O'{α β:Type}{g:β->α->β}{s:β}{l:List α}{i:Nat}{a:α}(hi:l[i]? =some a):(l.take (i+1)).foldl g s=g ((l.take i).foldl g s) a:=by
 rw[List.take_add_one,hi,List.foldl_append];rfl
theorem Hf{i:Nat}{a:Int}(hi:(cS beh n).tail[i]? =some a):∃ c:Nat,a=c/\bM beh n c/\eF beh n c=i+1/\c≠0:=by
 obtain⟨t,ht⟩:=Bw h.to h.pos;obtain⟨m,e,hm,hp⟩:=Lt h (i:=i+1) (x:=a) (by rw[ht] at hi ⊢;simpa using hi);refine⟨m,e,hm,hp,fun e=>?_⟩;have:=(wj h).qG;rw[e] at hp;omega
theorem Rq{c:Nat}(rc:bM beh n c)(C:c≠0):∃ i,(cS beh n).tail[i]? =some (c:Int)/\eF beh n c=i+1:=by
 obtain⟨t,ht⟩:=Bw h.to h.pos;obtain⟨i,hi,_,hp⟩:=BV h rc;cases i with
 |zero=>exact absurd ((wj h).inj c 0 rc (wj h).root (by rw[hp,(wj h).qG])) C
 |succ i=>exact⟨i,by rw[ht] at hi ⊢;simpa using hi,hp⟩
theorem DY(c:Nat):∀ a∈ahd c,0<=a:=fun a ha=>((h.rK c a).1 ha).1
theorem BI{c a:Nat}(ra:bM beh n a):(a:Int)∈ahd c↔iZ beh a c:=by
 rw[h.rK];have:=B8 h ra;simp only[bN,iZ];exact⟨fun x=>x.2.2,fun x=>⟨oG,this,x⟩⟩
def alR(beh:Nat->List Int)(n k x:Nat):Prop:=bM beh n x/\eF beh n x<k
omit h in
theorem Ky(hn:0<n)(x:Nat):dD (l7 n) x=if x=0 then 0 else -1:=by
 have:=Am (out:=replicate n (-1)) (b:=0) (x:=x) (q:=0) (by simpa using hn);unfold l7;rw[this]
 have e:dD (replicate n (-1)) (x:Int)= -1:=by
  unfold dD;rw[bl,List.getElem?_replicate];split<;>rfl
 rw[e]
theorem Kz:∀ i,i<=(cS beh n).tail.length->let s:=((cS beh n).tail.take i).foldl (ku (plL beh n) ahd) (l7 n,false)
 zn (iZ beh) (bM beh n) (eF beh n) (dJ s.1) (i+1)/\Cs (alR beh n (i+1)) n s.1/\(0<i->s.2=true)
 |0,_=>by
  have g:=wj h;refine⟨.start g (by show(dD (l7 n) ((0:Nat):Int)).toNat=0;rw[Ky h.pos];rfl),⟨by simp[l7],fun x hx=>?_,fun x hx=>?_⟩,fun h=>absurd h (Nat.lt_irrefl 0)⟩
  .have:x=0:=g.inj x 0 hx.1 g.root (by rw[g.qG];have:=hx.2;omega);show 0<=dD (l7 n) x;rw[Ky h.pos,if_pos this];omega
  .show dD (l7 n) x= -1;rw[Ky h.pos,if_neg fun e=>hx (by subst e;exact⟨g.root,by rw[g.qG];omega⟩)]
 |i+1,hi=>by
  have g:=wj h;obtain⟨h1,h2,h3⟩:=Kz i oG;have hx:=aN (show i<(cS beh n).tail.length from hi);obtain⟨c,e,rc,hp,X⟩:=Hf h hx;rw[e] at hx;simp only;rw[O' hx];generalize ((cS beh n).tail.take i).foldl (ku (plL beh n) ahd) (l7 n,false)=s at h1 h2 h3;obtain⟨out,fl⟩:=s;dsimp only at h1 h2 h3 ⊢;have hc:dD out (c:Int)= -1:=h2.un c fun hv=>by have:=hv.2;omega
  have C:=B8 h rc;rcases K8 (l:=ahd c) (plL:=plL beh n) (pl:=eF beh n) (fun x hx=>EL h hx.1) (fun x hx=>Lu h hx.1) h2 h1.tree g.qG (fun x a rx ra=>g.inj x a rx.1 ra.1) (DY h c) with⟨q1,q2⟩|⟨q,q1,q2,q3,q4⟩
  .obtain⟨t,t1,t2,t3⟩:=g.pre c X rc;exact absurd ⟨t2,by rw[bN];omega⟩ (q2 t ((BI h t2).2 t1))
  .have e':ku (plL beh n) ahd (out,fl) c=(out.set c q,true):=by
    unfold ku;simp only[bN,q1,hc];rw[if_neg oG]
   rw[e'];dsimp only;rw[Rp (by rw[h2.len];exact C)];refine⟨h1.step g rc X oG q2.1 (fun a ea ra hl=>?_) (fun w hw=>q4 w fun a ha J=>?_),⟨by simp[h2.len],fun x hx=>?_,fun x hx=>?_⟩,fun _=>rfl⟩
   .simpa using q3 a ((BI h ra).2 ea) ⟨ra,by rw[bN];omega⟩
   .have z4:=DY h c a ha;obtain⟨m,rfl⟩:=cU z4;exact hw m ((BI h J.1).1 ha) J.1 J.2
   .rw[Am (by rw[h2.len];exact C)];split
    .omega
    .rename_i aE
     exact h2.set x ⟨hx.1,by
      rcases Nat.lt_or_ge (eF beh n x) (i+1) with M|M
      .exact M
      .exact absurd (g.inj x c hx.1 rc (by have:=hx.2;omega)) aE⟩
   .rw[Am (by rw[h2.len];exact C),if_neg fun e=>hx (by rw[e];exact⟨rc,oG⟩)];exact h2.un x fun hv=>hx ⟨hv.1,by have:=hv.2;omega⟩
theorem PT:y6 beh n (sf (plL beh n) ahd (cS beh n).tail (l7 n)).1/\((sf (plL beh n) ahd (cS beh n).tail (l7 n)).2=false->(cS beh n).tail=[]):=by
 obtain⟨h1,h2,h3⟩:=Kz h _ (bF _);rw[List.take_length] at h1 h2 h3;unfold sf;obtain⟨t,ht⟩:=Bw h.to h.pos
 have C:∀ x,bM beh n x->eF beh n x<(cS beh n).tail.length+1:=fun x hx=>by
  have:=EK h hx;rw[ht] at this ⊢;simpa using this
 refine⟨⟨h1.fin C,h2.len,fun x hx=>h2.set x ⟨hx,C x hx⟩,fun x hx=>h2.un x fun hv=>hx hv.1⟩,fun e=>?_⟩;cases hl:(cS beh n).tail with
 |nil=>rfl
 |cons a l=>rw[hl] at h3 e;rw[h3 oS] at e;cases e
theorem KA{out:List Int}(ho:y6 beh n out):∀ i,i<=(cS beh n).tail.length->let s:=((cS beh n).tail.take i).foldl (ku (plL beh n) ahd) (out,false)
 AU (iZ beh) (bM beh n) (eF beh n) (dJ out) (dJ s.1) (i+1)/\Cs (bM beh n) n s.1/\(∀ x,bM beh n x->eF beh n (dJ s.1 x)<=eF beh n (dJ out x))/\
 (s.2=true->∃ x,bM beh n x/\x≠0/\eF beh n (dJ s.1 x)<eF beh n (dJ out x))/\
 (s.2=false->s.1=out/\∀ c,bM beh n c->c≠0->eF beh n c<i+1->∀ a,iZ beh a c->bM beh n a->bL (dJ out) (dJ out c) a)
 |0,_=>by
  have g:=wj h;refine⟨ho.1.start g,ho.2,fun _ _=>bF _,fun e=>by exact Bool.noConfusion e,fun _=>⟨rfl,fun c rc J hl=>absurd (g.inj c 0 rc g.root (by rw[g.qG];omega)) J⟩⟩
 |i+1,hi=>by
  have g:=wj h;obtain⟨h1,h2,h3,h4,h5⟩:=KA ho i oG;have hx:=aN (show i<(cS beh n).tail.length from hi);obtain⟨c,e,rc,hp,J⟩:=Hf h hx;rw[e] at hx;simp only;rw[O' hx];generalize ((cS beh n).tail.take i).foldl (ku (plL beh n) ahd) (out,false)=s at h1 h2 h3 h4 h5;obtain⟨o,fl⟩:=s;dsimp only at h1 h2 h3 h4 h5 ⊢;have kF:=B8 h rc;rcases K8 (l:=ahd c) (plL:=plL beh n) (pl:=eF beh n) (fun x hx=>EL h hx) (fun x hx=>Lu h hx) h2 h1.tree g.qG g.inj (DY h c) with⟨q1,q2⟩|⟨q,q1,q2,q3,q4⟩
  .obtain⟨t,t1,t2,t3⟩:=g.pre c J rc;exact absurd t2 (q2 t ((BI h t2).2 t1))
  .have hq:∀ a,iZ beh a c->bM beh n a->bL (dJ o) q a:=fun a X ra=>by simpa using q3 a ((BI h ra).2 X) ra
   have hm:∀ w,(∀ a,iZ beh a c->bM beh n a->bL (dJ o) w a)->bL (dJ o) w q:=fun w hw=>q4 w fun a ha va=>by
    obtain⟨m,rfl⟩:=cU (DY h c a ha);exact hw m ((BI h va).1 ha) va
   obtain⟨up,st⟩:=h1.step g rc J oG q2 hq hm;obtain⟨p1,_⟩:=h1.tree.par c rc J;obtain⟨_,lo⟩:=h1.tree.low p1 up;by_cases hs:dD o (c:Int)=q
   .have e':ku (plL beh n) ahd (o,fl) c=(o,fl):=by
     unfold ku;simp only[bN,q1];rw[if_pos hs]
    have eo:dJ o c=q:=by unfold dJ;rw[hs];simp
    have eu:kH (dJ o) c q=dJ o:=by
     funext x;unfold kH;split
     .rename_i C;rw[C,eo]
     .rfl
    rw[eu] at st;rw[e'];refine⟨st,h2,h3,h4,fun ef=>?_⟩;obtain⟨YU,hf⟩:=h5 ef;refine⟨YU,fun x M xz hl a X ra=>?_⟩;by_cases C:x=c
    .subst C;rw[<- YU,eo];exact hq a X ra
    .exact hf x M xz (by
      rcases Nat.lt_or_ge (eF beh n x) (i+1) with g'|g'
      .exact g'
      .exact absurd (g.inj x c M rc oG) C) a X ra
   .have e':ku (plL beh n) ahd (o,fl) c=(o.set c q,true):=by
     unfold ku;simp only[bN,q1];rw[if_neg hs]
    have ao:eF beh n q<eF beh n (dJ o c):=by
     rcases lo with lo|lo
     .refine absurd ?_ hs;rw[lo];unfold dJ;rw[Int.toNat_of_nonneg (h2.set c rc)]
     .exact lo
    rw[e'];dsimp only;rw[Rp (by rw[h2.len];exact kF)];refine⟨st,⟨by simp[h2.len],fun x hx=>?_,fun x hx=>?_⟩,fun x M=>?_,fun _=>⟨c,rc,J,by rw[tM];exact Nat.lt_of_lt_of_le ao (h3 c rc)⟩,fun e=>by cases e⟩
    .rw[Am (by rw[h2.len];exact kF)];split
     .omega
     .exact h2.set x hx
    .rw[Am (by rw[h2.len];exact kF),if_neg fun e=>hx (by rw[e];exact rc)];exact h2.un x hx
    .by_cases C:x=c
     .subst C;rw[tM];exact Nat.le_trans (Nat.le_of_lt ao) (h3 x M)
     .rw[pZ q C];exact h3 x M
theorem J8{out:List Int}(J:y6 beh n out):let s:=sf (plL beh n) ahd (cS beh n).tail out
 y6 beh n s.1/\(∀ x,bM beh n x->eF beh n (dJ s.1 x)<=eF beh n (dJ out x))/\
 (s.2=true->∃ x,bM beh n x/\x≠0/\eF beh n (dJ s.1 x)<eF beh n (dJ out x))/\
 (s.2=false->s.1=out/\∀ c,bM beh n c->c≠0->∀ a,iZ beh a c->bM beh n a->bL (dJ out) (dJ out c) a):=by
 obtain⟨h1,h2,h3,h4,h5⟩:=KA h J _ (bF _);rw[List.take_length] at h1 h2 h3 h4 h5;obtain⟨t,ht⟩:=Bw h.to h.pos
 have C:∀ x,bM beh n x->eF beh n x<(cS beh n).tail.length+1:=fun x hx=>by
  have:=EK h hx;rw[ht] at this ⊢;simpa using this
 exact⟨⟨h1.fin C,h2⟩,h3,h4,fun e=>⟨(h5 e).1,fun c rc M=>(h5 e).2 c rc M (C c rc)⟩⟩
end
section
variable{beh ahd:Nat->List Int}{n:Nat}(h:ud beh ahd n)
include h
def Lv(beh:Nat->List Int)(n:Nat)(out:List Int):Prop:=y6 beh n out/\∀ c,bM beh n c->c≠0->∀ a,iZ beh a c->bM beh n a->bL (dJ out) (dJ out c) a
def Gk(beh:Nat->List Int)(n:Nat)(out:List Int):Nat:=((cS beh n).tail.map fun b=>eF beh n (dJ out b.toNat)).sum
omit h in
theorem T5{l:List Int}{f g:Int->Nat}(hl:∀ x∈l,f x<=g x):(l.map f).sum<=(l.map g).sum/\((∃ x∈l,f x<g x)->(l.map f).sum<(l.map g).sum):=by
 induction l with
 |nil=>exact⟨bF _,fun⟨x,hx,_⟩=>by simp at hx⟩
 |cons a l ih=>
  obtain⟨i1,i2⟩:=ih fun x hx=>hl x (by simp[hx]);have ha:=hl a oS;simp only[List.map_cons,List.sum_cons];refine⟨oG,fun⟨x,hx,ao⟩=>?_⟩;rcases List.mem_cons.1 hx with e|e
  .subst e;omega
  .have:=i2 ⟨x,e,ao⟩;omega
theorem afp{out:List Int}(C:y6 beh n out):Gk beh n out<=n*n:=by
 have h1:Gk beh n out<=((cS beh n).tail.map fun _=>n).sum:=(T5 fun x hx=>by
  obtain⟨i,hi⟩:=cC hx;obtain⟨c,rfl,rc,_,J⟩:=Hf h hi;have:=EK h (C.1.tree.par c rc J).1;have:=EC h;simp only[bN]
  omega).1
 have h2:((cS beh n).tail.map fun _=>n).sum=(cS beh n).tail.length*n:=by
  generalize (cS beh n).tail=l;clear h1
  induction l with
  |nil=>simp
  |cons a l ih=>simp only[List.map_cons,List.sum_cons,ih,List.length_cons,Nat.succ_mul];omega
 have h3:(cS beh n).tail.length<=n:=by have:=EC h;rw[List.length_tail];omega
 have:=Nat.mul_le_mul_right n h3;omega
theorem afq{out:List Int}(C:y6 beh n out)(hc:(sf (plL beh n) ahd (cS beh n).tail out).2=true):Gk beh n (sf (plL beh n) ahd (cS beh n).tail out).1<Gk beh n out:=by
 obtain⟨_,h2,h3,_⟩:=J8 h C;obtain⟨x,J,M,ao⟩:=h3 hc;refine(T5 fun b hb=>?_).2 ?_
 .obtain⟨i,hi⟩:=cC hb;obtain⟨c,rfl,rc,_,X⟩:=Hf h hi;exact h2 _ (by simpa using rc)
 .obtain⟨i,hi,_⟩:=Rq h J M;exact⟨x,bU hi,by simpa using ao⟩
def CJ(beh ahd:Nat->List Int)(n:Nat)(F:List Int)(k:Nat)(out:List Int):Prop:=
 Hw (plL beh n) ahd (cS beh n).tail k out=F/\(out=l7 n/\n*n+1<k\/y6 beh n out/\Gk beh n out<k)
theorem J5{F out:List Int}{k:Nat}(hs:CJ beh ahd n F k out):let s:=sf (plL beh n) ahd (cS beh n).tail out
 0<k/\(s.2=true->CJ beh ahd n F (k - 1) s.1)/\(s.2=false->s.1=F/\Lv beh n F):=by
 obtain⟨e,hs⟩:=hs;have hk:0<k:=by rcases hs with⟨_,hs⟩|⟨_,hs⟩<;>omega
 obtain⟨k,rfl⟩:∃ j,k=j+1:=⟨k - 1,oG⟩
 rw[Hw] at e;refine⟨hk,fun hc=>?_,fun hc=>?_⟩
 .rw[if_pos hc] at e;refine⟨e,.inr ?_⟩;rcases hs with⟨rfl,hs⟩|⟨C,hs⟩
  .have:=(PT h).1;exact⟨this,by have:=afp h this;omega⟩
  .exact⟨(J8 h C).1,by have:=afq h C hc;omega⟩
 .rw[if_neg (by rw[hc];exact Bool.noConfusion)] at e;refine⟨e,?_⟩;rw[<- e];rcases hs with⟨rfl,hs⟩|⟨C,hs⟩
  .obtain⟨J,X⟩:=PT h;refine⟨J,fun c rc M=>?_⟩;obtain⟨i,hi,_⟩:=Rq h rc M;rw[X hc] at hi;simp at hi
  .obtain⟨J,_,_,p4⟩:=J8 h C;obtain⟨q1,q2⟩:=p4 hc;rw[q1];exact⟨C,q2⟩
def VQ(C:List Int)(n:Nat)(o:List Int)(V:Nat->Prop)(pl:Nat->Nat):Prop:=
 o.length=n/\(∀ x,V x->x<n/\pl x<n)/\(∀ x:Nat,¬ dD o x= -1->V x)/\
 (∀ l:List Int,(∀ a∈l,0<=a)->nX C o l= -1\/∃ q:Nat,nX C o l=q/\V q)/\
 (∀ x a:Nat,V x->V a->x≠a->if mF C a<mF C x then(∃ y:Nat,dD o x=y/\V y/\pl y<pl x) else(∃ y:Nat,dD o a=y/\V y/\pl y<pl a))
theorem T6{V:Nat->Prop}{o:List Int}(ht:ko V (eF beh n) (dJ o))(hg:Cs V n o)(J:∀ x,V x->bM beh n x):VQ (plL beh n) n o V (eF beh n):=by
 have g:=wj h
 have lt:∀ x,V x->eF beh n x<n:=fun x C=>by
  have:=EK h (J x C);have:=EC h;omega
 refine⟨hg.len,fun x C=>⟨B8 h (J x C),lt x C⟩,fun x hx=>?_,fun l hl=>?_,fun x a C M X=>?_⟩
 .exact Classical.byContradiction fun hn=>hx (hg.un x hn)
 .rcases K8 (plL:=plL beh n) (pl:=eF beh n) (fun x C=>EL h (J x C)) (fun x C=>Lu h (J x C)) hg ht g.qG (fun x a C M=>g.inj x a (J x C) (J a M)) hl with⟨h1,_⟩|⟨q,h1,h2,_⟩
  .exact .inl h1
  .exact .inr ⟨q,h1,h2⟩
 .rw[EL h (J x C),EL h (J a M)]
  have hs:∀ x,V x->x≠0->∃ y:Nat,dD o x=y/\V y/\eF beh n y<eF beh n x:=fun x C hz=>by
   obtain⟨p1,p2⟩:=ht.par x C hz;exact⟨dJ o x,by unfold dJ;rw[Int.toNat_of_nonneg (hg.set x C)],p1,p2⟩
  have h0:=g.qG;split
  .rename_i hl;exact hs x C fun e=>by rw[e,h0] at hl;omega
  .rename_i hl
   exact hs a M fun e=>by
    subst e;exact X (g.inj x 0 (J x C) (J 0 M) oG)
theorem acK{F out:List Int}{k:Nat}(hs:CJ beh ahd n F k out):out.length=n/\∀ j,j<=(cS beh n).tail.length->
 ∃ (V:Nat->Prop) (pl:Nat->Nat),VQ (plL beh n) n (((cS beh n).tail.take j).foldl (ku (plL beh n) ahd) (out,false)).1 V pl:=by
 rcases hs.2 with⟨rfl,_⟩|⟨C,_⟩
 .refine⟨by simp[l7],fun j hj=>?_⟩;obtain⟨h1,h2,_⟩:=Kz h j hj;exact⟨_,_,T6 h h1.tree h2 fun x hx=>hx.1⟩
 .refine⟨C.2.len,fun j hj=>?_⟩;obtain⟨h1,h2,_⟩:=KA h C j hj;exact⟨_,_,T6 h h1.tree h2 fun x hx=>hx⟩
def AP(beh ahd:Nat->List Int)(n:Nat):List Int:=Hw (plL beh n) ahd (cS beh n).tail (n*n+2) (l7 n)
def gj(beh ahd:Nat->List Int)(n:Nat):List Int:=(AP beh ahd n).set 0 (-1)
omit h in
theorem PQ:CJ beh ahd n (AP beh ahd n) (n*n+2) (l7 n):=⟨rfl,.inl ⟨rfl,oG⟩⟩
theorem Rr{F:List Int}:∀ {k:Nat} {out:List Int},CJ beh ahd n F k out->Lv beh n F
 |0,out,hs=>absurd (J5 h hs).1 (Nat.lt_irrefl 0)
 |k+1,out,hs=>by
  obtain⟨_,h2,h3⟩:=J5 h hs;cases e:(sf (plL beh n) ahd (cS beh n).tail out).2 with
  |true=>exact Rr (h2 e)
  |false=>exact(h3 e).2
theorem An:Lv beh n (AP beh ahd n):=Rr h PQ
theorem z5:(gj beh ahd n).length=n:=by
 unfold gj;rw[List.length_set];exact(An h).1.2.len
theorem JG(x:Nat):dD (gj beh ahd n) x=if x=0 then -1 else dD (AP beh ahd n) x:=by
 unfold gj;exact Am (b:=0) (by rw[(An h).1.2.len];exact h.pos)
def vJ(beh:Nat->List Int)(a b:Nat):Prop:=¬ Av (iZ beh) a b
def fw(beh ahd:Nat->List Int)(n:Nat):Nat->Nat:=dJ (AP beh ahd n)
theorem pU:ko (bM beh n) (eF beh n) (fw beh ahd n):=(An h).1.1.tree
theorem sm{a b:Nat}(C:bM beh n b):bL (fw beh ahd n) a b↔vJ beh a b:=(An h).1.1.vM (wj h) (An h).2 C
theorem HG{b:Nat}(J:bM beh n b)(C:b≠0):dD (gj beh ahd n) b=(fw beh ahd n b:Nat)/\bM beh n (fw beh ahd n b)/\eF beh n (fw beh ahd n b)<eF beh n b:=by
 refine⟨?_,(pU h).par b J C⟩;rw[JG h,if_neg C];unfold fw dJ;rw[Int.toNat_of_nonneg ((An h).1.2.set b J)]
theorem SP{b:Nat}(C:¬ bM beh n b):dD (gj beh ahd n) b= -1:=by
 rw[JG h];split
 .rfl
 .exact(An h).1.2.un b C
theorem Rt:dD (gj beh ahd n) (0:Nat)= -1:=by
 rw[JG h,if_pos rfl]
end
section
variable{beh ahd:Nat->List Int}{n:Nat}(h:ud beh ahd n)
include h
end
section
variable{cnt:List Bool}{ahd:Nat->List Int}{n:Nat}(yf:∀ b,∀ a∈ahd b,0<=a/\a.toNat<n)
include yf
end
section
variable{beh ahd:Nat->List Int}{n:Nat}(h:ud beh ahd n)
include h
end
end Go.Argus
section
open Go Go.Abs Go.Proofs Go.Argus
namespace Go.Proofs.Tryz.K
theorem R5(n:Nat)(b:Int):replD n [I b]=(replicate n b).map I:=by
 unfold replD
 induction n with
 |zero=>rfl
 |succ n ih=>rw[List.replicate_succ,List.replicate_succ,List.flatten_cons,List.map_cons,ih];rfl
theorem OA{n:Nat}{x:Int}(X:n<=100000):OCall prog 94 [I n,I x] ((replicate n x).map I) n 3:=by
 refine zK Xj (.cons (Tr.s _) (.cons (Tr.s _) .nil)) (.map fun _=>.s _) ?_;rw[ak1];refine ws (SS ?_);refine af (az ?_);have C:((n:Nat):Int).toNat=n:=bN n;refine SS ?_;refine iB (BD rfl rfl V.h V.h) ak ⟨oG,rfl,oG,by rw[b3];omega,V.h⟩ (SS ?_);refine af (aW (aQ (l:=[(1,I x),(5,.rs 0 0 n)]) (ml:=[(0,.cells ((replicate n (0:Int)).map I) 3)]) ⟨rfl,?_,trivial⟩ ⟨?_,trivial⟩) (aB (az ?_)))
 .exact congrArg (fun k=>D.rs 0 0 k) C
 .exact congrArg (fun c=>some (Row.cells c 3)) ((congrArg (fun k=>replD k [I 0]) C).trans (R5 n 0))
 refine aq ?_
 refine af (bR (fun s=>Ghost prog s ⟨aD [(5,.rs 0 0 n)],bf [(0,.cells ((replicate n x).map I) 3)],1⟩) (dV (α:=Nat)
  (fun k=>⟨aD [(1,I x),(5,.rs 0 0 n),(10,I n),(11,I k)],bf [(0,.cells ((replicate k x++replicate (n - k) 0).map I) 3)],1⟩)
  (fun k=>k<=n) (fun k=>n - k) 0 (aQ eH eH) oG ?_) ?_)
 .intro k hk;refine SS ?_;refine af ⟨_,rfl,fun h=>?_,fun h=>?_⟩
  .have ao:k<n:=by simpa using h
   have J:=Ho (x:=x) (y:=0) ao;have hl:(replicate k x++replicate (n - k) (0:Int)).length=n:=by simp;omega
   refine ws (ag ?_);refine af (fh (aO ?_));refine af (ag ?_);refine af (aK (k+1) (aQ eH ⟨?_,trivial⟩) oG oG);rw[<- J,List.map_set];rfl
  .have M:¬ k<n:=by simpa using h
   have:k=n:=by omega
   subst this;refine aQ eH ⟨?_,trivial⟩;rw[Nat.sub_self,List.replicate_zero,List.append_nil];rfl
 rintro s hg;refine⟨_,hg,aj ?_⟩;refine ag ?_;refine af (av rfl ⟨0,rfl,rfl⟩)
theorem Bg{f:aG}{beh ahd:List (List Int)}{c:D}(hc:Tr c)(gg:c.one=true){n:Nat}(hn:beh.length=n)(qB:ahd.length=n)(pg:f.ab.length=n)(jf:n<=1200)(hg:ud (aA beh) (aA ahd) n)(cZ:∀ b,(aA beh b).length<=100000)(mB:∀ b,(aA ahd b).length<=100000):
 PCall prog 60 [.pt (bA f beh ahd c)] (au (gj (aA beh) (aA ahd) n)):=by
 have jZ:=hg.pos;have Dr:=Dr (f:=f) (beh:=beh) (ahd:=ahd) hc gg hn pg jZ oG hg.to cZ;refine bg Xk (.cons (Ab hc) .nil) (cL _) ?_;rw[ak2];refine ws (SS ?_);refine af (az ?_);have OB:=PQ (beh:=aA beh) (ahd:=aA ahd) (n:=n);have Yv:gj (aA beh) (aA ahd) n=(AP (aA beh) (aA ahd) n).set 0 (-1):=rfl;have F7:=BQ hg;have oi:=EC hg;have iO:plL (aA beh) n=B6 (cS (aA beh) n) n:=rfl;obtain⟨T,hT⟩:=Bw hg.to jZ;have CI:=fun F k out=>J5 (beh:=aA beh) (ahd:=aA ahd) (n:=n) hg (F:=F) (k:=k) (out:=out);have vC:=fun F k out=>acK (beh:=aA beh) (ahd:=aA ahd) (n:=n) hg (F:=F) (k:=k) (out:=out);rw[Yv];clear Yv;generalize AP (aA beh) (aA ahd) n=F at OB ⊢;have CI:=CI F;have vC:=vC F;generalize cS (aA beh) n=O at Dr F7 oi iO hT CI vC;refine SS ?_;refine Ce Dr rfl cv (SS ?_);have dn:((f.ab.length:Nat):Int).toNat=n:=pg;refine af (aW (lQ (i:=0) (e:=3) (cs:=O.map I) (l:=[(0,.pt (bA f beh ahd c)),(3,au O)]) (ml:=[]) rfl ⟨rfl,?_,trivial⟩ trivial) (az ?_))
 .exact nB (by rw[c3];simp)
 refine bB ?_;refine iB (BD rfl rfl V.h V.h) ak ⟨oG,rfl,oG,by rw[b3];omega,V.h⟩ (SS ?_);refine af (aW (aQ (l:=[(0,.pt (bA f beh ahd c)),(3,au O),(4,.rs 1 0 n)]) (ml:=[(1,.cells ((uF O n 0).map I) 3)]) ⟨rfl,rfl,?_,trivial⟩ ⟨?_,trivial⟩) (aB (az ?_)))
 .exact congrArg (fun k=>D.rs 1 0 k) dn
 .exact congrArg (fun c=>some (Row.cells c 3)) ((congrArg (fun k=>replD k [I 0]) dn).trans (R5 n 0))
 refine aq ?_
 refine af (bR (fun s=>Ghost prog s ⟨aD [(0,.pt (bA f beh ahd c)),(3,au O),(4,.rs 1 0 n)],bf [(1,.cells ((B6 O n).map I) 3)],2⟩) (dV (α:=Nat)
  (fun k=>⟨aD [(0,.pt (bA f beh ahd c)),(3,au O),(4,.rs 1 0 n),(23,au O),(24,I O.length),(25,I k)],bf [(1,.cells ((uF O n k).map I) 3)],2⟩)
  (fun k=>k<=O.length) (fun k=>O.length - k) 0 (aQ eH eH) (Nat.zero_le _) ?_) ?_)
 .intro k hk;clear Dr CI vC;have Yw:=Hq (ord:=O) (n:=n) k;refine SS ?_;refine af ⟨_,rfl,fun h=>?_,fun h=>?_⟩
  .have ao:k<O.length:=by simpa using h
   have hx:O[k]? =some O[k]:=aN ao;have FF:=F7 _ (cy ao);have J:uF O n (k+1)=(uF O n k).set (O.getD k 0).toNat k:=rfl;rw[getD_some hx] at J;generalize O[k]=b at hx FF J;obtain⟨C,rfl⟩:=cU FF.1;have pC:C<n:=FF.2;rw[bN] at J;refine ws (aO ?_);refine af (fh (aO ?_));refine af (ag ?_);refine af (aK (k+1) (aQ eH ⟨?_,trivial⟩) oG oG);rw[J,List.map_set];rfl
  .have a9:¬ k<O.length:=by simpa using h
   have:k=O.length:=by omega
   subst this;exact aQ eH eH
 have Fh:(B6 O n).length=n:=Qs;rw[<- iO] at Fh ⊢;clear iO;generalize plL (aA beh) n=PL at Fh CI vC ⊢;rintro s hg0;refine⟨_,hg0.trans (lQ (i:=1) (e:=3) (cs:=PL.map I) (l:=[(0,.pt (bA f beh ahd c)),(3,au O),(4,au PL)]) (ml:=[]) rfl ⟨rfl,rfl,?_,trivial⟩ trivial),az ?_⟩
 .exact(nB (by rw[c3];simp[Fh])).trans (by rw[au,Fh])
 have OA:OCall prog 94 [I f.ab.length,I (-1)] ((replicate n (-1)).map I) n 3:=by rw[pg];exact OA oG
 clear Dr;refine bB ?_;refine Ce OA rfl cv (SS ?_);refine af (aW (aQ (l:=[(0,.pt (bA f beh ahd c)),(3,au O),(4,au PL),(7,.rs 2 0 n)]) (ml:=[(2,.cells ((replicate n (-1)).map I) 3)]) ⟨rfl,rfl,rfl,?_,trivial⟩ eH) (az ?_))
 .exact congrArg (fun k=>D.rs 2 0 k) oS
 have zH:(replicate n (-1:Int))[0]? =some (-1):=by simp[jZ]
 refine aq ?_;refine af (aW (aQ (l:=[(0,.pt (bA f beh ahd c)),(3,au O),(4,au PL),(7,.rs 2 0 n)]) (ml:=[(2,.cells ((l7 n).map I) 3)]) eH ⟨?_,trivial⟩) (aB (az ?_)))
 .unfold l7;rw[List.map_set];rfl
 clear zH;refine SS ?_
 refine af (bR (fun s=>Ghost prog s ⟨aD [(7,.rs 2 0 n)],bf [(2,.cells (F.map I) 3)],3⟩/\F.length=n) (yC (α:=Nat×List Int×Bool)
  (fun s=>⟨aD [(0,.pt (bA f beh ahd c)),(3,au O),(4,au PL),(7,.rs 2 0 n),(8,B s.2.2)],bf [(2,.cells (s.2.1.map I) 3)],3⟩)
  (fun s=>s.2.1.length=n/\(s.2.2=true->CJ (aA beh) (aA ahd) n F s.1 s.2.1)/\(s.2.2=false->s.2.1=F)) (fun s=>2*s.1+if s.2.2=true then 1 else 0) (n*n+2,l7 n,true)
  (aQ eH eH) ⟨by simp[l7],fun _=>OB,fun h=>by cases h⟩ ?_) ?_)
 .clear OB;rintro⟨k,out,ch⟩ ⟨Xl,qz,zh⟩;dsimp only at Xl qz zh ⊢;refine SS ?_;refine af ⟨_,rfl,fun h0=>?_,fun h=>?_⟩
  .have hS:=qz h0;obtain⟨dT,fP,rU⟩:=CI _ _ hS;obtain⟨_,vC⟩:=vC _ _ hS;subst hT;refine ws (SS ?_);refine af (az ?_);have aoO:T.length+1<=n:=by simpa using oi
   have Xm:(0::T).length=T.length+1:=rfl;refine SS ?_;refine aI (ww rfl V.h V.h rfl rfl rfl) ak ⟨V.h,oG,oG,oG⟩ (ag ?_);simp only[List.tail_cons] at vC
   refine af (dV (α:=Nat)
    (fun j=>⟨aD [(0,.pt (bA f beh ahd c)),(3,au (0::T)),(4,au PL),(7,.rs 2 0 n),(8,B ((T.take j).foldl (ku PL (aA ahd)) (out,false)).2),(46,au T),(47,I T.length),(48,I j)],bf [(2,.cells (((T.take j).foldl (ku PL (aA ahd)) (out,false)).1.map I) 3)],3⟩)
    (fun j=>j<=T.length) (fun j=>T.length - j) 0 (aQ ⟨rfl,rfl,rfl,rfl,rfl,?_,?_,rfl,trivial⟩ eH) (Nat.zero_le _) ?_)
   .have e:((((0:Int)::T).length:Int) - 1).toNat=T.length:=by rw[Xm];omega
    show D.sl (List.take (((((0:Int)::T).length:Int) - 1).toNat*1) (List.map I T)) ((((0:Int)::T).length:Int) - 1).toNat=au T;rw[e,Nat.mul_one,au,df oS]
   .exact congrArg I (by rw[Xm];omega)
   intro j hj;have cg:∀ b,T[j]? =some b->(T.take (j+1)).foldl (ku PL (aA ahd)) (out,false)=ku PL (aA ahd) ((T.take j).foldl (ku PL (aA ahd)) (out,false)) b:=fun b hb=>oF (f:=ku PL (aA ahd)) hb;have fU:j=T.length->(T.take j).foldl (ku PL (aA ahd)) (out,false)=sf PL (aA ahd) T out:=fun e=>by rw[e,List.take_length];rfl
   obtain⟨VV,pl,hV⟩:=vC j hj;generalize (T.take j).foldl (ku PL (aA ahd)) (out,false)=s at cg fU hV;obtain⟨o,fl⟩:=s;dsimp only at hV ⊢;obtain⟨OC,F8,Yx,Xn,mn⟩:=hV;refine SS ?_;refine af ⟨_,rfl,fun h=>?_,fun h=>?_⟩
   .have ao:j<T.length:=by simpa using h
    have vX:T[j]? =some T[j]:=aN ao;have OD:=F7 T[j] oS;generalize T[j]=b at vX OD;obtain⟨C,rfl⟩:=cU OD.1;have pC:C<n:=OD.2;have J:=cg _ vX;have F9:ku PL (aA ahd) (o,fl) (C:Int)=if dD o C=nX PL o (aA ahd C) then(o,fl) else(o.set C (nX PL o (aA ahd C)),true):=rfl
    rw[F9] at J;clear F9;refine ws (aq ?_);refine er (SS ?_);have uv:ahd[C]? =some (aA ahd C):=tk oG;have qp:=DY hg C;have bD:=mB C;have j0:=fun a=>(hg.rK C a).1;refine af (aB (az ?_));generalize aA ahd C=l at uv qp j0 J bD
    have fO:∀ i,(l.take i).foldl (mb PL o) (-1)= -1\/∃ q:Nat,(l.take i).foldl (mb PL o) (-1)=q/\VV q:=fun i=>by
     exact Xn (l.take i) fun a h=>qp a (List.mem_of_mem_take h)
    refine aJ ?_
    refine af (bR (fun s=>Ghost prog s ⟨aD [(0,.pt (bA f beh ahd c)),(3,au (0::T)),(4,au PL),(7,.rs 2 0 n),(8,B fl),(10,I C),(11,I (nX PL o l)),(46,au T),(47,I T.length),(48,I j)],bf [(2,.cells (o.map I) 3)],3⟩) (dV (α:=Nat)
     (fun i=>⟨aD [(0,.pt (bA f beh ahd c)),(3,au (0::T)),(4,au PL),(7,.rs 2 0 n),(8,B fl),(10,I C),(11,I ((l.take i).foldl (mb PL o) (-1))),(46,au T),(47,I T.length),(48,I j),(58,au l),(59,I l.length),(60,I i)],bf [(2,.cells (o.map I) 3)],3⟩)
     (fun i=>i<=l.length) (fun i=>l.length - i) 0 (aQ eH eH) (Nat.zero_le _) ?_) ?_)
    .intro i hi;have M:∀ a,l[i]? =some a->(l.take (i+1)).foldl (mb PL o) (-1)=mb PL o ((l.take i).foldl (mb PL o) (-1)) a:=fun a ha=>oF ha;have om:i=l.length->(l.take i).foldl (mb PL o) (-1)=nX PL o l:=fun e=>by rw[e,List.take_length];rfl
     have fO:=fO i;generalize (l.take i).foldl (mb PL o) (-1)=nx at fO M om;refine SS ?_;refine af ⟨_,rfl,fun h=>?_,fun h=>?_⟩
     .have fZ:i<l.length:=by simpa using h
      have uu:l[i]? =some l[i]:=aN fZ;have OE:=cy fZ;generalize l[i]=a at uu OE;have yf:=j0 a OE;have M:=M a uu;obtain⟨X,rfl⟩:=cU yf.1;have Yy:X<n:=yf.2.1;refine ws (aq ?_);refine af (aB (aj ?_))
      have jK:o[X]? =some (dD o X):=by
       have:=aN (show X<o.length by omega);rw[this];simp[dD,bl,this]
      have kd:=iG (f:=I) jK;have F9:mb PL o nx (X:Int)=if dD o X= -1 then nx else if nx= -1 then(X:Int) else vD PL o (2*PL.length) nx X:=rfl
      rw[F9] at M;clear F9;have OF:=Yx X;generalize dD o X=v at jK kd M OF;refine aO ?_;refine af (cx rfl (fun h=>jy (mR ?_)) fun h=>bP (aB (aj ?_)))
      .have hv:v= -1:=by simpa using h
       rw[if_pos hv] at M;refine ag ?_;refine af (aK (i+1) (aQ ⟨rfl,rfl,rfl,rfl,rfl,rfl,?_,rfl,rfl,rfl,rfl,rfl,rfl,trivial⟩ eH) oG oG);rw[M];rfl
      .have hv:¬ v= -1:=by simpa using h
       have va:=OF hv;rw[if_neg hv] at M;clear OF kd jK;refine ag ?_;refine af (cx rfl (fun h=>aB (aj ?_)) fun h=>Zl ?_)
       .have hx:nx= -1:=by simpa using h
        rw[if_pos hx] at M;refine ag ?_;refine af (jy (mR (ag ?_)));refine af (aK (i+1) (aQ ⟨rfl,rfl,rfl,rfl,rfl,rfl,?_,rfl,rfl,rfl,rfl,rfl,rfl,trivial⟩ eH) oG oG);rw[M];rfl
       .have hx:¬ nx= -1:=by simpa using h
        rw[if_neg hx] at M;obtain⟨q,rfl,vq⟩:=fO.resolve_left hx;have M:(l.take (i+1)).foldl (mb PL o) (-1)=vD PL o (2*n) q X:=by rw[M,Fh]
        have hvq:=F8 q vq;have Ga:=F8 X va
        refine yC (α:=Nat×Nat×Nat)
         (fun s=>⟨aD [(0,.pt (bA f beh ahd c)),(3,au (0::T)),(4,au PL),(7,.rs 2 0 n),(8,B fl),(10,I C),(11,I s.2.1),(13,I s.2.2),(46,au T),(47,I T.length),(48,I j),(58,au l),(59,I l.length),(60,I i)],bf [(2,.cells (o.map I) 3)],3⟩)
         (fun s=>VV s.2.1/\VV s.2.2/\pl s.2.1+pl s.2.2<s.1/\(l.take (i+1)).foldl (mb PL o) (-1)=vD PL o s.1 s.2.1 s.2.2) (fun s=>s.1) (2*n,q,X)
         (aQ eH eH) ⟨vq,va,oM,M⟩ ?_
        clear vq va hvq Ga M hv hx uu OE yf Yy;rintro⟨k,x,a⟩ ⟨vx,va,rO,fD⟩;dsimp only at vx va rO fD ⊢;refine aq ?_;refine af ⟨_,rfl,fun h=>?_,fun h=>?_⟩
        .have aE:¬ (x:Int)=a:=by simpa using h
         obtain⟨k,rfl⟩:∃ k',k=k'+1:=⟨k - 1,oG⟩
         rw[vD,if_neg aE] at fD;have hxn:=F8 x vx;have Yy:=F8 a va;have mn:=mn x a vx va oG
         have hpx:PL[x]? =some (mF PL x):=by
          have:=aN (show x<PL.length by omega);rw[this];simp[mF,bl,this]
         have ui:PL[a]? =some (mF PL a):=by
          have:=aN (show a<PL.length by omega);rw[this];simp[mF,bl,this]
         have mE:o[x]? =some (dD o x):=by
          have:=aN (show x<o.length by omega);rw[this];simp[dD,bl,this]
         have jK:o[a]? =some (dD o a):=by
          have:=aN (show a<o.length by omega);rw[this];simp[dD,bl,this]
         generalize mF PL x=px at hpx fD mn;generalize mF PL a=pa at ui fD mn;generalize dD o x=ox at mE fD mn;generalize dD o a=oa at jK fD mn;refine dF abg (aJ ?_);refine a8 bc (aw rfl (fun h=>fh ?_) fun h=>fh ?_)
         .have rG:pa<px:=by simpa using h
          rw[if_pos rG] at fD mn;obtain⟨y,rfl,vy,hy⟩:=mn;have kd:=iG (f:=I) mE;refine aO ?_;refine af (aK (k,y,a) (aQ eH eH) ⟨vy,va,oM,fD⟩ (Nat.lt_succ_self _))
         .have rG:¬ pa<px:=by simpa using h
          rw[if_neg rG] at fD mn;obtain⟨y,rfl,vy,hy⟩:=mn;have kd:=iG (f:=I) jK;refine aO ?_;refine af (aK (k,x,y) (aQ eH eH) ⟨vx,vy,oM,fD⟩ (Nat.lt_succ_self _))
        .have he:(x:Int)=a:=by simpa using h
         have hr:(l.take (i+1)).foldl (mb PL o) (-1)=x:=by
          rw[fD];cases k with
          |zero=>rfl
          |succ k=>rw[vD,if_pos he]
         refine ag ?_;refine af (aK (i+1) (aQ ⟨rfl,rfl,rfl,rfl,rfl,rfl,?_,rfl,rfl,rfl,rfl,rfl,rfl,trivial⟩ eH) oG oG);rw[hr];rfl
     .have a9:¬ i<l.length:=by simpa using h
      have:=om oG;subst this;exact ap eH
    rintro s xG;refine⟨_,xG,aj ?_⟩
    have Xo:o[C]? =some (dD o C):=by
     have:=aN (show C<o.length by omega);rw[this];simp[dD,bl,this]
    have kd:=iG (f:=I) Xo;generalize dD o C=v at Xo kd J;generalize nX PL o l=q at J;refine bB ?_;refine af (aw rfl (fun h=>fh ?_) fun h=>bS ?_)
    .have aE:¬ v=q:=by simpa using h
     rw[if_neg aE] at J;refine bB ?_;refine af (ag ?_);refine af (aK (j+1) (aQ ⟨rfl,rfl,rfl,rfl,?_,rfl,rfl,rfl,trivial⟩ ⟨?_,trivial⟩) oG oG)
     .rw[J];rfl
     .rw[J,List.map_set];rfl
    .have aE:v=q:=by simpa using h
     rw[if_pos aE] at J;refine ag ?_;refine af (aK (j+1) (aQ ⟨rfl,rfl,rfl,rfl,?_,rfl,rfl,rfl,trivial⟩ ⟨?_,trivial⟩) oG oG)
     .rw[J];rfl
     .rw[J];rfl
   .have a9:¬ j<T.length:=by simpa using h
    have hl:=fU oG;rw[List.tail_cons, <- hl] at fP rU;dsimp only at fP rU;have hL:True->o.length=n:=fun _=>OC;clear Xn mn cg fU F8 Yx vC;cases fl with
    |true=>exact aK (k - 1,o,true) (aQ eH eH) ⟨OC,fun _=>fP rfl,fun h=>by cases h⟩ (by dsimp only;rw[h0];simp;omega)
    |false=>exact aK (0,o,false) (aQ eH eH) ⟨OC,fun h=>Bool.noConfusion h,fun _=>(rU rfl).1⟩ (by dsimp only;rw[h0];simp)
  .have:=zh h;subst this;exact⟨aQ eH eH,Xl⟩
 rintro s ⟨Oz,Yz⟩;refine⟨_,Oz,az ?_⟩;have zH:F[0]? =some (F[0]'oG):=aN oG;refine aq ?_;refine af (aW (lQ (i:=2) (e:=3) (cs:=(F.set 0 (-1)).map I) (l:=[(7,au (F.set 0 (-1)))]) (ml:=[]) ?_ ⟨?_,trivial⟩ trivial) (aj ?_))
 .rw[List.map_set];rfl
 .exact(nB (by rw[c3];simp[Yz])).trans (by rw[au,List.length_set,Yz])
 refine ag ?_;refine af (av rfl rfl)
end Go.Proofs.Tryz.K
namespace Go.Argus
def aT(f:aG):Nat->List Int:=aA (bI f)
def c9(f:aG):Nat->List Int:=aA (cM f.ab)
theorem K3{f:aG}{c:Nat}(h:c<f.ab.length):c9 f c=bH f.ab f.ab.length c:=by
 unfold c9 aA;rw[bl,JN rfl h];rfl
theorem Rk{f:aG}{c:Nat}(h:f.ab.length<=c):c9 f c=[]:=by
 unfold c9 aA;rw[bl,List.getElem?_eq_none (by simp[cM];omega)];rfl
theorem xm{f:aG}(h:qT f):ud (aT f) (c9 f) f.ab.length:=by
 refine⟨h.pos,Go.Proofs.Tryz.K.beh_in h,fun c a=>?_⟩;rcases Nat.lt_or_ge c f.ab.length with g|g
 .rw[K3 g,Gy];constructor
  .rintro⟨b,rfl,hb,x,hx,t,ht,e⟩;refine⟨oG,hb,?_⟩;show(c:Int)∈aA (bI f) _;rw[bN,yA hx];have:=Go.Proofs.Tryz.K.beh_in h b t (by rw[yA hx];exact ht);have e2:(c:Int)=t:=by omega
   rw[e2];exact ht
  .rintro⟨h0,hl,hm⟩;obtain⟨b,rfl⟩:=cU h0;rw[bN] at hl hm;have hx:=aN hl;have hm:(c:Int)∈aA (bI f) b:=hm;rw[yA hx] at hm;exact⟨b,rfl,hl,_,hx,c,hm,oG⟩
 .rw[Rk g];refine⟨fun x=>by simp at x,fun⟨_,_,hm⟩=>?_⟩;have:=(Go.Proofs.Tryz.K.beh_in h _ _ hm).2;omega
theorem G7{f:aG}(h:qT f)(b:Nat):(c9 f b).length<=100000:=by
 rcases Nat.lt_or_ge b f.ab.length with g|g
 .rw[K3 g];have:=Gz (bs:=f.ab) (fun b hb=>by have:=(h.ends b hb).wh;omega) f.ab.length b;have:=h.mC;omega
 .rw[Rk g];simp
def K4(l:List Int):Prop:=∀ (i j:Nat) x y,i<=j->l[i]? =some x->l[j]? =some y->x<=y
end Go.Argus
namespace Go.Proofs.Tryz.K
theorem ako{f:aG}(h:qT f){c:D}(hc:Tr c)(gg:c.one=true):PCall prog 60 [.pt (bA f (bI f) (cM f.ab) c)] (au (gj (aT f) (c9 f) f.ab.length)):=
 Bg hc gg (by simp[bI]) (by simp[cM]) rfl h.mC (xm h) (KU h) (G7 h)
end Go.Proofs.Tryz.K
end
namespace Go.Argus
open Go Go.Abs
def alS(l:List Int)(j k:Nat):Prop:=(∀ p q,p<q->q<=k->p≠j->q≠j->l.getD p 0<=l.getD q 0)/\∀ q,j<q->q<=k->l.getD j 0<=l.getD q 0
def XC(l:List Int)(k:Nat):Prop:=∀ p q,p<=q->q<=k->l.getD p 0<=l.getD q 0
theorem QC{l:List Int}{j:Nat}(h:j+1<l.length)(i:Nat):(swapAt l j).getD i 0=if i=j then l.getD (j+1) 0 else if i=j+1 then l.getD j 0 else l.getD i 0:=by
 unfold swapAt;simp only[bl,List.getElem?_set,List.length_set];by_cases e:j=i
 .subst e;rw[if_pos rfl,if_pos rfl,if_pos oG];rfl
 .rw[if_neg e,if_neg (show ¬ i=j from fun h=>e h.symm)];by_cases e2:j+1=i
  .subst e2;rw[if_pos rfl,if_pos rfl,if_pos h];rfl
  .rw[if_neg e2,if_neg (show ¬ i=j+1 from fun h=>e2 h.symm)]
theorem SQ{k:Nat}:∀ {j:Nat} {l:List Int},j<=k->k<l.length->alS l j k->XC (qj l j) k
 |0,l,_,_,h=>fun p q C hq=>by
  rw[qj];rcases Nat.lt_or_ge p q with g|g
  .by_cases hp:p=0
   .subst hp;exact h.2 q g hq
   .exact h.1 p q g hq hp oG
  .have:p=q:=by omega
   subst this;exact Int.le_refl _
 |j+1,l,hj,hk,h=>by
  rw[qj];split
  .rename_i ao;have hs:=QC (l:=l) (j:=j) oG;refine SQ oG (by simpa using hk) ⟨fun p q C hq hp M=>?_,fun q hq J=>?_⟩
   .rw[hs,hs,if_neg hp,if_neg M];by_cases e1:p=j+1
    .rw[if_pos e1,if_neg oG];exact h.1 j q oG hq oG oG
    .rw[if_neg e1];by_cases e2:q=j+1
     .rw[if_pos e2];exact h.1 p j oG oG e1 oG
     .rw[if_neg e2];exact h.1 p q C hq e1 e2
   .rw[hs,hs,if_pos rfl,if_neg oG];by_cases e2:q=j+1
    .rw[if_pos e2];omega
    .rw[if_neg e2];exact h.2 q oG J
  .rename_i X;intro p q C hq;rcases Nat.lt_or_ge p q with g|g
   .by_cases e1:p=j+1
    .subst e1;exact h.2 q g hq
    .by_cases e2:q=j+1
     .subst e2;by_cases e3:p=j
      .subst e3;omega
      .have:=h.1 p j oG oG oG oG;omega
     .exact h.1 p q g hq e1 e2
   .have:p=q:=by omega
    subst this;exact Int.le_refl _
theorem Ru{i:Nat}:∀ {j:Nat} {l:List Int},j<i->j<l.length->(qj l j).getD i 0=l.getD i 0
 |0,l,_,_=>rfl
 |j+1,l,h,hl=>by
  rw[qj];split
  .rw[Ru oG oP,QC oG,if_neg oG,if_neg oG]
  .rfl
theorem Rv{l:List Int}:∀ k,k<l.length->XC (nW l k) k/\∀ i,k<i->(nW l k).getD i 0=l.getD i 0
 |0,_=>⟨fun p q C hq=>by
  have:p=q:=by omega
  subst this;exact Int.le_refl _,fun _ _=>rfl⟩
 |k+1,hk=>by
  obtain⟨h1,h2⟩:=Rv (l:=l) k oG;rw[nW];refine⟨SQ (bF _) (by simpa using hk) ⟨fun p q C hq hp J=>h1 p q oG oG,fun q hq J=>by omega⟩,fun i hi=>?_⟩;rw[Ru hi oP];exact h2 i oG
theorem Zo(l:List Int):K4 (gD l):=fun i j x y C hx hy=>by
 obtain⟨hj,J⟩:=bw.1 hy;have hl:(gD l).length=l.length:=JX l;have h:=(Rv (l:=l) (l.length - 1) oG).1 i j C oG;have e:nW l (l.length - 1)=gD l:=rfl;rw[e,bl,bl,hx,hy] at h;exact h
theorem T7{d:List Int}(hs:K4 d):∀ t,t<=d.length->(gh d t).Pairwise (·<·)/\(0<t->∀ x∈gh d t,x<=d.getD (t - 1) 0)
 |0,_=>⟨by simp[gh],fun h=>absurd h (Nat.lt_irrefl 0)⟩
 |t+1,ht=>by
  obtain⟨h1,h2⟩:=T7 hs t oG
  have hg:∀ i,i<d.length->d[i]? =some (d.getD i 0):=fun i hi=>by
   have:=aN hi;rw[bl,this];rfl
  have C:∀ x∈gh d t,x<=d.getD t 0:=fun x hx=>by
   have h0:0<t:=by
    cases t with
    |zero=>simp[gh] at hx
    |succ t=>omega
   have a:=h2 h0 x hx;have b:=hs (t - 1) t _ _ oG (hg _ oG) (hg _ oG);omega
  rw[gh];split
  .rw[List.append_nil];exact⟨h1,fun _ x hx=>by rw[Nat.add_sub_cancel];exact C x hx⟩
  .rename_i J;refine⟨?_,fun _ x hx=>?_⟩
   .rw[List.pairwise_append];refine⟨h1,oS,fun x hx y hy=>?_⟩;rw[List.mem_singleton] at hy;subst hy
    have h0:0<t:=by
     cases t with
     |zero=>simp[gh] at hx
     |succ t=>omega
    have a:=h2 h0 x hx;have b:=hs (t - 1) t _ _ oG (hg _ oG) (hg _ oG);have c:d.getD t 0≠d.getD (t - 1) 0:=fun e=>J ⟨oG,e⟩;omega
   .rw[Nat.add_sub_cancel];rw[List.mem_append,List.mem_singleton] at hx;rcases hx with hx|hx
    .exact C x hx
    .rw[hx];exact Int.le_refl _
theorem ZD{d:List Int}(hs:K4 d):(lj d).Pairwise (·<·):=(T7 hs _ (bF _)).1
theorem JW(x:End):(Go.Proofs.Tryz.K.nextR x).Pairwise (·<·):=ZD (Zo _)
theorem aar{b:Nat}:∀ (l:List Int) (L:Nat->List Int),l.Pairwise (·<·)->(∀ t∈l,0<=t)->(∀ i,(L i).Pairwise (·<·)/\∀ x∈L i,x<(b:Int))->
 ∀ i,(l.foldl (dM b) L i).Pairwise (·<·)/\(∀ x∈l.foldl (dM b) L i,x<(b:Int)+1):=fun l=>by
 have key:∀ (l:List Int) (L:Nat->List Int),l.Pairwise (·<·)->(∀ t∈l,0<=t)->∀ i,l.foldl (dM b) L i=L i++(if(i:Int)∈l then [(b:Int)] else []):=fun l=>by
  induction l with
  |nil=>intro L _ _ i;simp
  |cons t l ih=>
   intro L hp h0 i;rw[List.pairwise_cons] at hp;have ht:=h0 t oS;obtain⟨C,rfl⟩:=cU ht;rw[List.foldl_cons,ih _ hp.2 (fun t h=>h0 t (by simp[h]))];unfold dM;simp only[bN,up];by_cases e:i=C
   .subst e;rw[if_pos rfl,if_neg (fun h=>by have:=hp.1 _ h;omega),if_pos oS,List.append_nil]
   .rw[if_neg e];congr 1;have:¬ (i:Int)=C:=by omega
    simp[this]
 intro L hp h0 J i;rw[key l L hp h0 i];obtain⟨h1,h2⟩:=J i;split
 .refine⟨?_,fun x hx=>?_⟩
  .rw[List.pairwise_append];exact⟨h1,oS,fun x hx y hy=>by rw[List.mem_singleton] at hy;rw[hy];exact h2 x hx⟩
  .rw[List.mem_append,List.mem_singleton] at hx;rcases hx with hx|hx
   .have:=h2 x hx;omega
   .omega
 .rw[List.append_nil];exact⟨h1,fun x hx=>by have:=h2 x hx;omega⟩
theorem JR{bs:List b7}(h0:∀ b∈bs,∀ t∈Go.Proofs.Tryz.K.nextR b.fin,0<=t):∀ k i,(bH bs k i).Pairwise (·<·)/\∀ x∈bH bs k i,x<(k:Int)
 |0,i=>by simp[bH]
 |k+1,i=>by
  have ih:=JR h0 k;have e:bH bs (k+1)=qS bs (bH bs k) k:=by rw[bH,List.range_succ,List.foldl_append];rfl
  rw[e];unfold qS;cases hx:bs[k]? with
  |none=>exact⟨(ih i).1,fun x hx=>by have:=(ih i).2 x hx;omega⟩
  |some b=>
   obtain⟨h1,h2⟩:=aar (b:=k) (Go.Proofs.Tryz.K.nextR b.fin) (bH bs k) (JW _) (h0 b (bU hx)) ih i;exact⟨h1,fun x hx=>by have:=h2 x hx;omega⟩
end Go.Argus
section
open Go Go.Abs Go.Proofs Go.Argus
namespace Go.Argus
def ad4(p:Int×List Int):List D:=[I p.1,au p.2]
@[simp] theorem aob (p : Int × List Int) : (ad4 p).length = 2 := rfl
end Go.Argus
end
namespace Go.Argus
open Go Go.Abs
open Go.Proofs.Tryz.K (nextR)
def vK(w v:List Int):Prop:=∀ r,eR w r=true->eR v r=true
theorem vK.refl(w:List Int):vK w w:=fun _ h=>h
theorem vK.trans{u w v:List Int}(h:vK u w)(k:vK w v):vK u v:=fun r x=>k r (h r x)
structure ff(w:List Int):Prop where
 len:w.length=20
 all:gl w
theorem ff.gC{w:List Int}(h:ff w)(n:Int):ff (gC w n):=⟨by simp[h.len],PO h.all⟩
theorem abG{w v:List Int}(C:ff w)(hv:ff v)(h:vK w v)(n:Int):vK (gC w n) (gC v n):=by
 unfold Argus.gC;split
 .by_cases hn:n.toNat / 64<20
  .intro r;rw[KB C.all (by rw[C.len];exact hn),KB hv.all (by rw[hv.len];exact hn),Bool.or_eq_true,Bool.or_eq_true];exact Or.imp (h r) id
  .unfold wP;rw[List.set_eq_of_length_le (by rw[C.len];omega),List.set_eq_of_length_le (by rw[hv.len];omega)];exact h
 .exact h
theorem gl.fM{w v:List Int}(h:gl w)(hv:gl v):∀ k,gl (fM w v k)
 |0=>h
 |k+1=>(gl.fM h hv k).set (Qh ((gl.fM h hv k).get _)).1
theorem QD{w v:List Int}(h:gl w)(hv:gl v):∀ k,k<=w.length->∀ r,eR (fM w v k) r=(eR w r&&(eR v r|| !decide (r / 64<k)))
 |0,_,r=>by simp[Argus.fM]
 |k+1,hk,r=>by
  have ih:=QD h hv k oG;rw[Argus.fM,SU oP];split
  .rename_i e;have h1:=ih r;have h2:¬ r / 64<k:=by omega
   simp only[h2,decide_false,Bool.not_false,Bool.or_true,Bool.and_true] at h1;unfold eR at h1;rw[e] at h1;rw[T8 ((gl.fM h hv k).get _) (hv.get _),h1];unfold eR;rw[e];simp
  .rename_i e;rw[ih r];have:decide (r / 64<k)=decide (r / 64<k+1):=decide_eq_decide.2 oG;rw[this]
theorem KC{w v:List Int}(C:ff w)(hv:ff v)(r:Nat):eR (iJ w v) r=(eR w r&&eR v r):=by
 unfold iJ;rw[QD C.all hv.all 20 (by rw[C.len];exact bF _)];by_cases hr:r / 64<20
 .simp[hr]
 .have:eR w r=false:=by
   unfold eR;rw[bl,List.getElem?_eq_none (by rw[C.len];omega)];simp
  simp[this]
theorem ff.Nk{w v:List Int}(C:ff w)(hv:ff v):ff (iJ w v):=⟨by simp[C.len],C.all.fM hv.all 20⟩
structure XD(s t:List Int×Bool):Prop where
 l:ff s.1
 r:ff t.1
 sub:vK s.1 t.1
 ok:s.2=true->t.2=true
theorem QE{w v:List Int}(J:ff w)(hv:ff v)(h:vK w v):∀ (rs:List Int) {a b:Bool},(a=true->b=true)->iW w a rs=true->iW v b rs=true
 |[],_,_,dt,hx=>dt hx
 |r::rs,a,b,dt,hx=>by
  have hx:iW w (a&&kT w r.toNat) rs=true:=hx;refine QE J hv h rs (a:=a&&kT w r.toNat) (b:=b&&kT v r.toNat) ?_ hx;rw[aM,aM,Ae J.all,Ae hv.all];exact fun C=>⟨dt C.1,h _ C.2⟩
theorem GZ{s t:List Int×Bool}(h:XD s t)(x:bC):XD (l6 s x) (l6 t x):=by
 refine⟨h.l.gC _,h.r.gC _,abG h.l h.r h.sub _,?_⟩;unfold l6;simp only[aM,Bool.or_eq_true];rintro⟨a,b⟩;refine⟨QE h.l h.r h.sub _ h.ok a,b.imp id ?_⟩;rw[Ae h.l.all,Ae h.r.all];exact h.sub _
theorem GS{α:Type}{f:CS->α->CS}(hk:∀ s a,s.ch=true->(f s a).ch=true)(hn:∀ s a,(f s a).ch=false->f s a=s):∀ (l:List α) (s:CS),(l.foldl f s).ch=false->l.foldl f s=s/\∀ a∈l,f s a=s
 |[],s,_=>⟨rfl,fun a ha=>by simp at ha⟩
 |a::l,s,h=>by
  obtain⟨h1,h2⟩:=GS hk hn l (f s a) h;have h3:f s a=s:=hn s a (by rw[<- h1];exact h);rw[h3] at h1 h2;refine⟨by rw[List.foldl_cons,h3];exact h1,fun b hb=>?_⟩;rcases List.mem_cons.1 hb with rfl|hb
  .exact h3
  .exact h2 b hb
theorem Rw{α:Type}{f:CS->α->CS}(hk:∀ s a,s.ch=true->(f s a).ch=true):∀ (l:List α) (s:CS),s.ch=true->(l.foldl f s).ch=true
 |[],_,h=>h
 |a::l,s,h=>Rw hk l (f s a) (hk s a h)
theorem Lw{x:End}{w:List Int}(s:CS)(t:Int)(h:s.ch=true):(cW x w s t).ch=true:=by
 unfold cW;split
 .rfl
 .exact h
theorem T9{x:End}{w:List Int}(s:CS)(t:Int)(h:(cW x w s t).ch=false):cW x w s t=s:=by
 unfold cW at h ⊢;split
 .rename_i hc;rw[if_pos hc] at h;cases h
 .rfl
theorem ac6{bs:List b7}(s:CS)(k:Nat)(h:s.ch=true):(dX bs s k).ch=true:=by
 unfold dX;split
 .exact h
 .split
  .exact Rw Lw _ s h
  .exact h
theorem ac7{bs:List b7}(s:CS)(k:Nat)(h:(dX bs s k).ch=false):dX bs s k=s:=by
 unfold dX at h ⊢;split
 .rfl
 .rename_i x hx;rw[hx] at h;simp only at h;split
  .rename_i hr;rw[if_pos hr] at h;exact(GS Lw T9 _ s h).1
  .rfl
structure XE(bs:List b7)(s:CS):Prop where
 fix:∀ b x,bs[b]? =some x->s.re.getD b false=true->∀ t∈nextR x.fin,s.re.getD t.toNat false=true/\iJ (s.ws.getD t.toNat []) (ia x.fin t (jL x (s.ws.getD b [])).1)=s.ws.getD t.toNat []
theorem ac8{bs:List b7}{s:CS}(h:(kJ bs s).ch=false):kJ bs s=⟨s.ws,s.re,false⟩/\XE bs (kJ bs s):=by
 obtain⟨h1,h2⟩:=GS (ac6 (bs:=bs)) (ac7 (bs:=bs)) (range bs.length) ⟨s.ws,s.re,false⟩ h;have e:kJ bs s=⟨s.ws,s.re,false⟩:=h1;refine⟨e,⟨fun b x hx hr t ht=>?_⟩⟩;rw[e] at hr ⊢;have h3:=h2 b (List.mem_range.2 (bw.1 hx).1);have h4:(dX bs ⟨s.ws,s.re,false⟩ b).ch=false:=by rw[h3]
 unfold dX at h3 h4;rw[hx] at h3 h4;simp only at h3 h4 hr;rw[if_pos hr] at h3 h4;have h5:=(GS Lw T9 _ _ h4).2 t ht;have C:(cW x.fin (jL x (s.ws.getD b [])).1 ⟨s.ws,s.re,false⟩ t).ch=false:=by rw[h5]
 unfold cW at C;split at C
 .cases C
 .rename_i hc;have hc:=not_or.1 hc;refine⟨by simpa using hc.1,Classical.byContradiction fun J=>hc.2 J⟩
theorem Rx{bs:List b7}{n:Nat}{J:CS->Prop}(hb:∀ b∈bs,tR n b)(C:∀ s,gE n s->J s->J (kJ bs s)):∀ (k:Nat) (s:CS),gE n s->J s->rR s<k->gE n (nD bs k s)/\XE bs (nD bs k s)/\J (nD bs k s)
 |0,s,_,_,h=>absurd h (Nat.not_lt_zero _)
 |k+1,s,hs,hj,h=>by
  obtain⟨M,X⟩:=Dz hb hs;unfold nD;split
  .rename_i hc;refine Rx hb C k _ M (C s hs hj) ?_;unfold pG at X;rw[if_pos hc] at X;omega
  .rename_i hc;exact⟨M,(ac8 (by simpa using hc)).2,C s hs hj⟩
theorem ac9{bs:List b7}{n:Nat}{J:CS->Prop}(hb:∀ b∈bs,tR n b)(h0:∀ s,J s->J ⟨s.ws,s.re,false⟩)(C:∀ s k,gE n s->J s->J (dX bs s k)){s:CS}(hs:gE n s)(h:J s):J (kJ bs s):=by
 unfold kJ
 have:∀ (l:List Nat) (s:CS),gE n s->J s->J (l.foldl (dX bs) s):=fun l=>by
  induction l with
  |nil=>exact fun s _ h=>h
  |cons a l ih=>exact fun s hs h=>ih _ (Kq hb hs).1 (C s a hs h)
 exact this _ _ ⟨hs.lw,hs.lr,hs.kG,hs.rg⟩ (h0 s h)
theorem ael{bs:List b7}{n:Nat}{J:CS->Prop}(hb:∀ b∈bs,tR n b){s:CS}{k:Nat}(hs:gE n s)(h:J s)
 (C:∀ x,bs[k]? =some x->s.re.getD k false=true->∀ u,gE n u->J u->∀ t∈nextR x.fin,J (cW x.fin (jL x (s.ws.getD k [])).1 u t)):J (dX bs s k):=by
 unfold dX;split
 .exact h
 .rename_i x hx;split
  .rename_i hr;have C:=C x hx hr;have X:=(hb x (bU hx)).to;generalize (jL x (s.ws.getD k [])).1=w at C
   have:∀ (l:List Int),(∀ t∈l,t∈nextR x.fin)->∀ u,gE n u->J u->J (l.foldl (cW x.fin w) u):=fun l=>by
    induction l with
    |nil=>exact fun _ u _ h=>h
    |cons a l ih=>exact fun hl u M h=>ih (fun t ht=>hl t (by simp[ht])) _ (Gw M (X a (hl a oS))).1 (C u M h a (hl a oS))
   exact this _ (fun _ h=>h) s hs h
  .exact h
theorem gE.nw{n:Nat}{s:CS}(h:gE n s){b:Nat}(hb:b<n):ff (s.ws.getD b []):=by
 have hl:b<s.ws.length:=by rw[h.lw];exact hb
 have hx:s.ws[b]? =some s.ws[b]:=aN hl;rw[getD_some hx];have hm:s.ws[b]∈s.ws:=cy _;exact⟨h.kG _ hm,h.rg _ hm⟩
section
variable{bs:List b7}{args:Nat}(hb:∀ b∈bs,tR bs.length b)
include hb
end
theorem Av.ne{E:Nat->Nat->Prop}{w x:Nat}(h:Av E w x):x≠w:=by
 cases h with
 |zero h=>exact h
 |step _ _ h=>exact h
end Go.Argus
namespace Go.Proofs.Tryz.K
open Go.Abs
theorem abw:drawInfo (Z eU 16)=some [(17,19)]:=kr
theorem abx:drawInfo (Z eU 18)=some [(0,2)]:=kr
theorem aby:drawInfo (Z eU 26)=some [(0,9)]:=kr
theorem abz:drawInfo (Z eU 27)=some []:=kr
theorem abA:drawInfo (Z eU 29)=some [(0,7)]:=kr
theorem alf:eU=(S1 (G1 eU 0) (S1 (G1 eU 1) (S1 (S1 (G1 eU 2) (C1 17 (S1 (G1 eU 3) .ret) K1)) (S1 (G1 eU 4) (S1 (G1 eU 5) (S1 (S1 (G1 eU 6) (B1 0 (.loop (S1 (S1 (G1 eU 7) (C1 26 K1 (X1 0))) (S1 (B1 1 (S1 (S1 (G1 eU 9) (C1 33 (X1 1) K1)) (S1 (G1 eU 10) (S1 (G1 eU 11) (S1 (S1 (G1 eU 12) (B1 2 (.loop (S1 (S1 (G1 eU 13) (C1 47 K1 (X1 2))) (S1 (B1 3 (S1 (G1 eU 15) (S1 (S1 (G2 eU 16) (C1 76 (S1 (G1 eU 17) .ret) K1)) (S1 (G2 eU 18) (S1 (S1 (G1 eU 19) (C1 83 (G1 eU 20) K1)) (S1 (G1 eU 21) (B1 4 (.loop (S1 (S1 (G1 eU 22) (C1 101 K1 (X1 4))) (S1 (B1 5 (S1 (G1 eU 24) (S1 (S1 (G1 eU 25) (C1 115 (X1 5) K1)) (S1 (G2 eU 26) (S1 (G2 eU 27) (C1 136 (S1 (G1 eU 28) .ret) K1)))))) (G1 eU 23))))))))))) (G1 eU 14)))))) (S1 (G2 eU 29) (C1 146 (S1 (G1 eU 30) .ret) K1))))))) (G1 eU 8)))))) (S1 (G1 eU 31) .ret))))))):=kr
theorem acQ:drawInfo (Z pY 9)=some [(3,14),(4,14)]:=kr
theorem ala:pY=(S1 (G1 pY 0) (S1 (G1 pY 1) (S1 (S1 (G1 pY 2) (B1 0 (.loop (S1 (S1 (G1 pY 3) (C1 15 K1 (X1 0))) (S1 (B1 1 (S1 (G1 pY 5) (S1 (G1 pY 6) (B1 2 (.loop (S1 (S1 (G1 pY 7) (C1 24 K1 (X1 2))) (S1 (B1 3 (G2 pY 9)) (G1 pY 8)))))))) (G1 pY 4)))))) (S1 (G1 pY 10) .ret)))):=kr
theorem ak9:u7=(S1 (G1 u7 0) (S1 (G1 u7 1) (S1 (G1 u7 2) (S1 (S1 (G1 u7 3) (B1 0 (.loop (S1 (S1 (G1 u7 4) (C1 18 K1 (X1 0))) (S1 (B1 1 (G1 u7 6)) (G1 u7 5)))))) (S1 (G1 u7 7) .ret))))):=kr
theorem ak7:u9=(S1 (G1 u9 0) (S1 (G1 u9 1) (S1 (B1 0 (.loop (S1 (S1 (G1 u9 2) (C1 18 K1 (X1 0))) (B1 1 (G1 u9 3))))) (S1 (S1 (G1 u9 4) (C1 32 (S1 (G1 u9 5) .ret) K1)) (S1 (G1 u9 6) (S1 (G1 u9 7) .ret)))))):=kr
theorem aad:drawInfo (Z eJ 12)=some []:=kr
theorem aae:drawInfo (Z eJ 26)=some []:=kr
theorem ahV:eJ=(S1 (G1 eJ 0) (S1 (G1 eJ 1) (S1 (S1 (G1 eJ 2) (C1 18 (S1 (G1 eJ 3) .ret) K1)) (S1 (G1 eJ 4) (S1 (S1 (G1 eJ 5) (B1 0 (.loop (S1 (S1 (G1 eJ 6) (C1 25 K1 (X1 0))) (S1 (B1 1 (S1 (G1 eJ 8) (S1 (G1 eJ 9) (B1 2 (.loop (S1 (S1 (G1 eJ 10) (C1 38 K1 (X1 2))) (S1 (B1 3 (S1 (G2 eJ 12) (S1 (G1 eJ 13) (C1 48 (S1 (G1 eJ 14) .ret) K1)))) (G1 eJ 11)))))))) (G1 eJ 7)))))) (S1 (G1 eJ 15) (S1 (G1 eJ 16) (S1 (S1 (G1 eJ 17) (B1 4 (.loop (S1 (S1 (G1 eJ 18) (C1 60 K1 (X1 4))) (S1 (B1 5 (S1 (G1 eJ 20) (S1 (S1 (G1 eJ 21) (C1 71 (S1 (G1 eJ 22) .ret) K1)) (S1 (S1 (G1 eJ 23) (B1 6 (.loop (S1 (S1 (G1 eJ 24) (C1 75 K1 (X1 6))) (S1 (B1 7 (S1 (G2 eJ 26) (C1 106 (S1 (G1 eJ 27) .ret) K1))) (G1 eJ 25)))))) (S1 (G1 eJ 28) (S1 (G1 eJ 29) (S1 (S1 (G1 eJ 30) (C1 117 (S1 (G1 eJ 31) .ret) K1)) (S1 (G1 eJ 32) (C1 120 (S1 (S1 (G1 eJ 33) (C1 125 (S1 (G1 eJ 34) .ret) K1)) (G1 eJ 35)) K1))))))))) (G1 eJ 19)))))) (S1 (G1 eJ 36) .ret))))))))):=kr
theorem aak:drawInfo (Z eK 19)=some []:=kr
theorem aal:drawInfo (Z eK 25)=some [(0,8)]:=kr
theorem aam:drawInfo (Z eK 30)=some []:=kr
theorem aan:drawInfo (Z eK 32)=some []:=kr
theorem ah6:eK=(S1 (G1 eK 0) (S1 (G1 eK 1) (S1 (G1 eK 2) (S1 (S1 (G1 eK 3) (B1 0 (.loop (S1 (S1 (G1 eK 4) (C1 30 K1 (X1 0))) (S1 (B1 1 (G1 eK 6)) (G1 eK 5)))))) (S1 (G1 eK 7) (S1 (S1 (G1 eK 8) (B1 2 (.loop (S1 (S1 (G1 eK 9) (C1 45 K1 (X1 2))) (S1 (B1 3 (G1 eK 11)) (G1 eK 10)))))) (S1 (S1 (G1 eK 12) (B1 4 (.loop (S1 (S1 (G1 eK 13) (C1 54 K1 (X1 4))) (B1 5 (S1 (G1 eK 14) (S1 (G1 eK 15) (B1 6 (.loop (S1 (S1 (G1 eK 16) (C1 58 K1 (X1 6))) (S1 (B1 7 (S1 (S1 (G1 eK 18) (C1 65 (X1 7) K1)) (S1 (G2 eK 19) (S1 (G1 eK 20) (S1 (G1 eK 21) (B1 8 (.loop (S1 (S1 (G1 eK 22) (C1 79 K1 (X1 8))) (S1 (B1 9 (S1 (G1 eK 24) (S1 (G2 eK 25) (S1 (G1 eK 26) (S1 (S1 (G1 eK 27) (B1 10 (.loop (S1 (S1 (G1 eK 28) (C1 106 K1 (X1 10))) (S1 (B1 11 (G2 eK 30)) (G1 eK 29)))))) (S1 (G1 eK 31) (C1 124 (S1 (G2 eK 32) (G1 eK 33)) K1))))))) (G1 eK 23)))))))))) (G1 eK 17)))))))))))) (S1 (G1 eK 34) .ret)))))))):=kr
theorem abl:drawInfo (Z uS 4)=some []:=kr
theorem ahw:uS=(S1 (G1 uS 0) (S1 (S1 (G1 uS 1) (B1 0 (.loop (S1 (S1 (G1 uS 2) (C1 9 K1 (X1 0))) (S1 (B1 1 (S1 (G2 uS 4) (C1 20 (S1 (G1 uS 5) .ret) K1))) (G1 uS 3)))))) (S1 (G1 uS 6) .ret))):=kr
theorem ahE:fT=(S1 (G1 fT 0) (S1 (S1 (G1 fT 1) (B1 0 (S1 (S1 (G1 fT 2) (C1 5 K1 (S1 (G1 fT 3) (C1 5 K1 (S1 (G1 fT 4) (C1 5 K1 (S1 (G1 fT 5) (C1 5 K1 (S1 (G1 fT 6) (C1 5 K1 (S1 (G1 fT 7) (C1 5 K1 (S1 (G1 fT 8) (C1 5 K1 (S1 (G1 fT 9) (C1 5 K1 (G1 fT 10))))))))))))))))) (C1 5 (S1 (G1 fT 11) .ret) (S1 (S1 (G1 fT 12) (C1 18 K1 (S1 (G1 fT 13) (C1 18 K1 (S1 (G1 fT 14) (C1 18 K1 (S1 (G1 fT 15) (C1 18 K1 (S1 (G1 fT 16) (C1 18 K1 (S1 (G1 fT 17) (C1 18 K1 (S1 (G1 fT 18) (C1 18 K1 (S1 (G1 fT 19) (C1 18 K1 (S1 (G1 fT 20) (C1 18 K1 (S1 (G1 fT 21) (C1 18 K1 (S1 (G1 fT 22) (C1 18 K1 (S1 (G1 fT 23) (C1 18 K1 (G1 fT 24))))))))))))))))))))))))) (C1 18 (S1 (G1 fT 25) .ret) (S1 (G1 fT 26) (C1 37 (S1 (G1 fT 27) .ret) (S1 (G1 fT 28) (C1 43 (S1 (G1 fT 29) .ret) K1)))))))))) (S1 (G1 fT 30) .ret))):=kr
theorem abm:drawInfo (Z wC 3)=some [(2,3),(2,4),(0,5),(1,5)]:=kr
theorem ahy:wC=(S1 (G1 wC 0) (S1 (S1 (G1 wC 1) (C1 7 (S1 (G1 wC 2) .ret) K1)) (S1 (G2 wC 3) (S1 (G1 wC 4) (S1 (G1 wC 5) .ret))))):=kr
theorem ahA:hC=(S1 (G1 hC 0) (S1 (S1 (G1 hC 1) (B1 0 (S1 (S1 (G1 hC 2) (C1 5 K1 (S1 (G1 hC 3) (C1 5 K1 (S1 (G1 hC 4) (C1 5 K1 (S1 (G1 hC 5) (C1 5 K1 (S1 (G1 hC 6) (C1 5 K1 (S1 (G1 hC 7) (C1 5 K1 (S1 (G1 hC 8) (C1 5 K1 (S1 (G1 hC 9) (C1 5 K1 (S1 (G1 hC 10) (C1 5 K1 (S1 (G1 hC 11) (C1 5 K1 (S1 (G1 hC 12) (C1 5 K1 (S1 (G1 hC 13) (C1 5 K1 (S1 (G1 hC 14) (C1 5 K1 (S1 (G1 hC 15) (C1 5 K1 (S1 (G1 hC 16) (C1 5 K1 (S1 (G1 hC 17) (C1 5 K1 (S1 (G1 hC 18) (C1 5 K1 (S1 (G1 hC 19) (C1 5 K1 (S1 (G1 hC 20) (C1 5 K1 (S1 (G1 hC 21) (C1 5 K1 (S1 (G1 hC 22) (C1 5 K1 (G1 hC 23))))))))))))))))))))))))))))))))))))))))))) (C1 5 (S1 (G1 hC 24) .ret) K1)))) (S1 (G1 hC 25) .ret))):=kr
theorem aah:drawInfo (Z pQ 10)=some [(0,2)]:=kr
theorem ah4:pQ=(S1 (G1 pQ 0) (S1 (G1 pQ 1) (S1 (G1 pQ 2) (S1 (G1 pQ 3) (S1 (S1 (G1 pQ 4) (B1 0 (.loop (S1 (S1 (G1 pQ 5) (C1 24 K1 (X1 0))) (S1 (B1 1 (G1 pQ 7)) (G1 pQ 6)))))) (S1 (S1 (G1 pQ 8) (C1 52 (S1 (G1 pQ 9) .ret) K1)) (S1 (G2 pQ 10) .ret))))))):=kr
theorem abr:drawInfo (Z qN 5)=some [(0,5)]:=kr
theorem abt:drawInfo (Z qN 7)=some []:=kr
theorem ah2:qN=(S1 (G1 qN 0) (S1 (G1 qN 1) (S1 (S1 (G1 qN 2) (B1 0 (.loop (S1 (S1 (G1 qN 3) (C1 18 K1 (X1 0))) (S1 (B1 1 (S1 (G2 qN 5) (S1 (G1 qN 6) (C1 33 (G2 qN 7) K1)))) (G1 qN 4)))))) (S1 (G1 qN 8) .ret)))):=kr
theorem ahG:lV=(S1 (G1 lV 0) (S1 (S1 (G1 lV 1) (B1 0 (S1 (S1 (G1 lV 2) (C1 5 K1 (S1 (G1 lV 3) (C1 5 K1 (G1 lV 4))))) (C1 5 (S1 (G1 lV 5) .ret) (S1 (G1 lV 6) (C1 12 (S1 (S1 (G1 lV 7) (C1 16 (S1 (G1 lV 8) .ret) K1)) (S1 (G1 lV 9) .ret)) (S1 (G1 lV 10) (C1 20 (S1 (G1 lV 11) .ret) (S1 (S1 (G1 lV 12) (C1 25 K1 (G1 lV 13))) (C1 25 (S1 (G1 lV 14) .ret) K1)))))))))) (S1 (G1 lV 15) .ret))):=kr
theorem ahv:oR=(S1 (G1 oR 0) (S1 (G1 oR 1) (S1 (S1 (G1 oR 2) (C1 12 (G1 oR 3) K1)) (S1 (S1 (G1 oR 4) (C1 25 (G1 oR 5) K1)) (S1 (S1 (G1 oR 6) (B1 0 (.loop (S1 (S1 (G1 oR 7) (C1 35 K1 (X1 0))) (S1 (B1 1 (G1 oR 9)) (G1 oR 8)))))) (S1 (S1 (G1 oR 10) (C1 49 (G1 oR 11) K1)) (S1 (G1 oR 12) .ret))))))):=kr
theorem ahC:si=(S1 (G1 si 0) (S1 (S1 (G1 si 1) (B1 0 (S1 (G1 si 2) (C1 5 (S1 (G1 si 3) .ret) (S1 (S1 (G1 si 4) (C1 10 K1 (G1 si 5))) (C1 10 (S1 (G1 si 6) .ret) (S1 (G1 si 7) (C1 15 (S1 (G1 si 8) .ret) K1)))))))) (S1 (G1 si 9) .ret))):=kr
theorem Z8:drawInfo (Z jM 16)=some []:=kr
theorem ahI:jM=(S1 (G1 jM 0) (S1 (S1 (G1 jM 1) (C1 58 (S1 (G1 jM 2) .ret) K1)) (S1 (S1 (G1 jM 3) (B1 0 (.loop (S1 (S1 (G1 jM 4) (C1 63 K1 (X1 0))) (S1 (B1 1 (S1 (G1 jM 6) (C1 93 (S1 (G1 jM 7) .ret) K1))) (G1 jM 5)))))) (S1 (S1 (G1 jM 8) (B1 2 (.loop (S1 (S1 (G1 jM 9) (C1 98 K1 (X1 2))) (S1 (B1 3 (S1 (G1 jM 11) (C1 114 (S1 (G1 jM 12) .ret) K1))) (G1 jM 10)))))) (S1 (S1 (G1 jM 13) (B1 4 (.loop (S1 (S1 (G1 jM 14) (C1 119 K1 (X1 4))) (S1 (B1 5 (S1 (G2 jM 16) (C1 146 (S1 (G1 jM 17) .ret) K1))) (G1 jM 15)))))) (S1 (G1 jM 18) .ret)))))):=kr
theorem ahg:Hu=(S1 (G1 Hu 0) (S1 (G1 Hu 1) .ret)):=kr
theorem Z9:drawInfo (Z dG 35)=some []:=kr
theorem Z':drawInfo (Z dG 40)=some []:=kr
theorem ahN:dG=(S1 (G1 dG 0) (S1 (S1 (G1 dG 1) (B1 0 (S1 (G1 dG 2) (C1 10 (S1 (G1 dG 3) .ret) (S1 (G1 dG 4) (C1 25 (S1 (G1 dG 5) .ret) (S1 (S1 (G1 dG 6) (C1 37 K1 (S1 (G1 dG 7) (C1 37 K1 (S1 (G1 dG 8) (C1 37 K1 (G1 dG 9))))))) (C1 37 (S1 (G1 dG 10) .ret) (S1 (G1 dG 11) (C1 62 (S1 (G1 dG 12) .ret) (S1 (G1 dG 13) (C1 80 (S1 (G1 dG 14) .ret) (S1 (G1 dG 15) (C1 96 (S1 (G1 dG 16) .ret) (S1 (G1 dG 17) (C1 111 (S1 (G1 dG 18) .ret) (S1 (G1 dG 19) (C1 138 (S1 (G1 dG 20) .ret) (S1 (G1 dG 21) (C1 159 (S1 (G1 dG 22) .ret) (S1 (S1 (G1 dG 23) (C1 180 K1 (G1 dG 24))) (C1 180 (S1 (G1 dG 25) .ret) (S1 (G1 dG 26) (C1 197 (S1 (G1 dG 27) .ret) (S1 (G1 dG 28) (C1 207 (S1 (G1 dG 29) .ret) (S1 (G1 dG 30) (C1 217 (S1 (G1 dG 31) .ret) (S1 (G1 dG 32) (C1 229 (S1 (G1 dG 33) .ret) (S1 (G1 dG 34) (C1 241 (S1 (S1 (G2 dG 35) (C1 268 (S1 (G1 dG 36) .ret) K1)) (S1 (S1 (G1 dG 37) (B1 1 (.loop (S1 (S1 (G1 dG 38) (C1 273 K1 (X1 1))) (S1 (B1 2 (S1 (G2 dG 40) (C1 285 (S1 (G1 dG 41) .ret) K1))) (G1 dG 39)))))) (S1 (G1 dG 42) .ret))) K1)))))))))))))))))))))))))))))))) (S1 (G1 dG 43) .ret))):=kr
theorem aab:drawInfo (Z hD 10)=some []:=kr
theorem aac:drawInfo (Z hD 22)=some []:=kr
theorem ahT:hD=(S1 (G1 hD 0) (S1 (G1 hD 1) (S1 (S1 (G1 hD 2) (B1 0 (S1 (G1 hD 3) (C1 10 (S1 (G1 hD 4) .ret) (S1 (G1 hD 5) (C1 20 (S1 (G1 hD 6) .ret) (S1 (G1 hD 7) (C1 42 (S1 (S1 (G1 hD 8) (C1 50 (S1 (G1 hD 9) .ret) K1)) (S1 (G2 hD 10) .ret)) (S1 (G1 hD 11) (C1 77 (S1 (G1 hD 12) .ret) (S1 (G1 hD 13) (C1 86 (S1 (G1 hD 14) .ret) (S1 (G1 hD 15) (C1 107 (S1 (G1 hD 16) .ret) (S1 (G1 hD 17) (C1 150 (S1 (G1 hD 18) .ret) (S1 (G1 hD 19) (C1 183 (S1 (G1 hD 20) .ret) (S1 (G1 hD 21) (C1 216 (S1 (G2 hD 22) .ret) K1)))))))))))))))))))) (S1 (G1 hD 23) .ret)))):=kr
theorem abq:drawInfo (Z pR 9)=some []:=kr
theorem ah0:pR=(S1 (G1 pR 0) (S1 (S1 (G1 pR 1) (C1 8 (S1 (G1 pR 2) .ret) K1)) (S1 (S1 (G1 pR 3) (C1 11 (S1 (G1 pR 4) .ret) K1)) (S1 (G1 pR 5) (S1 (S1 (G1 pR 6) (B1 0 (.loop (S1 (S1 (G1 pR 7) (C1 22 K1 (X1 0))) (S1 (B1 1 (G2 pR 9)) (G1 pR 8)))))) (S1 (G1 pR 10) .ret)))))):=kr
theorem ahb:wD=(S1 (G1 wD 0) (S1 (S1 (G1 wD 1) (B1 0 (.loop (S1 (S1 (G1 wD 2) (C1 7 K1 (X1 0))) (S1 (B1 1 (S1 (G1 wD 4) (C1 19 (S1 (G1 wD 5) .ret) K1))) (G1 wD 3)))))) (S1 (G1 wD 6) .ret))):=kr
theorem ag':Hv=(S1 (G1 Hv 0) (S1 (G1 Hv 1) .ret)):=kr
theorem ahe:wE=(S1 (G1 wE 0) (S1 (S1 (G1 wE 1) (B1 0 (.loop (S1 (S1 (G1 wE 2) (C1 7 K1 (X1 0))) (S1 (B1 1 (S1 (G1 wE 4) (C1 31 (S1 (G1 wE 5) .ret) K1))) (G1 wE 3)))))) (S1 (G1 wE 6) .ret))):=kr
theorem ahr:lX=(S1 (G1 lX 0) (S1 (S1 (G1 lX 1) (B1 0 (.loop (S1 (S1 (G1 lX 2) (C1 9 K1 (X1 0))) (S1 (B1 1 (S1 (G1 lX 4) (B1 2 (S1 (G1 lX 5) (C1 15 (G1 lX 6) (S1 (G1 lX 7) (C1 18 (G1 lX 8) (S1 (G1 lX 9) (C1 21 (G1 lX 10) (S1 (G1 lX 11) (C1 24 (G1 lX 12) (S1 (G1 lX 13) (C1 27 (G1 lX 14) K1))))))))))))) (G1 lX 3)))))) (S1 (G1 lX 15) .ret))):=kr
theorem ahi:pS=(S1 (G1 pS 0) (S1 (S1 (G1 pS 1) (C1 17 (S1 (G1 pS 2) .ret) K1)) (S1 (G1 pS 3) (S1 (S1 (G1 pS 4) (B1 0 (S1 (G1 pS 5) (C1 25 (S1 (G1 pS 6) .ret) (S1 (G1 pS 7) (C1 29 (S1 (G1 pS 8) .ret) (S1 (G1 pS 9) (C1 33 (S1 (G1 pS 10) .ret) K1)))))))) (S1 (G1 pS 11) .ret))))):=kr
theorem abh:drawInfo (Z Eb 1)=some []:=kr
theorem ahk:Eb=(S1 (G1 Eb 0) (S1 (G2 Eb 1) .ret)):=kr
theorem abi:drawInfo (Z tz 4)=some []:=kr
theorem ahl:tz=(S1 (G1 tz 0) (S1 (S1 (G1 tz 1) (B1 0 (.loop (S1 (S1 (G1 tz 2) (C1 10 K1 (X1 0))) (S1 (B1 1 (S1 (G2 tz 4) (S1 (G1 tz 5) (C1 20 (S1 (G1 tz 6) .ret) K1)))) (G1 tz 3)))))) (S1 (G1 tz 7) .ret))):=kr
theorem abj:drawInfo (Z Ec 1)=some []:=kr
theorem ahn:Ec=(S1 (G1 Ec 0) (S1 (G2 Ec 1) .ret)):=kr
theorem aht:ix=(S1 (G1 ix 0) (S1 (G1 ix 1) (S1 (S1 (G1 ix 2) (B1 0 (.loop (S1 (S1 (G1 ix 3) (C1 10 K1 (X1 0))) (S1 (B1 1 (S1 (G1 ix 5) (B1 2 (S1 (G1 ix 6) (C1 16 (G1 ix 7) (S1 (G1 ix 8) (C1 19 (G1 ix 9) (S1 (G1 ix 10) (C1 22 (G1 ix 11) (S1 (G1 ix 12) (C1 25 (G1 ix 13) (S1 (G1 ix 14) (C1 28 (G1 ix 15) (S1 (G1 ix 16) (C1 31 (G1 ix 17) (S1 (G1 ix 18) (C1 35 (G1 ix 19) (S1 (G1 ix 20) (C1 38 (G1 ix 21) K1))))))))))))))))))) (G1 ix 4)))))) (S1 (S1 (G1 ix 22) (C1 52 (S1 (G1 ix 23) .ret) K1)) (S1 (G1 ix 24) .ret))))):=kr
theorem ahM:lm=(S1 (G1 lm 0) (S1 (S1 (G1 lm 1) (B1 0 (S1 (S1 (G1 lm 2) (C1 7 K1 (S1 (G1 lm 3) (C1 7 K1 (S1 (G1 lm 4) (C1 7 K1 (S1 (G1 lm 5) (C1 7 K1 (G1 lm 6))))))))) (C1 7 (S1 (G1 lm 7) .ret) (S1 (G1 lm 8) (C1 33 (S1 (G1 lm 9) .ret) (S1 (G1 lm 10) (C1 49 (S1 (G1 lm 11) .ret) (S1 (G1 lm 12) (C1 65 (S1 (G1 lm 13) .ret) (S1 (G1 lm 14) (C1 87 (S1 (G1 lm 15) .ret) K1)))))))))))) (S1 (G1 lm 16) .ret))):=kr
theorem abn:drawInfo (Z lY 6)=some []:=kr
theorem aaa:drawInfo (Z lY 11)=some []:=kr
theorem ahQ:lY=(S1 (G1 lY 0) (S1 (S1 (G1 lY 1) (C1 22 (S1 (G1 lY 2) .ret) K1)) (S1 (S1 (G1 lY 3) (B1 0 (.loop (S1 (S1 (G1 lY 4) (C1 27 K1 (X1 0))) (S1 (B1 1 (S1 (S1 (G2 lY 6) (C1 48 (S1 (G1 lY 7) .ret) K1)) (S1 (G1 lY 8) (B1 2 (.loop (S1 (S1 (G1 lY 9) (C1 51 K1 (X1 2))) (S1 (B1 3 (S1 (G2 lY 11) (C1 66 (S1 (G1 lY 12) .ret) K1))) (G1 lY 10)))))))) (G1 lY 5)))))) (S1 (G1 lY 13) .ret)))):=kr
theorem alp:EF=(S1 (G1 EF 0) (S1 (G1 EF 1) .ret)):=kr
theorem acV:drawInfo (Z qU 6)=some []:=kr
theorem alo:qU=(S1 (G1 qU 0) (S1 (S1 (G1 qU 1) (C1 10 (S1 (G1 qU 2) .ret) K1)) (S1 (S1 (G1 qU 3) (B1 0 (.loop (S1 (S1 (G1 qU 4) (C1 14 K1 (X1 0))) (S1 (B1 1 (S1 (G2 qU 6) (C1 25 (S1 (G1 qU 7) .ret) K1))) (G1 qU 5)))))) (S1 (G1 qU 8) .ret)))):=kr
theorem alm:jQ=(S1 (G1 jQ 0) (S1 (G1 jQ 1) (S1 (S1 (G1 jQ 2) (C1 15 (S1 (G1 jQ 3) .ret) K1)) (S1 (G1 jQ 4) (S1 (G1 jQ 5) (S1 (B1 0 (.loop (S1 (S1 (G1 jQ 6) (C1 19 K1 (X1 0))) (B1 1 (S1 (G1 jQ 7) (S1 (G1 jQ 8) (B1 2 (.loop (S1 (S1 (G1 jQ 9) (C1 24 K1 (X1 2))) (S1 (B1 3 (S1 (S1 (G1 jQ 11) (C1 31 (X1 3) K1)) (S1 (G1 jQ 12) (S1 (G1 jQ 13) (B1 4 (.loop (S1 (S1 (G1 jQ 14) (C1 38 K1 (X1 4))) (S1 (B1 5 (S1 (G1 jQ 16) (C1 56 (S1 (G1 jQ 17) (G1 jQ 18)) K1))) (G1 jQ 15))))))))) (G1 jQ 10))))))))))) (S1 (G1 jQ 19) .ret))))))):=kr
theorem alw:As=(S1 (G1 As 0) (S1 (G1 As 1) (S1 (S1 (G1 As 2) (C1 8 (S1 (G1 As 3) .ret) K1)) (S1 (G1 As 4) .ret)))):=kr
theorem alu:nQ=(S1 (G1 nQ 0) (S1 (G1 nQ 1) (S1 (G1 nQ 2) (S1 (S1 (G1 nQ 3) (B1 0 (.loop (S1 (S1 (G1 nQ 4) (C1 14 K1 (X1 0))) (S1 (B1 1 (S1 (G1 nQ 6) (S1 (S1 (G1 nQ 7) (B1 2 (.loop (S1 (S1 (G1 nQ 8) (C1 21 K1 (X1 2))) (S1 (B1 3 (S1 (G1 nQ 10) (C1 48 (G1 nQ 11) K1))) (G1 nQ 9)))))) (G1 nQ 12)))) (G1 nQ 5)))))) (S1 (G1 nQ 13) .ret))))):=kr
theorem abC:drawInfo (Z ly 14)=some []:=kr
theorem alr:ly=(S1 (G1 ly 0) (S1 (G1 ly 1) (S1 (G1 ly 2) (S1 (S1 (G1 ly 3) (B1 0 (.loop (S1 (S1 (G1 ly 4) (C1 15 K1 (X1 0))) (S1 (B1 1 (G1 ly 6)) (G1 ly 5)))))) (S1 (S1 (G1 ly 7) (B1 2 (.loop (S1 (S1 (G1 ly 8) (C1 29 K1 (X1 2))) (S1 (B1 3 (S1 (G1 ly 10) (S1 (G1 ly 11) (B1 4 (.loop (S1 (S1 (G1 ly 12) (C1 39 K1 (X1 4))) (S1 (B1 5 (G2 ly 14)) (G1 ly 13)))))))) (G1 ly 9)))))) (S1 (G1 ly 15) .ret)))))):=kr
end Go.Proofs.Tryz.K
section
open Go Go.Abs Go.Proofs Go.Argus
namespace Go.Argus
def bW(f:aG)(h:D):List D:=[S f.name,B f.iter,I f.args,U8 f.result,lh f.al,lh f.aZ,r9 f.ac,gz f.ab,h]
@[simp] theorem aor (f : aG) (h : D) : (bW f h).length = 9 := rfl
theorem wW{h:D}(ht:Tr h)(f:aG):∀ d∈bW f h,Tr d:=.cons (.s _) (.cons (.s _) (.cons (.s _) (.cons (.s _) (.cons (r6 _) (.cons (r6 _) (.cons (Ag _) (.cons (GO _) (.cons ht .nil))))))))
def bp(f:aG)(r k:Int):Bool:=if k=119 then cG f.al r==1 else if k=114 then cG f.al r==2 else if k=105 then cG f.al r==3 else eY f.al r
theorem Hr{s:ByteArray}{k:Nat}(h:k<s.size):((s.data.toList.getD (k:Int).toNat 0).toNat:Int)∈c7 s/\(c7 s)[k]? =some ((s.data.toList.getD (k:Int).toNat 0).toNat:Int):=by
 have h1:k<s.data.toList.length:=by simpa using h
 have h2:(c7 s)[k]? =some ((s.data.toList.getD (k:Int).toNat 0).toNat:Int):=by
  simp[c7,aN h1,bl]
 exact⟨bU h2,h2⟩
def kM(f:aG)(a b:Int):Bool:=eY f.al a&&(eY f.al b&&cG f.al a==cG f.al b)
def AB(y:bC)(d:D):List D:=[U8 y.op,I y.to,I y.a,I y.b,I y.n,d]
theorem HV:Tr .z:=fun F β w v h=>by
 obtain⟨x,rfl⟩:=h.z_inv;exact .z x
def vF(d:D)(l:List Int):Prop:=d=au l\/d=.z/\l=[]
theorem ad5{d:D}{l:List Int}(h:vF d l):Tr d:=by
 rcases h with rfl|⟨rfl,_⟩
 .exact cL _
 .exact HV
theorem acN{y:bC}{d:D}(h:vF d y.args):∀ a∈AB y d,Tr a:=.cons (.s _) (.cons (.s _) (.cons (.s _) (.cons (.s _) (.cons (.s _) (.cons (ad5 h) .nil)))))
theorem acO{y:bC}{d:D}(h:vF d y.args):(AB y d).all D.one=true:=by
 rcases h with rfl|⟨rfl,_⟩<;>rfl
def VA(y:End)(C J:D):List D:=[U8 y.kind,I y.a,I y.b,I y.to,I y.gF,S y.name,U8 y.ins.op,I y.ins.to,I y.ins.a,I y.ins.b,I y.ins.n,C,J,qJ y.aL,I y.cX]
end Go.Argus
namespace Go.Proofs.Tryz.K
theorem ic{n a b:Int}:PCall prog 212 [I n,I a,I b] (B (dg n a b)):=by
 refine bg ag9 (.cons (.s _) (.cons (.s _) (.cons (.s _) .nil))) (Tr.s _) ?_;rw[ag'];refine ws (SS ?_);refine er (aJ ?_);refine af (av (d:=.s (.bool _)) rfl ?_);unfold dg;by_cases h:a<=n<;>simp[h]
theorem AQ{s:ByteArray}(hs:s.size<=maxLen):PCall prog 211 [S s] (B (lZ s)):=by
 unfold maxLen at hs;refine bg aha (.cons (.s _) .nil) (Tr.s _) ?_;rw[ahb];refine ws (SS ?_);refine af (aB (az (SS ?_)))
 refine af (bR (fun st=>Ghost prog st ⟨aD [(0,S s)],fun _=>none,0⟩/\∀ (j:Nat) y,(c7 s)[j]? =some y->uM y=false) (cQ (α:=Nat) (fun k=>⟨aD [(0,S s),(3,I k)],fun _=>none,0⟩)
  (fun k=>k<=s.size/\∀ j y,j<k->(c7 s)[j]? =some y->uM y=false) (fun k=>s.size - k) 0 (ap eH) ⟨oG,fun j y hj=>by omega⟩ ?_) ?_)
 .rintro k ⟨hk,hinv⟩;refine aP ?_;refine af ⟨_,rfl,fun h=>?_,fun h=>?_⟩
  .have ao:k<s.size:=by simpa using h
   obtain⟨hm,hx⟩:=Hr ao;generalize C:s.data.toList.getD (k:Int).toNat 0=z at hm hx;refine ws (bK ?_);refine ag ?_;refine af (aw rfl (fun hp=>?_) fun hp=>?_)
   .refine ws (SS ?_);refine af (aY (br (aR (av (d:=B false) rfl ?_))));have h1:(c7 s).any uM=true:=List.any_eq_true.2 ⟨_,hm,by rw[C] at hp;revert hp;simp[uM]⟩;unfold lZ;rw[h1];simp
   .refine bS (aq ?_);refine af (aK (k+1) (ap eH) ⟨oG,fun j y hj hy=>?_⟩ oG);by_cases e:j=k
    .subst e;rw[hx] at hy;cases hy;rw[C] at hp;revert hp;simp[uM]
    .exact hinv j y oG hy
  .have M:¬ k<s.size:=by simpa using h
   exact⟨ap eH,fun j y hy=>hinv j y (by have:=(bw.1 hy).1;simp[c7] at this;omega) hy⟩
 .rintro st ⟨hg,J⟩;refine⟨_,hg,aj ?_⟩;have ic:=ic (n:=s.size) (a:=1) (b:=120);refine ag ?_;refine cl ic (SS ?_);refine af (av (d:=.s (.bool _)) rfl ?_)
  have h1:(c7 s).any uM=false:=List.any_eq_false.2 fun x hx=>by
   obtain⟨j,hj⟩:=cC hx;rw[J j x hj];simp
  unfold lZ;rw[h1];simp
theorem pb{s:ByteArray}(hs:s.size<=maxLen):PCall prog 213 [S s] (B (isName s)):=by
 unfold maxLen at hs;refine bg ahc (.cons (.s _) .nil) (Tr.s _) ?_;rw[ahe];refine ws (SS ?_);refine af (aB (az (SS ?_)))
 refine af (bR (fun st=>Ghost prog st ⟨aD [(0,S s)],fun _=>none,0⟩/\∀ (j:Nat) y,(c7 s)[j]? =some y->uN y=false) (cQ (α:=Nat) (fun k=>⟨aD [(0,S s),(3,I k)],fun _=>none,0⟩)
  (fun k=>k<=s.size/\∀ j y,j<k->(c7 s)[j]? =some y->uN y=false) (fun k=>s.size - k) 0 (ap eH) ⟨oG,fun j y hj=>by omega⟩ ?_) ?_)
 .rintro k ⟨hk,hinv⟩;refine aP ?_;refine af ⟨_,rfl,fun h=>?_,fun h=>?_⟩
  .have ao:k<s.size:=by simpa using h
   obtain⟨hm,hx⟩:=Hr ao;generalize C:s.data.toList.getD (k:Int).toNat 0=z at hm hx;refine ws (aJ ?_);refine aJ ?_;refine aP ?_;refine af (aw rfl (fun hp=>?_) fun hp=>?_)
   .refine ws (SS ?_);refine af (aY (br (aR (av (d:=B false) rfl ?_))));have h1:(c7 s).any uN=true:=List.any_eq_true.2 ⟨_,hm,by rw[C] at hp;revert hp;simp[uN]⟩;unfold isName;rw[h1];simp
   .refine bS (aq ?_);refine af (aK (k+1) (ap eH) ⟨oG,fun j y hj hy=>?_⟩ oG);by_cases e:j=k
    .subst e;rw[hx] at hy;cases hy;rw[C] at hp;revert hp;simp[uN]
    .exact hinv j y oG hy
  .have M:¬ k<s.size:=by simpa using h
   exact⟨ap eH,fun j y hy=>hinv j y (by have:=(bw.1 hy).1;simp[c7] at this;omega) hy⟩
 .rintro st ⟨hg,J⟩;refine⟨_,hg,aj ?_⟩;have ic:=ic (n:=s.size) (a:=1) (b:=12);refine ag ?_;refine cl ic (SS ?_);refine af (av (d:=.s (.bool _)) rfl ?_)
  have h1:(c7 s).any uN=false:=List.any_eq_false.2 fun x hx=>by
   obtain⟨j,hj⟩:=cC hx;rw[J j x hj];simp
  unfold isName;rw[h1];simp
theorem wO{f:aG}{hd:D}(h:hd.one=true):(bW f hd).all D.one=true:=by
 simp only[bW,List.all_cons,List.all_nil,h,Bool.and_true];rfl
section
variable{f:aG}{hd:D}(ht:Tr hd)(dP:hd.one=true)
include ht dP
theorem iE{b:Int}(hn:f.ab.length<=1200):PCall prog 170 [.agg (bW f hd),I b] (B (cu f b)):=by
 refine bg ahf (.cons (.agg (wW ht f)) (.cons (.s _) .nil)) (Tr.s _) ?_;rw[ahg];refine az (ag ?_);refine af (aW (bG [(0,bW f hd,208)] eH (l:=[(1,I b),(2,.pt (bW f hd))]) eH) (aj ?_));have ic:=ic (n:=b) (a:=0) (b:=(f.ab.length:Int) - 1);refine bB ?_;refine cl ic (SS ?_);exact af (av rfl rfl)
theorem bT{r k:Int}:PCall prog 215 [.agg (bW f hd),I r,U8 k] (B (bp f r k)):=by
 refine bg ahh (.cons (.agg (wW ht f)) (.cons (.s _) (.cons (.s _) .nil))) (Tr.s _) ?_;rw[ahi];refine az (ag ?_);refine af (aW (bG [(0,bW f hd,208)] eH (l:=[(1,I r),(2,U8 k),(3,.pt (bW f hd))]) eH) (aB (aj (bK ?_))));refine ak4 ?_;refine SS ?_;refine af (cx rfl (fun h=>?_) fun h=>bP (aj ?_))
 .refine aB (aj (SS ?_));refine af (bX (av (d:=.s (.bool _)) rfl ?_))
  have h0:cG f.al r=0:=JZ fun C=>by
   by_cases h1:r<0<;>simp[h1] at h<;>omega
  simp[bp,eY,h0]
 .have hr:0<=r/\r<f.al.length:=by
   by_cases h1:r<0<;>simp[h1] at h;omega
  obtain⟨n,rfl⟩:=cU hr.1;have hx:f.al[n]? =some f.al[n]:=aN oG;have hk:=uP hx;have hi:bp f n k=if k=119 then f.al[n]==1 else if k=114 then f.al[n]==2 else if k=105 then f.al[n]==3 else f.al[n]==1||f.al[n]==2:=by simp only[bp,eY,hk]
  rw[hi];generalize f.al[n]=v at hx;clear h hi hk;refine dA ?_;refine af (aB (aj (SS ?_)));refine af (oI (aj (ag ?_)));refine af (aw rfl (fun h0=>?_) fun h0=>?_)
  .have h0:k=119:=by simpa using h0
   refine ws (aq ?_);refine af (aY (bO (aR (av (d:=.s (.bool _)) rfl ?_))));simp[h0]
  have h0:¬ k=119:=by simpa using h0
  refine ws (ag ?_);refine af (aw rfl (fun h1=>?_) fun h1=>?_)
  .have h1:k=114:=by simpa using h1
   refine ws (aq ?_);refine af (aY (bO (aR (av (d:=.s (.bool _)) rfl ?_))));simp[h1]
  have h1:¬ k=114:=by simpa using h1
  refine ws (ag ?_);refine af (aw rfl (fun h2=>?_) fun h2=>?_)
  .have h2:k=105:=by simpa using h2
   refine ws (aq ?_);refine af (aY (bO (aR (av (d:=.s (.bool _)) rfl ?_))));simp[h2]
  have h2:¬ k=105:=by simpa using h2
  refine nL (aj (dA ?_));refine af (av (d:=.s (.bool _)) rfl ?_);rw[if_neg h0,if_neg h1,if_neg h2];by_cases h3:v=1<;>simp[h3]
end
section
variable{f:aG}{hd:D}(ht:Tr hd)(dP:hd.one=true)
include ht dP
theorem AR{a b:Int}:PCall prog 216 [.agg (bW f hd),I a,I b] (B (kM f a b)):=by
 have hi:∀ r,bp f r 118=eY f.al r:=fun r=>rfl;have C:=bT (f:=f) ht dP (r:=a) (k:=118);have J:=bT (f:=f) ht dP (r:=b) (k:=118);rw[hi] at C J;refine bg ahj (.cons (.agg (wW ht f)) (.cons (.s _) (.cons (.s _) .nil))) (Tr.s _) ?_;rw[ahk];refine az (ag ?_);refine af (aW (bG [(0,bW f hd,208)] eH (l:=[(1,I a),(2,I b),(3,.pt (bW f hd))]) eH) (dF abh ?_))
 have vi:∀ r,eY f.al r=true->∃ (n:Nat) (x:Int),r=n/\f.al[n]? =some x/\cG f.al r=x:=fun r h=>by
  obtain⟨h1,h2⟩:=pL h;obtain⟨n,rfl⟩:=cU h1;have hx:f.al[n]? =some f.al[n]:=aN oG;exact⟨n,_,rfl,hx,uP hx⟩
 unfold kM;cases M:eY f.al a with
 |false=>
  rw[M] at C;have bT:=C;refine ag ?_;refine cl bT (SS ?_);refine z fun _ _=>?_;have bT:=J
  (iterate 2 refine z fun _ _=>?_);refine ag ?_;(iterate 13 refine z fun _ _=>?_);refine ag ?_
  exact a8 bc (av rfl rfl)
 |true=>
  rw[M] at C;cases X:eY f.al b with
  |false=>
   rw[X] at J;have bT:=C;refine ag ?_;refine cl bT (ag ?_);have bT:=J;refine SS ?_;refine gc bT (ag ?_);(iterate 13 refine z fun _ _=>?_);refine ag ?_;exact a8 bc (av rfl rfl)
  |true=>
   rw[X] at J;obtain⟨n,x,rfl,hx,e1⟩:=vi a M;obtain⟨m,y,rfl,hy,e2⟩:=vi b X;rw[e1,e2];have bT:=C;refine ag ?_;refine cl bT (ag ?_);have bT:=J;refine SS ?_;refine gc bT (aJ ?_);refine bK ?_;exact a8 bc (av rfl rfl)
theorem vE{l:List Int}:PCall prog 217 [.agg (bW f hd),au l] (B (gZ f.al l)):=by
 have C:∀ a∈[D.agg (bW f hd),au l],Tr a:=.cons (.agg (wW ht f)) (.cons (cL _) .nil);refine mJ Vw.he C fun M=>?_;have hlen:=(M (au l) oS).sl.1;unfold maxLen at hlen;refine bg Vw C (Tr.s _) ?_;rw[ahl];refine az (ag ?_);refine af (aW (bG [(0,bW f hd,208)] eH (l:=[(1,au l),(2,.pt (bW f hd))]) eH) (aB (az (SS ?_))))
 refine af (bR (fun s=>Ghost prog s ⟨aD [],fun _=>none,1⟩/\∀ (j:Nat) y,l[j]? =some y->eY f.al y=true) (cQ (α:=Nat) (fun k=>⟨aD [(1,au l),(2,.pt (bW f hd)),(5,I k)],fun _=>none,1⟩)
  (fun k=>k<=l.length/\∀ j y,j<k->l[j]? =some y->eY f.al y=true) (fun k=>l.length - k) 0 (ap eH) ⟨oG,fun j y hj=>by omega⟩ ?_) ?_)
 .rintro k ⟨hk,hinv⟩;refine aP ?_;refine af ⟨_,rfl,fun h=>?_,fun h=>?_⟩
  .have ao:k<l.length:=by simpa using h
   have hx:l[k]? =some l[k]:=by simp[ao]
   generalize l[k]=x at hx;have bT:PCall prog 215 [.agg (bW f hd),I x,U8 118] (B (eY f.al x)):=bT (f:=f) ht dP (r:=x) (k:=118);refine dF abi (aO ?_);refine cl bT (SS ?_);refine a8 bc (aj (ag ?_));refine af (aw rfl (fun hp=>?_) fun hp=>?_)
   .refine ws (SS ?_);refine af (aY (br (aR (av (d:=B false) rfl ?_))));have:gZ f.al l=false:=List.all_eq_false.2 ⟨x,bU hx,by simpa using hp⟩;rw[this]
   .refine bS (aq ?_);refine af (aK (k+1) (ap eH) ⟨oG,fun j y hj hy=>?_⟩ oG);by_cases e:j=k
    .subst e;rw[hx] at hy;cases hy;simpa using hp
    .exact hinv j y oG hy
  .have X:¬ k<l.length:=by simpa using h
   exact⟨.forget _ _ _ _ fun _=>.inr rfl,fun j y hy=>hinv j y (by have:=(bw.1 hy).1;omega) hy⟩
 .rintro s ⟨hg,J⟩;refine⟨_,hg,aj ?_⟩;refine SS ?_;refine af (av (d:=B true) rfl ?_)
  have:gZ f.al l=true:=bj.2 fun x hx=>by
   obtain⟨j,hj⟩:=cC hx;exact J j x hj
  rw[this]
theorem Iw{n r:Int}(hl:f.aZ.length<=60)(hs:∀ k∈f.aZ,k=1\/k=2):PCall prog 218 [.agg (bW f hd),I n,I r] (B (mW f.al f.aZ r n)):=by
 have ic:=ic (n:=n) (a:=0) (b:=(f.aZ.length:Int) - 1);have kv:PCall prog 215 [.agg (bW f hd),I r,U8 118] (B (eY f.al r)):=bT (f:=f) ht dP (r:=r) (k:=118);refine bg ahm (.cons (.agg (wW ht f)) (.cons (.s _) (.cons (.s _) .nil))) (Tr.s _) ?_;rw[ahn];refine az (ag ?_);refine af (aW (bG [(0,bW f hd,208)] eH (l:=[(1,I n),(2,I r),(3,.pt (bW f hd))]) eH) (dF abj ?_));unfold mW;have bT:=kv;cases C:dg n 0 (f.aZ.length - 1) with
 |false=>
  rw[C] at ic;refine bB ?_;refine cl ic (SS ?_);(iterate 3 refine z fun _ _=>?_);refine ag ?_;(iterate 13 refine z fun _ _=>?_);refine ag ?_;exact a8 bc (av rfl rfl)
 |true=>
  rw[C] at ic;have h0:=lk.1 C;obtain⟨m,rfl⟩:=cU h0.1;have hx:f.aZ[m]? =some f.aZ[m]:=aN oG;have X:=uP hx;have M:=hs _ (bU hx);rw[X];generalize f.aZ[m]=x at hx M;cases hv:eY f.al r with
  |false=>
   rw[hv] at bT;refine bB ?_;refine cl ic (aq ?_);refine gc bT (ag ?_);(iterate 13 refine z fun _ _=>?_);refine ag ?_;refine a8 bc (av (d:=.s (.bool _)) rfl ?_)
   have:(cG f.al r==x)=false:=by
    unfold eY at hv;rcases M with rfl|rfl<;>simp at hv ⊢<;>simp[hv]
   rw[this];rfl
  |true=>
   rw[hv] at bT;obtain⟨h1,h2⟩:=pL hv;obtain⟨i,rfl⟩:=cU h1;have hy:f.al[i]? =some f.al[i]:=aN oG;have J:=uP hy;rw[J];generalize f.al[i]=y at hy;refine bB ?_;refine cl ic (aq ?_);refine gc bT (aJ ?_);refine bK ?_;refine a8 bc (av (d:=.s (.bool _)) rfl ?_);show B (x==y)=B (y==x);rw[Bool.beq_comm]
end
end Go.Proofs.Tryz.K
namespace Go.Argus
open Go.Proofs.Tryz.K (nextR)
def kA:List Int->Int->List Int
 |[],n=>[n]
 |x::l,n=>if x<n then x::kA l n else if x=n then x::l else n::x::l
theorem TK{n:Int}:∀ {l:List Int} {k:Nat},k<=l.length->(∀ j y,j<k->l[j]? =some y->y<n)->(∀ y,l[k]? =some y->¬ y<n)->
 kA l n=if l[k]? =some n then l else l.take k++n::l.drop k
 |[],k,hk,_,_=>by
  have:k=0:=by simpa using hk
  subst this;simp[kA]
 |x::l,0,_,_,h=>by
  have h0:¬ x<n:=h x rfl;by_cases e:x=n
  .subst e;simp[kA]
  .simp[kA,h0,e]
 |x::l,k+1,hk,h1,h2=>by
  have h0:x<n:=h1 0 x oG rfl;have ih:=TK (n:=n) (l:=l) (k:=k) (by simpa using hk) (fun j y hj hy=>h1 (j+1) y oG (by simpa using hy)) (fun y hy=>h2 y (by simpa using hy));simp only[kA,if_pos h0,ih,List.getElem?_cons_succ];split<;>simp
theorem KD{n x:Int}:∀ {l:List Int},x∈kA l n↔x∈l\/x=n
 |[]=>by simp[kA]
 |y::l=>by
  unfold kA;split
  .rw[List.mem_cons,KD (l:=l),List.mem_cons];exact or_assoc.symm
  .split
   .rename_i e;subst e;simp only[List.mem_cons];constructor
    .exact .inl
    .rintro(h|h)
     .exact h
     .exact .inl h
   .simp only[List.mem_cons];constructor
    .rintro(h|h)
     .exact .inr h
     .exact .inl h
    .rintro(h|h)
     .exact .inr h
     .exact .inl h
theorem Ry{n:Int}:∀ {l:List Int},l.Pairwise (·<·)->(kA l n).Pairwise (·<·)
 |[],_=>by simp[kA]
 |y::l,h=>by
  rw[List.pairwise_cons] at h;unfold kA;split
  .rename_i hy;refine List.pairwise_cons.2 ⟨fun z C=>?_,Ry h.2⟩;rcases KD.1 C with C|rfl
   .exact h.1 z C
   .exact hy
  .split
   .exact List.pairwise_cons.2 h
   .refine List.pairwise_cons.2 ⟨fun z C=>?_,List.pairwise_cons.2 h⟩;rcases List.mem_cons.1 C with rfl|C
    .omega
    .have:=h.1 z C;omega
theorem Rz{n:Int}:∀ {l:List Int},(kA l n).length<=l.length+1
 |[]=>by simp[kA]
 |y::l=>by
  have:=Rz (n:=n) (l:=l);unfold kA;split
  .simp;omega
  .split<;>simp
def tT(l:List Int):List Int:=l.foldl kA []
theorem DI:∀ {l z:List Int},z.Pairwise (·<·)->(l.foldl kA z).Pairwise (·<·)/\(∀ x,x∈l.foldl kA z↔x∈z\/x∈l)/\(l.foldl kA z).length<=z.length+l.length
 |[],z,h=>⟨h,fun x=>by simp,oS⟩
 |y::l,z,h=>by
  obtain⟨h1,h2,h3⟩:=DI (l:=l) (Ry (n:=y) h);have:=Rz (n:=y) (l:=z);refine⟨h1,fun x=>?_,by simp only[List.length_cons,List.foldl_cons];omega⟩;rw[List.foldl_cons,h2,KD,List.mem_cons,or_assoc]
theorem SV:∀ {l z:List Int},l.Pairwise (·<·)->z.Pairwise (·<·)->(∀ x,x∈l↔x∈z)->l=z
 |[],[],_,_,_=>rfl
 |[],y::z,_,_,h=>by have:=(h y).2 oS;simp at this
 |y::l,[],_,_,h=>by have:=(h y).1 oS;simp at this
 |x::l,y::z,hl,hz,h=>by
  rw[List.pairwise_cons] at hl hz
  have e:x=y:=by
   have h1:=(h x).1 oS;have h2:=(h y).2 oS;rcases List.mem_cons.1 h1 with h1|h1
   .exact h1
   .rcases List.mem_cons.1 h2 with h2|h2
    .exact h2.symm
    .have:=hl.1 y h2;have:=hz.1 x h1;omega
  subst e;rw[SV hl.2 hz.2 fun w=>⟨fun C=>?_,fun C=>?_⟩]
  .rcases List.mem_cons.1 ((h w).1 (by simp[C])) with e|e
   .have:=hl.1 w C;omega
   .exact e
  .rcases List.mem_cons.1 ((h w).2 (by simp[C])) with e|e
   .have:=hz.1 w C;omega
   .exact e
def qX(x:End):List Int:=tT (dW x)
theorem Qu{x:End}{t:Int}:t∈qX x↔t∈dW x:=by
 unfold qX tT;rw[(DI (l:=dW x) (z:=[]) .nil).2.1];simp
theorem abo(x:End):(qX x).length<=x.aL.length+3:=by
 have:=(DI (l:=dW x) (z:=[]) .nil).2.2;have:=DF x;unfold qX tT;simp at*;omega
def DZ(bs:List b7)(L:Nat->List Int)(b:Nat):Nat->List Int:=match bs[b]? with
 |none=>L
 |some x=>(qX x.fin).foldl (dM b) L
def l0(bs:List b7)(k:Nat):Nat->List Int:=(range k).foldl (DZ bs) fun _=>[]
def kz(x:bC)(c:Int):bC:=if c=116 then { x with to:=0 } else if c=97 then { x with a:=0 } else if c=98 then { x with b:=0 } else if c=110 then { x with n:=0 } else if c=108 then { x with args:=[] } else x
def lB(x:bC):Bool:=aX x.to 0&&(aX x.a 0&&(aX x.b 0&&(aX x.n 0&&kf x)))
def bV(x:bC)(fs:List Int):Bool:=lB (fs.foldl kz x)
def lI(f:aG)(x:bC):Bool:=
 if aU [30,31,32,33,34] x.op then bV x [116,97,98]&&(bp f x.to 119&&(bp f x.a 119&&bp f x.b 119))
 else if x.op=35 then bV x [97,98]&&(bp f x.a 114&&bp f x.b 118)
 else if x.op=36 then bV x [116,97]&&(bp f x.to 118&&bp f x.a 114)
 else if x.op=37 then bV x [116,97,98]&&(bp f x.to 118&&(bp f x.a 114&&bp f x.b 119))
 else if x.op=38 then bV x [97,98,108]&&(bp f x.a 114&&(bp f x.b 119&&(aX x.args.length 1&&gZ f.al x.args)))
 else false
def eD(f:aG)(b C:Int)(x:bC):Bool:=
 if x.op=1 then bV x [116,110]&&(bp f x.to 119&&dg x.n (-1000000000) 1000000000)
 else if x.op=2 then bV x [116,97]&&kM f x.to x.a
 else if aU [3,4,6,7] x.op then bV x [116,97,98]&&(bp f x.to 119&&(bp f x.a 119&&bp f x.b 119))
 else if x.op=5 then bV x [116,97,98]&&(bp f x.to 119&&kM f x.a x.b)
 else if x.op=8 then bV x [116,97]&&(bp f x.to 119&&bp f x.a 119)
 else if x.op=9 then bV x [116,110]&&(bp f x.to 114&&dg x.n 0 1)
 else if x.op=10 then bV x [116,110,108]&&(bp f x.to 114&&(dg x.n 0 5&&(dg x.args.length 1 6&&gZ f.al x.args)))
 else if x.op=11 then bV x [116,97,110]&&(bp f x.to 118&&(bp f x.a 114&&dg x.n 0 5))
 else if x.op=12 then bV x [97,98,110]&&(bp f x.a 114&&(bp f x.b 118&&dg x.n 0 5))
 else if aU [13,14] x.op then bV x [116,97]&&(bp f x.to 119&&bp f x.a 114)
 else if x.op=15 then bV x [97]&&bp f x.a 119
 else if x.op=16 then bV x [97]&&bp f x.a 105
 else if x.op=17 then bV x [116,110]&&mW f.al f.aZ x.to x.n
 else if x.op=18 then bV x [97,110]&&mW f.al f.aZ x.a x.n
 else if x.op=19 then !aX b 0&&(bV x [116,108]&&(bp f x.to 118&&(aX x.args.length C&&x.args.all (kM f x.to))))
 else false
def ie(x:End)(c:Int):End:=
 if c=97 then { x with a:=0 } else if c=98 then { x with b:=0 } else if c=116 then { x with to:=0 } else if c=101 then { x with gF:=0 }
 else if c=110 then { x with name:=.empty } else if c=105 then { x with ins:=eB } else if c=108 then { x with args:=[] } else x
def qW(x:End):Bool:=aX x.a 0&&(aX x.b 0&&(aX x.to 0&&(aX x.gF 0&&(x.name.toList==[]&&(aX x.args.length 0&&(aX x.ins.op 0&&lB x.ins))))))
def ei(x:End)(fs:List Int):Bool:=(fs.any (·==104)||(aX x.aL.length 0&&aX x.cX (-1)))&&qW (fs.foldl ie x)
def ig(f:aG)(x:End):Bool:=
 if x.kind=1 then ei x [116]&&cu f x.to
 else if x.kind=2 then ei x [97,116,101]&&(bp f x.a 119&&(cu f x.to&&cu f x.gF))
 else if x.kind=3 then(if f.iter=true\/f.result=0 then ei x [97]&&aX x.a (-1) else ei x [97]&&(bp f x.a 118&&aX (cG f.al x.a) f.result))
 else if x.kind=4 then ei x [110]&&isName x.name
 else if x.kind=5 then ei x [116,105,104]&&(lI f x.ins&&(cu f x.to&&nG f x))
 else if x.kind=6 then ei x [97,116,110,108,104]&&(lZ x.name&&(decide ((x.args.length:Int)<=6)&&(gZ f.al x.args&&((aX x.a (-1)||bp f x.a 118)&&(cu f x.to&&nG f x)))))
 else if x.kind=7 then ei x [97,116,110,108]&&(lZ x.name&&(decide ((x.args.length:Int)<=6)&&(gZ f.al x.args&&(bp f x.a 105&&cu f x.to))))
 else if x.kind=8 then ei x [97,98,116,101,104]&&(bp f x.a 105&&(bp f x.b 118&&(cu f x.to&&(cu f x.gF&&nG f x))))
 else if x.kind=9 then ei x [97,116]&&(f.iter&&(bp f x.a 118&&(aX (cG f.al x.a) f.result&&cu f x.to)))
 else false
theorem vg(f:aG)(r:Int):bp f r 119=aX (cG f.al r) 1:=rfl
theorem AD(f:aG)(r:Int):bp f r 114=aX (cG f.al r) 2:=rfl
theorem EV(f:aG)(r:Int):bp f r 105=aX (cG f.al r) 3:=rfl
theorem tV(f:aG)(r:Int):bp f r 118=eY f.al r:=rfl
theorem aas{f:aG}{r n:Int}(hs:∀ k∈f.aZ,k=1\/k=2)(h:mW f.al f.aZ r n=true):eY f.al r=true:=by
 unfold mW at h;rw[aM,lk] at h;obtain⟨⟨h1,h2⟩,h3⟩:=h;obtain⟨k,rfl⟩:=cU h1;have hk:k<f.aZ.length:=by omega
 rw[uP (aN hk)] at h3;have h3:cG f.al r=f.aZ[k]:=by simpa using h3
 have:=hs _ (cy hk);unfold eY;rw[h3];rcases this with e|e<;>simp[e]
theorem aem(f:aG)(x:bC):lI f x=((gA ke x.op).isSome&&qL f.al x ((gA ke x.op).getD Ah)):=by
 obtain⟨op,to,a,b,n,args⟩:=x;unfold lI;dsimp only;by_cases h0:op=30\/op=31\/op=32\/op=33\/op=34
 .rcases h0 with rfl|rfl|rfl|rfl|rfl<;>
   (simp[aU,gA,ke,List.find?,qL,mS,r8,rZ,bV,kz,lB,vg,aX,kf,dg];grind)
 by_cases h5:op=35
 .subst h5;simp[aU,gA,ke,List.find?,qL,mS,r8,rZ,bV,kz,lB,vg,AD,tV,aX,kf,dg];grind
 by_cases C:op=36
 .subst C;simp[aU,gA,ke,List.find?,qL,mS,r8,rZ,bV,kz,lB,vg,AD,tV,aX,kf,dg];grind
 by_cases J:op=37
 .subst J;simp[aU,gA,ke,List.find?,qL,mS,r8,rZ,bV,kz,lB,vg,AD,tV,aX,kf,dg];grind
 by_cases h8:op=38
 .subst h8;simp[aU,gA,ke,List.find?,qL,mS,r8,rZ,bV,kz,lB,vg,AD,tV,aX,kf,dg];grind
 have hn:gA ke op=none:=by
  simp only[gA,ke,Option.map_eq_none_iff,List.find?_eq_none];simp;omega
 rw[hn,if_neg (by simp[aU];omega),if_neg h5,if_neg C,if_neg J,if_neg h8];rfl
theorem aen(f:aG)(to:Int)(l:List Int)(h:eY f.al to=true):l.all (kM f to)= !l.any fun r=> !aX (cG f.al r) (cG f.al to):=by
 have hk:cG f.al to=1\/cG f.al to=2:=by simpa[eY] using h
 rw[List.not_any_eq_all_not];congr 1;funext r;simp only[kM,h,Bool.true_and,aX,Bool.not_not,eY];grind
theorem SW{f:aG}{b ah:Nat}{x:bC}(hs:∀ k∈f.aZ,k=1\/k=2):eD f b ah x=jO f b x true ah:=by
 have hsv:= @aas f;obtain⟨op,to,a,b',n,args⟩:=x;unfold eD jO;dsimp only;by_cases X:op=16
 .subst X;simp[aU,bV,kz,lB,EV,aX,kf];grind
 by_cases M:op=17
 .subst M;simp[aU,bV,kz,lB,aX,kf];grind
 by_cases C:op=18
 .subst C;simp[aU,bV,kz,lB,aX,kf];grind
 by_cases J:op=19
 .subst J;cases hv:eY f.al to with
  |false=>simp[aU,tV,hv]
  |true=>
   rw[aen f to args hv]
   have hb:decide (0<(b:Int))= !decide ((b:Int)=0):=by
    by_cases h:b=0<;>simp[h];omega
   simp[aU,tV,hv,hb,bV,kz,lB,aX,kf];grind
 rw[if_neg X,if_neg M,if_neg C,if_neg J,if_neg X,if_neg M,if_neg C,if_neg J];by_cases hm:op∈[1,2,3,4,5,6,7,8,9,10,11,12,13,14,15]
 .simp only[List.mem_cons,List.not_mem_nil,or_false] at hm
  rcases hm with rfl|rfl|rfl|rfl|rfl|rfl|rfl|rfl|rfl|rfl|rfl|rfl|rfl|rfl|rfl<;>
   (simp[aU,gA,pW,List.find?,qL,mS,r8,rZ,bV,kz,lB,vg,AD,tV,aX,kf,dg,kM,eY];grind)
 .have hn:gA pW op=none:=by
   simp only[gA,pW,Option.map_eq_none_iff,List.find?_eq_none];simp at hm ⊢;omega
  simp only[List.mem_cons,List.not_mem_nil,or_false,not_or] at hm;rw[hn];simp[aU];grind
theorem La{f:aG}{x:End}(hr:r7 f=true):ig f x=j9 f x:=by
 have ht:=aem f x.ins
 have X:(f.result=1\/f.result=2)\/f.result=0/\f.iter=false:=by
  simp[r7] at hr;grind
 obtain⟨kind,a,b,to,gF,name,ins,args,aL,cX⟩:=x;dsimp only at ht;have M:∀ y:bC,EB y=(aX y.op 0&&lB y):=fun y=>by simp[EB,lB,aX,kf]
 have h0:lB eB=true:=rfl;have he:ByteArray.toList .empty=[]:=by simp
 unfold ig j9 gK AA;simp only[M];by_cases h1:kind=1
 .subst h1;simp[ei,ie,qW,aX];grind
 by_cases h2:kind=2
 .subst h2;simp[ei,ie,qW,aX,vg];grind
 by_cases h3:kind=3
 .subst h3;simp[ei,ie,qW,aX,tV,eY];grind
 by_cases h4:kind=4
 .subst h4;simp[ei,ie,qW,aX];grind
 by_cases h5:kind=5
 .subst h5;simp[ei,ie,qW,aX,ht,h0,eB];grind
 by_cases C:kind=6
 .subst C;simp[ei,ie,qW,aX,tV,he];grind
 by_cases J:kind=7
 .subst J;simp[ei,ie,qW,aX,EV,he];grind
 by_cases h8:kind=8
 .subst h8;simp[ei,ie,qW,aX,EV,tV];grind
 by_cases h9:kind=9
 .subst h9;simp[ei,ie,qW,aX,tV,eY];grind
 simp[h1,h2,h3,h4,h5,C,J,h8,h9]
end Go.Argus
namespace Go.Proofs.Tryz.K
theorem Vz{x:bC}{d0:D}{s:ByteArray}(M:vF d0 x.args)(hs:s.size<=8):PCall prog 214 [.agg (AB x d0),S s] (B (bV x (c7 s))):=by
 refine bg ahq (.cons (.agg (acN M)) (.cons (.s _) .nil)) (Tr.s _) ?_;rw[ahr];refine az (iB (uW (cs:=AB x d0) rfl) cv (acO M) (SS ?_));refine af (aW (aQ (l:=[(1,S s),(2,.rp 0 0)]) (ml:=[(0,.cells (AB x d0) 66)]) eH eH) (aB (az (SS ?_))))
 refine af (bR (fun st=>∃ y d,Ghost prog st ⟨aD [(2,.rp 0 0)],bf [(0,.cells (AB y d) 66)],1⟩/\(c7 s).foldl kz x=y/\vF d y.args) (cQ (α:=Nat×bC×D) (fun q=>⟨aD [(1,S s),(2,.rp 0 0),(5,I q.1)],bf [(0,.cells (AB q.2.1 q.2.2) 66)],1⟩)
  (fun q=>q.1<=s.size/\((c7 s).take q.1).foldl kz x=q.2.1/\vF q.2.2 q.2.1.args) (fun q=>s.size - q.1) (0,x,d0) (aQ eH eH) ⟨Nat.zero_le _,rfl,M⟩ ?_) ?_)
 .rintro⟨k,y,d⟩ ⟨hk,hy,hd⟩;dsimp only at hk hy hd ⊢;refine aP ?_;refine af ⟨_,rfl,fun h=>?_,fun h=>?_⟩
  .have ao:k<s.size:=by simpa using h
   obtain⟨hm,hx⟩:=Hr ao;generalize C:s.data.toList.getD (k:Int).toNat 0=z at hm hx;have J:((c7 s).take (k+1)).foldl kz x=kz y z.toNat:=by rw[oF hx,hy]
   refine ws (aq ?_);refine af (oL (aj (ag ?_)));refine af (aw rfl (fun h1=>gB ?_) fun h1=>aj ?_)
   .refine ag ?_;refine af ?_;show AOps _ _ _ _ _ _ _ _ _;refine aq ?_;refine af (aK (k+1,{ y with to:=0 },d) (aQ eH eH) ⟨oM,?_,hd⟩ oM);rw[C] at h1;rw[J,kz,if_pos (by simpa using h1)]
   rw[C] at h1;have h1:¬ (z.toNat:Int)=116:=by simpa using h1
   refine ag ?_;refine af (aw rfl (fun h2=>gB ?_) fun h2=>aj ?_)
   .refine ag ?_;refine af ?_;show AOps _ _ _ _ _ _ _ _ _;refine aq ?_;refine af (aK (k+1,{ y with a:=0 },d) (aQ eH eH) ⟨oM,?_,hd⟩ oM);rw[C] at h2;rw[J,kz,if_neg h1,if_pos (by simpa using h2)]
   rw[C] at h2;have h2:¬ (z.toNat:Int)=97:=by simpa using h2
   refine ag ?_;refine af (aw rfl (fun h3=>gB ?_) fun h3=>aj ?_)
   .refine ag ?_;refine af ?_;show AOps _ _ _ _ _ _ _ _ _;refine aq ?_;refine af (aK (k+1,{ y with b:=0 },d) (aQ eH eH) ⟨oM,?_,hd⟩ oM);rw[C] at h3;rw[J,kz,if_neg h1,if_neg h2,if_pos (by simpa using h3)]
   rw[C] at h3;have h3:¬ (z.toNat:Int)=98:=by simpa using h3
   refine ag ?_;refine af (aw rfl (fun h4=>gB ?_) fun h4=>aj ?_)
   .refine ag ?_;refine af ?_;show AOps _ _ _ _ _ _ _ _ _;refine aq ?_;refine af (aK (k+1,{ y with n:=0 },d) (aQ eH eH) ⟨oM,?_,hd⟩ oM);rw[C] at h4;rw[J,kz,if_neg h1,if_neg h2,if_neg h3,if_pos (by simpa using h4)]
   rw[C] at h4;have h4:¬ (z.toNat:Int)=110:=by simpa using h4
   refine ag ?_;refine af (aw rfl (fun h5=>gB ?_) fun h5=>?_)
   .refine ag ?_;refine af ?_;show AOps _ _ _ _ _ _ _ _ _;refine aq ?_;refine af (aK (k+1,{ y with args:=[] },.z) (aQ eH eH) ⟨oM,?_,.inr ⟨rfl,rfl⟩⟩ oM);rw[C] at h5;rw[J,kz,if_neg h1,if_neg h2,if_neg h3,if_neg h4,if_pos (by simpa using h5)]
   rw[C] at h5;have h5:¬ (z.toNat:Int)=108:=by simpa using h5
   refine bS ?_;show AOps _ _ _ _ _ _ _ _ _;refine aq ?_;refine af (aK (k+1,y,d) (aQ eH eH) ⟨oM,?_,hd⟩ oM);rw[J,kz,if_neg h1,if_neg h2,if_neg h3,if_neg h4,if_neg h5]
  .have a9:¬ k<s.size:=by simpa using h
   rw[df (by simp[c7];omega)] at hy;exact⟨y,d,aQ eH eH,hy,hd⟩
 .rintro st ⟨y,d,hg,hy,hd⟩;refine⟨_,hg,aj ?_⟩;have hl:bV x (c7 s)=lB y:=by rw[bV,hy]
  rw[hl];have X:((y.args.length:Int)=0)↔y.args=[]:=⟨fun h=>List.length_eq_zero_iff.1 oG,fun h=>by rw[h];rfl⟩
  rcases hd with rfl|⟨rfl,hd⟩
  .refine aJ ?_;refine aJ ?_;refine dA ?_;refine af (av (d:=.s (.bool _)) rfl ?_);simp[lB,aX,kf];grind
  .refine aJ ?_;refine aJ ?_;refine dA ?_;refine af (av (d:=.s (.bool _)) rfl ?_);simp[lB,aX,kf,hd];grind
theorem cw{x:bC}{s:ByteArray}(hs:s.size<=8):PCall prog 214 [.agg (bu x),S s] (B (bV x (c7 s))):=Vz (d0:=au x.args) (.inl rfl) hs
theorem fu{x:Argus.End}{s:ByteArray}(hs:s.size<=8):PCall prog 219 [.agg (bh x),S s] (B (ei x (c7 s))):=by
 refine bg ahs (.cons (.agg (lT x)) (.cons (.s _) .nil)) (Tr.s _) ?_;rw[aht];refine az ?_;refine ag ?_;refine af (aW (aQ (l:=[(1,S s),(2,.rp 0 0)]) (ml:=[(0,.cells (bh x) 69)]) eH eH) (aj ?_));refine SS ?_;refine af (aB (az ?_));refine SS ?_
 refine af (bR (fun st=>∃ y J X,Ghost prog st ⟨aD [(2,.rp 0 0),(5,B ((c7 s).any (·==104)))],bf [(0,.cells (VA y J X) 69)],1⟩/\(c7 s).foldl ie x=y/\vF J y.ins.args/\vF X y.args) (cQ (α:=Nat×Argus.End×D×D) (fun q=>⟨aD [(1,S s),(2,.rp 0 0),(5,B (((c7 s).take q.1).any (·==104))),(6,I q.1)],bf [(0,.cells (VA q.2.1 q.2.2.1 q.2.2.2) 69)],1⟩)
  (fun q=>q.1<=s.size/\((c7 s).take q.1).foldl ie x=q.2.1/\vF q.2.2.1 q.2.1.ins.args/\vF q.2.2.2 q.2.1.args) (fun q=>s.size - q.1) (0,x,au x.ins.args,au x.args) (aQ eH eH) ⟨Nat.zero_le _,rfl,.inl rfl,.inl rfl⟩ ?_) ?_)
 .rintro⟨k,y,J,X⟩ ⟨hk,hy,dP,M⟩;dsimp only at hk hy dP M ⊢;refine aP ?_;refine af ⟨_,rfl,fun h=>?_,fun h=>?_⟩
  .have ao:k<s.size:=by simpa using h
   obtain⟨hm,hx⟩:=Hr ao;generalize C:s.data.toList.getD (k:Int).toNat 0=z at hm hx;have cg:((c7 s).take (k+1)).foldl ie x=ie y z.toNat:=by rw[oF hx,hy]
   have vG:((c7 s).take (k+1)).any (·==104)=(((c7 s).take k).any (·==104)||(z.toNat:Int)==104):=by rw[List.take_add_one,hx,List.any_append];simp
   generalize ((c7 s).take k).any (·==104)=hb at vG;refine ws ?_;refine aq ?_;refine af (oL (aj ?_));refine ag ?_;refine af (aw rfl (fun h0=>gB ?_) fun h0=>aj ?_)
   .refine ag ?_;refine af ?_;show AOps _ _ _ _ _ _ _ _ _;refine aq ?_;rw[C] at h0;have h0:(z.toNat:Int)=97:=by simpa using h0
    refine af (aK (k+1,{ y with a:=0 },J,X) (aQ ⟨rfl,rfl,?_,rfl,trivial⟩ eH) ⟨oM,?_,dP,M⟩ oM)
    .show B hb=B (((c7 s).take (k+1)).any (·==104));rw[vG,h0];simp
    .rw[cg,ie,if_pos h0]
   rw[C] at h0;have h0:¬ (z.toNat:Int)=97:=by simpa using h0
   refine ag ?_;refine af (aw rfl (fun h1=>gB ?_) fun h1=>aj ?_)
   .refine ag ?_;refine af ?_;show AOps _ _ _ _ _ _ _ _ _;refine aq ?_;rw[C] at h1;have h1:(z.toNat:Int)=98:=by simpa using h1
    refine af (aK (k+1,{ y with b:=0 },J,X) (aQ ⟨rfl,rfl,?_,rfl,trivial⟩ eH) ⟨oM,?_,dP,M⟩ oM)
    .show B hb=B (((c7 s).take (k+1)).any (·==104));rw[vG,h1];simp
    .rw[cg,ie,if_neg h0,if_pos h1]
   rw[C] at h1;have h1:¬ (z.toNat:Int)=98:=by simpa using h1
   refine ag ?_;refine af (aw rfl (fun h2=>gB ?_) fun h2=>aj ?_)
   .refine ag ?_;refine af ?_;show AOps _ _ _ _ _ _ _ _ _;refine aq ?_;rw[C] at h2;have h2:(z.toNat:Int)=116:=by simpa using h2
    refine af (aK (k+1,{ y with to:=0 },J,X) (aQ ⟨rfl,rfl,?_,rfl,trivial⟩ eH) ⟨oM,?_,dP,M⟩ oM)
    .show B hb=B (((c7 s).take (k+1)).any (·==104));rw[vG,h2];simp
    .rw[cg,ie,if_neg h0,if_neg h1,if_pos h2]
   rw[C] at h2;have h2:¬ (z.toNat:Int)=116:=by simpa using h2
   refine ag ?_;refine af (aw rfl (fun h3=>gB ?_) fun h3=>aj ?_)
   .refine ag ?_;refine af ?_;show AOps _ _ _ _ _ _ _ _ _;refine aq ?_;rw[C] at h3;have h3:(z.toNat:Int)=101:=by simpa using h3
    refine af (aK (k+1,{ y with gF:=0 },J,X) (aQ ⟨rfl,rfl,?_,rfl,trivial⟩ eH) ⟨oM,?_,dP,M⟩ oM)
    .show B hb=B (((c7 s).take (k+1)).any (·==104));rw[vG,h3];simp
    .rw[cg,ie,if_neg h0,if_neg h1,if_neg h2,if_pos h3]
   rw[C] at h3;have h3:¬ (z.toNat:Int)=101:=by simpa using h3
   refine ag ?_;refine af (aw rfl (fun h4=>gB ?_) fun h4=>aj ?_)
   .refine ag ?_;refine af ?_;show AOps _ _ _ _ _ _ _ _ _;refine aq ?_;rw[C] at h4;have h4:(z.toNat:Int)=110:=by simpa using h4
    refine af (aK (k+1,{ y with name:=.empty },J,X) (aQ ⟨rfl,rfl,?_,rfl,trivial⟩ eH) ⟨oM,?_,dP,M⟩ oM)
    .show B hb=B (((c7 s).take (k+1)).any (·==104));rw[vG,h4];simp
    .rw[cg,ie,if_neg h0,if_neg h1,if_neg h2,if_neg h3,if_pos h4]
   rw[C] at h4;have h4:¬ (z.toNat:Int)=110:=by simpa using h4
   refine ag ?_;refine af (aw rfl (fun h5=>gB ?_) fun h5=>aj ?_)
   .refine aq ?_;refine af ?_;show AOps _ _ _ _ _ _ _ _ _;refine aq ?_;rw[C] at h5;have h5:(z.toNat:Int)=105:=by simpa using h5
    refine af (aK (k+1,{ y with ins:=eB },.z,X) (aQ ⟨rfl,rfl,?_,rfl,trivial⟩ eH) ⟨oM,?_,.inr ⟨rfl,rfl⟩,M⟩ oM)
    .show B hb=B (((c7 s).take (k+1)).any (·==104));rw[vG,h5];simp
    .rw[cg,ie,if_neg h0,if_neg h1,if_neg h2,if_neg h3,if_neg h4,if_pos h5]
   rw[C] at h5;have h5:¬ (z.toNat:Int)=105:=by simpa using h5
   refine ag ?_;refine af (aw rfl (fun h6=>gB ?_) fun h6=>aj ?_)
   .refine ag ?_;refine af ?_;show AOps _ _ _ _ _ _ _ _ _;refine aq ?_;rw[C] at h6;have h6:(z.toNat:Int)=108:=by simpa using h6
    refine af (aK (k+1,{ y with args:=[] },J,.z) (aQ ⟨rfl,rfl,?_,rfl,trivial⟩ eH) ⟨oM,?_,dP,.inr ⟨rfl,rfl⟩⟩ oM)
    .show B hb=B (((c7 s).take (k+1)).any (·==104));rw[vG,h6];simp
    .rw[cg,ie,if_neg h0,if_neg h1,if_neg h2,if_neg h3,if_neg h4,if_neg h5,if_pos h6]
   rw[C] at h6;have h6:¬ (z.toNat:Int)=108:=by simpa using h6
   refine ag ?_;refine af (aw rfl (fun h8=>gB ?_) fun h8=>?_)
   .refine SS ?_;refine af ?_;show AOps _ _ _ _ _ _ _ _ _;refine aq ?_;rw[C] at h8;refine af (aK (k+1,y,J,X) (aQ ⟨rfl,rfl,?_,rfl,trivial⟩ eH) ⟨oM,?_,dP,M⟩ oM)
    .show B true=B (((c7 s).take (k+1)).any (·==104));rw[vG,h8];simp
    .rw[cg,ie,if_neg h0,if_neg h1,if_neg h2,if_neg h3,if_neg h4,if_neg h5,if_neg h6]
   rw[C] at h8;refine bS ?_;show AOps _ _ _ _ _ _ _ _ _;refine aq ?_;refine af (aK (k+1,y,J,X) (aQ ⟨rfl,rfl,?_,rfl,trivial⟩ eH) ⟨oM,?_,dP,M⟩ oM)
   .show B hb=B (((c7 s).take (k+1)).any (·==104));rw[vG,h8];simp
   .rw[cg,ie,if_neg h0,if_neg h1,if_neg h2,if_neg h3,if_neg h4,if_neg h5,if_neg h6]
  .have a9:¬ k<s.size:=by simpa using h
   rw[df (by simp[c7];omega)] at hy ⊢;exact⟨y,J,X,aQ eH eH,hy,dP,M⟩
 .rintro st ⟨y,J,X,hg,hy,dP,M⟩;refine⟨_,hg,aB (aj ?_)⟩
  have hl:ei x (c7 s)=(((c7 s).any (·==104)||(aX y.aL.length 0&&aX y.cX (-1)))&&qW y):=by
   have hw:∀ (l:List Int) (x:Argus.End),(l.foldl ie x).aL=x.aL/\(l.foldl ie x).cX=x.cX:=fun l=>by
    induction l with
    |nil=>exact fun _=>⟨rfl,rfl⟩
    |cons a l ih=>
     intro x
     have:(ie x a).aL=x.aL/\(ie x a).cX=x.cX:=by
      unfold ie
      repeat' split
      all_goals exact⟨rfl,rfl⟩
     rw[List.foldl_cons,(ih _).1,(ih _).2,this.1,this.2];exact⟨rfl,rfl⟩
   obtain⟨h1,h2⟩:=hw (c7 s) x;rw[hy] at h1 h2;rw[ei,hy,h1,h2]
  rw[hl];clear hl hy;generalize (c7 s).any (·==104)=hb;have cw:PCall prog 214 [.agg [U8 y.ins.op,I y.ins.to,I y.ins.a,I y.ins.b,I y.ins.n,J],S ⟨#[]⟩] (B (lB y.ins)):=Vz (x:=y.ins) dP oC;refine aJ ?_;refine aP ?_;refine af (cx rfl (fun h=>?_) fun h=>bP (aj ?_))
  .refine aB (aj ?_);refine SS ?_;refine af (bX (av (d:=.s (.bool _)) rfl ?_));revert h;simp[aX];grind
  rcases M with rfl|⟨rfl,M⟩
  .refine aJ ?_;refine aJ ?_;refine aJ ?_;refine aJ ?_;refine ag ?_;refine gc cw ?_;refine ag ?_;refine af (av (d:=.s (.bool _)) rfl ?_);revert h;simp[qW,aX];grind
  .refine aJ ?_;refine aJ ?_;refine aJ ?_;refine aJ ?_;refine ag ?_;refine gc cw ?_;refine ag ?_;refine af (av (d:=.s (.bool _)) rfl ?_);revert h;simp[qW,aX,M];grind
theorem sO{x:Argus.End}(hlen:x.aL.length<=100000):PCall prog 145 [.agg (bh x)] (au (dW x)):=by
 have a7:∀ a∈[D.agg (bh x)],Tr a:=.cons (.agg (lT x)) .nil;refine bg ahu a7 (cL _) ?_;rw[ahv];refine az (ag ?_);refine af (aW (bG [(0,bh x,69)] eH (l:=[(1,.pt (bh x))]) eH) (az (SS ?_)));refine af ⟨_,.nilrow _ _ _ 3 3 rfl,(eI (zW x (gv x)) (aj ?_) fun s hs=>?_)⟩
 .have yes:x.kind≠3/\x.kind≠4->gv x=[x.to]:=fun h=>by rw[gv,if_pos h]
  have no:¬ (x.kind≠3/\x.kind≠4)->gv x=[]:=fun h=>by rw[gv,if_neg h]
  have ax:up (fun _=>(none:Option Row)) 1 (some (.cells [] 3)) 1=some (.cells [] 3):=up_same _ _ _;by_cases h3:x.kind=3
  .have dv:(x.kind !=3)=false:=by simp[h3]
   refine aP ?_;(iterate 3 refine z fun _ _=>?_);refine SS ?_;refine af (aw rfl (fun h=>oH) fun h=>bd ?_);rw[no (by simp[h3])];exact⟨_,_,_,Nat.lt_succ_self _,up_same _ _ _,ap eH⟩
  .by_cases h4:x.kind=4
   .have dv:(x.kind !=3)=true:=by simp[h4]
    have Mh:(x.kind !=4)=false:=by simp[h4]
    refine bK ?_;refine af (aw rfl (fun h=>(by simp[h4] at h)) fun h=>bd ?_);rw[no (by simp[h4])];exact⟨_,_,_,Nat.lt_succ_self _,up_same _ _ _,ap eH⟩
   .have dv:(x.kind !=3)=true:=by simp[h3]
    have Mh:(x.kind !=4)=true:=by simp[h4]
    refine bK ?_;refine af (aw rfl (fun h=>?_) fun h=>(by simp[h4] at h));refine gB (bB ?_);refine af ?_;rw[yes ⟨h3,h4⟩];exact⟨_,_,_,Nat.lt_succ_self _,up_same _ _ _,ap eH⟩
 obtain⟨r,m,nx,hr,ax,hg⟩:=hs;refine⟨_,hg,eI (zW x (oB x)) (aj ?_) fun s hs=>?_⟩
 .have C:oB x=if x.kind=2\/x.kind=8 then gv x++[x.gF] else gv x:=rfl
  have J:(gv x).length<=1:=by unfold gv;split<;>simp
  generalize gv x=l at ax C J;have X:(l.map I).length=l.length:=by simp
  by_cases h2:x.kind=2\/x.kind=8
  .rw[if_pos h2] at C;refine bK ?_;refine af (aw rfl (fun h=>gB ?_) fun h=>(by rcases h2 with h2|h2<;>simp[h2] at h));refine bB ?_;refine af ?_;rw[C];refine⟨_,_,_,Nat.lt_succ_self _,(up_same _ _ _).trans (by rw[List.map_append];rfl),ap ⟨rfl,?_,trivial⟩⟩;show D.rs _ 0 _=D.rs _ 0 _;rw[List.length_append];rfl
  .rw[if_neg h2] at C;refine bK ?_;refine af (aw rfl (fun h=>(by exfalso;apply h2;revert h;by_cases e2:x.kind=2<;>by_cases e8:x.kind=8<;>simp[e2,e8])) fun h=>bd ?_);rw[C];exact⟨r,m,nx,hr,ax,ap eH⟩
 clear hg hr ax;obtain⟨r,m,nx,hr,ax,hg⟩:=hs;refine⟨_,hg,eI (zW x (dC x x.aL.length)) (az ?_) fun s hs=>?_⟩
 .refine SS ?_
  refine af (cQ (α:=Nat×Nat×Mem×Nat) (fun s=>⟨aD [(1,.pt (bh x)),(3,.rs s.2.1 0 (dC x s.1).length),(4,I s.1)],s.2.2.1,s.2.2.2⟩)
   (fun s=>s.1<=x.aL.length/\s.2.1<s.2.2.2/\s.2.2.1 s.2.1=some (.cells ((dC x s.1).map I) 3)) (fun s=>x.aL.length - s.1) (0,r,m,nx) (ap ⟨rfl,?_,rfl,trivial⟩) ⟨Nat.zero_le _,hr,?_⟩ ?_)
  .show D.rs r 0 _=D.rs r 0 _;simp[dC]
  .show m r=_;rw[ax];simp[dC]
  clear hg hr ax;rintro⟨j,r,m,nx⟩ ⟨hj,hr,ax⟩;dsimp only at hj hr ax ⊢;refine aO ?_;refine af ⟨_,rfl,fun h=>?_,fun h=>?_⟩
  .have cV:j<x.aL.length:=by simpa using h
   have hy:x.aL[j]? =some x.aL[j]:=aN cV;generalize x.aL[j]=w at hy;have M:=Rh hy;have xR:(dC x (j+1)).length=(dC x j).length+1:=by rw[M];simp
   have X:((dC x j).map I).length=(dC x j).length:=by simp
   have J:(dC x j).length<=2+j:=by have:=DX x;unfold dC;simp;omega
   generalize dC x j=l at ax M X xR J;refine fh (bK ?_);refine ag ?_;refine af (aq ?_);refine af (aK (j+1,nx+1,_,_) (ap ⟨rfl,?_,rfl,trivial⟩) ⟨oM,oM,?_⟩ oM)
   .show D.rs _ 0 _=D.rs _ 0 _;rw[xR]
   .dsimp only;rw[M,List.map_append];exact up_same _ _ _
  .have a9:¬ j<x.aL.length:=by simpa using h
   have:j=x.aL.length:=by omega
   subst this;exact⟨r,m,nx,hr,ax,ap eH⟩
 clear hg hr ax;obtain⟨r,m,nx,hr,ax,hg⟩:=hs;refine⟨_,hg,eI (zW x (dW x)) (aj ?_) fun s hs=>?_⟩
 .have hd:dW x=if 0<=x.cX then dC x x.aL.length++[x.cX] else dC x x.aL.length:=rfl
  have J:(dC x x.aL.length).length<=2+x.aL.length:=by have:=DX x;unfold dC;simp;omega
  generalize dC x x.aL.length=l at ax hd J;have X:(l.map I).length=l.length:=by simp
  refine aq ?_;refine af (aw rfl (fun h=>gB ?_) fun h=>bd ?_)
  .rw[if_pos (by simpa using h)] at hd;refine bB ?_;refine af ?_;rw[hd];refine⟨_,_,_,Nat.lt_succ_self _,(up_same _ _ _).trans (by rw[List.map_append];rfl),ap ⟨rfl,?_,trivial⟩⟩;show D.rs _ 0 _=D.rs _ 0 _;rw[List.length_append];rfl
  .rw[if_neg (by simpa using h)] at hd;rw[hd];exact⟨r,m,nx,hr,ax,ap eH⟩
 clear hg hr ax;obtain⟨r,m,nx,hr,ax,hg⟩:=hs;refine⟨_,hg,az ?_⟩;refine ag ?_;refine af (aW (bG [(r,(dW x).map I,3)] ⟨ax,trivial⟩ (l:=[(2,au (dW x))]) ⟨lA (sz:=1) c3 (by rw[List.drop_zero,df oS]),trivial⟩) (av rfl rfl))
theorem OI{l:List Int}{n:Int}(hl:l.length<=100000):PCall prog 92 [au l,I n] (au (kA l n)):=by
 refine bg ak6 (.cons (cL _) (.cons (.s _) .nil)) (cL _) ?_;rw[ak7];refine ws (SS ?_);refine af (az (SS ?_))
 refine af (bR (fun st=>∃ k:Nat,Ghost prog st ⟨aD [(0,au l),(1,I n),(5,I k)],fun _=>none,0⟩/\k<=l.length/\(∀ (j:Nat) y,j<k->l[j]? =some y->y<n)/\∀ y,l[k]? =some y->¬ y<n) (yC (α:=Nat) (fun k=>⟨aD [(0,au l),(1,I n),(5,I k)],fun _=>none,0⟩)
  (fun k=>k<=l.length/\∀ (j:Nat) y,j<k->l[j]? =some y->y<n) (fun k=>l.length - k) 0 (ap eH) ⟨Nat.zero_le _,fun j y hj=>by omega⟩ ?_) ?_)
 .rintro k ⟨hk,hinv⟩;by_cases ao:k<l.length
  .have hx:l[k]? =some l[k]:=aN ao;generalize l[k]=y at hx;have jU:decide ((k:Int)<(l.length:Int))=true:=decide_eq_true oG;refine aJ ?_;refine aq ?_;refine af ⟨_,rfl,fun h=>?_,fun h=>?_⟩
   .have hy:y<n:=by simpa using h
    refine fh (aq ?_);refine af (aK (k+1) (ap eH) ⟨oG,fun j J hj M=>?_⟩ oG);by_cases e:j=k
    .subst e;rw[hx] at M;cases M;exact hy
    .exact hinv j J oG M
   .have hy:¬ y<n:=by simpa using h
    exact⟨k,ap eH,hk,hinv,fun J M=>by rw[hx] at M;cases M;exact hy⟩
  .have jU:decide ((k:Int)<(l.length:Int))=false:=decide_eq_false oG;refine aO ?_;(iterate 6 refine z fun _ _=>?_);refine SS ?_;refine af ⟨_,rfl,fun h=>oH,fun h=>?_⟩;exact⟨k,ap eH,hk,hinv,fun J M=>by have:=(bw.1 M).1;omega⟩
 .rintro st ⟨k,hg,hk,hinv,aF⟩;have rv:=TK hk hinv aF;refine⟨_,hg,aB (aj ?_)⟩;by_cases bm:l[k]? =some n
  .rw[if_pos bm] at rv;have jU:decide ((k:Int)<(l.length:Int))=true:=decide_eq_true (by have:=(bw.1 bm).1;omega);refine aJ ?_;refine aq ?_;refine af (cx rfl (fun h=>?_) fun h=>(by simp at h));refine aB (aj (ag ?_));refine af (bX (av rfl ?_));rw[rv];rfl
  rw[if_neg bm] at rv
  have qm:((l.map I).drop ((0:Int).toNat*1)).take (((k:Int) - 0).toNat*1)=(l.take k).map I:=by
   rw[show(0:Int).toNat*1=0 by simp,show((k:Int) - 0).toNat*1=k by omega,List.drop_zero,List.map_take]
  have Ba:((l.map I).drop ((k:Int).toNat*1)).take (((l.length:Int) - k).toNat*1)=(l.drop k).map I:=by
   rw[show(k:Int).toNat*1=k by omega, <- List.map_drop,df (by simp;try omega)]
  have OJ:((l.take k).map I).take (((k:Int) - 0).toNat*1)=(l.take k).map I:=df (by simp;try omega);have OK:((l.drop k).map I).take (((l.length:Int) - k).toNat*1)=(l.drop k).map I:=df (by simp;try omega);have we:((l.take k).map I).length=k:=by simp;omega
  have rL:((l.drop k).map I).length=l.length - k:=by simp
  have X:((l.take k).map I++[I n])++(l.drop k).map I=(l.take k++n::l.drop k).map I:=by simp
  have hlen:(l.take k++n::l.drop k).length=l.length+1:=by simp;omega
  rw[rv];generalize l.take k++n::l.drop k=J at X hlen;generalize (l.take k).map I=A at qm OJ we X;generalize (l.drop k).map I=C at Ba OK rL X;by_cases ao:k<l.length
  .have hx:l[k]? =some l[k]:=aN ao;have aE:l[k]≠n:=fun e=>bm (by rw[hx,e]);generalize l[k]=y at hx aE;have jU:decide ((k:Int)<(l.length:Int))=true:=decide_eq_true oG;have dY:(y==n)=false:=by simpa using aE
   refine aJ ?_;refine aq ?_;refine af (cx rfl (fun h=>oH) fun h=>bP (aj (aq ?_)));refine aI (ww (es':=A) rfl vV c3 rfl rfl qm) cv ⟨vp,oG,oG,oG⟩ ?_;have tX:=OJ;refine aO ?_;refine af (az (aq ?_));refine aI (ww (es':=C) rfl vV c3 rfl rfl Ba) cv ⟨vp,oG,oG,oG⟩ ?_;have tX:=OK;refine ag ?_;refine af (aW (bG [(4,J.map I,3)] ⟨by rw[<- X];rfl,trivial⟩ (l:=[(4,au J)]) ⟨?_,trivial⟩) (aY (av rfl rfl)));show uj _ [(4,_,3)] (.rs 4 0 (0+((k:Int) - 0).toNat+1+((l.length:Int) - k).toNat))=_;rw[show 0+((k:Int) - 0).toNat+1+((l.length:Int) - k).toNat=J.length by omega];exact lA (sz:=1) c3 (by rw[List.drop_zero,df oS])
  .have jU:decide ((k:Int)<(l.length:Int))=false:=decide_eq_false oG;refine aO ?_;(iterate 6 refine z fun _ _=>?_);refine SS ?_;refine af (cx rfl (fun h=>oH) fun h=>bP (aj (aq ?_)));refine aI (ww (es':=A) rfl vV c3 rfl rfl qm) cv ⟨vp,oG,oG,oG⟩ ?_;have tX:=OJ;refine aO ?_;refine af (az (aq ?_));refine aI (ww (es':=C) rfl vV c3 rfl rfl Ba) cv ⟨vp,oG,oG,oG⟩ ?_;have tX:=OK;refine ag ?_;refine af (aW (bG [(4,J.map I,3)] ⟨by rw[<- X];rfl,trivial⟩ (l:=[(4,au J)]) ⟨?_,trivial⟩) (aY (av rfl rfl)));show uj _ [(4,_,3)] (.rs 4 0 (0+((k:Int) - 0).toNat+1+((l.length:Int) - k).toNat))=_;rw[show 0+((k:Int) - 0).toNat+1+((l.length:Int) - k).toNat=J.length by omega];exact lA (sz:=1) c3 (by rw[List.drop_zero,df oS])
end Go.Proofs.Tryz.K
end
namespace Go.Argus
open Go Go.Abs
open Go.Proofs.Tryz.K (nextR)
theorem Aa{α:Type}{l:List α}{k i:Nat}{x d:α}(hk:k<l.length):(l.set k x).getD i d=if i=k then x else l.getD i d:=by
 rw[bl,List.getElem?_set,bl];by_cases h:k=i
 .subst h;rw[if_pos rfl,if_pos rfl,if_pos hk];rfl
 .rw[if_neg h,if_neg fun e=>h e.symm]
theorem gE.Xv{n:Nat}{s:CS}(h:gE n s){b:Nat}(hb:b<n):ff (s.ws.getD b []):=by
 have hl:b<s.ws.length:=by rw[h.lw];exact hb
 have hx:s.ws[b]? =some s.ws[b]:=aN hl;rw[getD_some hx];have hm:s.ws[b]∈s.ws:=cy _;exact⟨h.kG _ hm,h.rg _ hm⟩
structure Cert where
 any:Bool
 is:List Bool
def gP(R i:Nat):Nat:=if i<R then i else 1200+(i - R)
def cD(R n:Nat)(w:List Int):List Bool:=(range n).map fun i=>eR w (gP R i)
def m7(R n:Nat)(w:List Int):Prop:=∀ r,eR w r=true->∃ i,i<n/\r=gP R i
def jS(c:Cert)(r:Int):Cert:=if r= -1 then c else⟨c.any,c.is.set r.toNat true⟩
def xx(R:Nat)(c:Cert)(x:bC):Cert:=if x.op=18 then jS (jS c (dL x)) ((R:Int)+x.n) else jS c (dL x)
def fC(R:Nat)(l:List bC)(c:Cert):Cert:=l.foldl (xx R) c
def nY(x:End)(to:Int)(c:Cert):Cert:=if x.to≠to\/(dW x).tail.any (·==to)=true\/x.kind=3\/x.kind=4 then c else jS c (eT x)
def qY(a b:Cert):Cert:=if a.any=true then b else if b.any=true then a else⟨false,List.zipWith (fun x y=>x&&y) a.is b.is⟩
def td(c:Cert)(rs:List Int):Bool:=rs.all fun r=>c.is.getD r.toNat false
theorem DP(R n:Nat)(w:List Int):(cD R n w).length=n:=by simp[cD]
theorem uV{R n i:Nat}{w:List Int}(h:i<n):(cD R n w)[i]? =some (eR w (gP R i)):=by simp[cD,h]
theorem BW{R n i:Nat}{w:List Int}(h:¬ i<n):(cD R n w)[i]? =none:=by simp[cD];omega
theorem aeo{R i j:Nat}(hR:R<=1200)(h:gP R i=gP R j):i=j:=by
 unfold gP at h;split at h<;>split at h<;>omega
theorem aep{w:List Int}(h:w.length=20){r:Nat}(hr:¬ r<1280):eR w r=false:=by
 unfold eR;rw[bl,List.getElem?_eq_none (by rw[h];omega)];simp
section
variable{R n:Nat}(hR:R<=1200)(hn:n<=R+60)
include hR hn
theorem afr{i:Nat}(h:i<n):gP R i<1280:=by unfold gP;split<;>omega
theorem QF{w:List Int}(C:ff w){i:Nat}(h:i<n)(r:Nat):eR (gC w (gP R i:Nat)) r=(eR w r||decide (r=gP R i)):=by
 have:=afr hR hn h;unfold gC;rw[if_pos oG,bN,KB C.all (by rw[C.len];omega)]
theorem Hg{w:List Int}(C:ff w){i:Nat}(h:i<n):(cD R n w).set i true=cD R n (gC w (gP R i:Nat)):=by
 apply List.ext_getElem?;intro j;rw[List.getElem?_set];by_cases hj:j<n
 .rw[uV hj,uV hj,QF hR hn C h];by_cases e:i=j
  .subst e;simp[DP,h]
  .rw[if_neg e];have:¬ gP R j=gP R i:=fun h=>e (aeo hR h).symm;simp[this]
 .rw[BW hj,BW hj];split
  .rw[DP,if_neg oG]
  .rfl
theorem GU{w:List Int}(J:ff w)(C:m7 R n w){i:Nat}(h:i<n):m7 R n (gC w (gP R i:Nat)):=fun r hr=>by
 rw[QF hR hn J h,Bool.or_eq_true] at hr;rcases hr with hr|hr
 .exact C r hr
 .exact⟨i,h,by simpa using hr⟩
omit hR hn in
theorem ac'{w v:List Int}(C:ff w)(hv:ff v):List.zipWith (fun x y=>x&&y) (cD R n w) (cD R n v)=cD R n (iJ w v):=by
 apply List.ext_getElem?;intro j;rw[List.getElem?_zipWith];by_cases hj:j<n
 .rw[uV hj,uV hj,uV hj,KC C hv]
 .rw[BW hj,BW hj,BW hj]
omit hR hn in
theorem QG{w v:List Int}(J:ff w)(hv:ff v)(C:m7 R n v):m7 R n (iJ w v):=fun r hr=>by
 rw[KC J hv,aM] at hr;exact C r hr.2
omit hR hn in
theorem aeq{w v:List Int}(J:ff w)(hv:ff v)(C:m7 R n w)(M:m7 R n v)(h:cD R n w=cD R n v):w=v:=by
 refine QH J.all hv.all (by rw[J.len,hv.len]) fun r=>?_
 have hb:∀ i,i<n->eR w (gP R i)=eR v (gP R i):=fun i hi=>by
  have:=congrArg (fun l:List Bool=>l[i]?) h;simpa only[uV hi,aV] using this
 cases e1:eR w r with
 |true=>
  obtain⟨i,hi,rfl⟩:=C r e1;rw[<- hb i hi,e1]
 |false=>
  cases e2:eR v r with
  |false=>rfl
  |true=>
   obtain⟨i,hi,rfl⟩:=M r e2;rw[hb i hi,e2] at e1;cases e1
end
def vh:List Int:=replicate 20 lG
theorem KE:ff vh:=⟨by simp[vh],fun u C=>by rw[List.eq_of_mem_replicate C];simp[eN,lG]⟩
theorem ada{r:Nat}(h:r<1280):eR vh r=true:=by
 have h1:vh.getD (r / 64) 0=lG:=by
  unfold vh;rw[bl,List.getElem?_replicate,if_pos oG];rfl
 unfold eR;rw[h1];have h2:r % 64<64:=Nat.mod_lt _ oC;have h3:lG.toNat=2 ^ 64 - 1:=rfl;rw[h3,Nat.testBit_two_pow_sub_one];simpa using h2
theorem abH{w:List Int}(C:ff w):iJ vh w=w:=by
 refine QH (KE.Nk C).all C.all (by rw[(KE.Nk C).len,C.len]) fun r=>?_;rw[KC KE C];by_cases h:r<1280
 .rw[ada h,Bool.true_and]
 .rw[aep C.len h,Bool.and_false]
structure AS(R n:Nat)(x:bC):Prop where
 w:dL x= -1\/∃ i:Nat,i<R/\dL x=i
 s:x.op=18->∃ i:Nat,R+i<n/\x.n=i
theorem RA{R n:Nat}(hR:R<=1200)(hn:n<=R+60)(rY:R<=n){w:List Int}{x:bC}(h:AS R n x)(C:ff w)(M:m7 R n w):
 xx R ⟨false,cD R n w⟩ x=⟨false,cD R n (yP w x)⟩/\ff (yP w x)/\m7 R n (yP w x):=by
 have aE:∀ {v:List Int},gC v (-1)=v:=fun {v}=>by unfold gC;rw[if_neg oG]
 have X:∀ {i:Nat},i<R->((i:Nat):Int)=(gP R i:Nat):=fun {i} hi=>by unfold gP;rw[if_pos hi]
 unfold xx yP;by_cases J:x.op=18
 .obtain⟨i,hi,e⟩:=h.s J;have oq:dL x= -1:=by simp[dL,aU,nF,pM,J]
  have hp:ld x.n=(gP R (R+i):Nat):=by rw[e];unfold ld gP;rw[if_neg oG];omega
  rw[if_pos J,if_pos J,oq,hp];refine⟨?_,C.gC _,GU hR hn C M hi⟩;unfold jS;rw[if_pos rfl,if_neg oG,e, <- Hg hR hn C hi];congr 2
 .rw[if_neg J,if_neg J];rcases h.w with e|⟨i,hi,e⟩
  .rw[e,aE];exact⟨if_pos rfl,C,M⟩
  .rw[e,X hi];refine⟨?_,C.gC _,GU hR hn C M oG⟩;unfold jS;rw[if_neg oG, <- Hg hR hn C oG, <- X hi,bN]
theorem DQ{R n:Nat}(hR:R<=1200)(hn:n<=R+60)(C:R<=n):∀ {l:List bC} (_:∀ x∈l,AS R n x) {w:List Int} {ok:Bool} (_:ff w) (_:m7 R n w),
 fC R l ⟨false,cD R n w⟩=⟨false,cD R n (l.foldl l6 (w,ok)).1⟩/\ff (l.foldl l6 (w,ok)).1/\m7 R n (l.foldl l6 (w,ok)).1
 |[],_,w,ok,hw,ho=>⟨rfl,hw,ho⟩
 |x::l,h,w,ok,hw,ho=>by
  obtain⟨h1,h2,h3⟩:=RA hR hn C (h x oS) hw ho;unfold fC;rw[List.foldl_cons,List.foldl_cons,h1];exact DQ hR hn C (fun y hy=>h y (by simp[hy])) h2 h3
theorem count_tail{l:List Int}{a b:Int}(h:a=b):((a::l).count b=1)↔l.any (·==b)=false:=by
 subst h;rw[List.count_cons_self,List.any_eq_false];constructor
 .intro h x hx;have h0:l.count a=0:=by omega
  rw[List.count_eq_zero] at h0;intro e;have:x=a:=by simpa using e
  subst this;exact h0 hx
 .intro h;have:l.count a=0:=List.count_eq_zero.2 fun hm=>h a hm oS;omega
theorem RB{R n:Nat}(hR:R<=1200)(hn:n<=R+60)(rY:R<=n){x:End}(he:dW x=dp x)(rW:eT x= -1\/∃ i:Nat,i<R/\eT x=i){to:Int}{w:List Int}(C:ff w)(M:m7 R n w):
 nY x to ⟨false,cD R n w⟩=⟨false,cD R n (ia x to w)⟩/\ff (ia x to w)/\m7 R n (ia x to w):=by
 have aE:∀ {v:List Int},gC v (-1)=v:=fun {v}=>by unfold gC;rw[if_neg oG]
 have mB:B4 x to=true↔¬ (x.to≠to\/(dW x).tail.any (·==to)=true\/x.kind=3\/x.kind=4):=by
  unfold B4;rw[aM,oK,oK,he];unfold dp;by_cases J:x.kind=3\/x.kind=4
  .rw[if_pos (by simpa[aU] using J)];simp[J]
  .rw[if_neg (by simpa[aU] using J),List.tail_cons];generalize ((if aU [2,8] x.kind=true then [x.gF] else [])++(x.aL.map (·.to)++if iP x=true then [x.cX] else []))=l;constructor
   .rintro⟨h1,h2⟩ h;rcases h with h|h|h|h
    .exact h h1
    .have:=(count_tail (l:=l) h1).1 oG;rw[this] at h;cases h
    .exact J (.inl h)
    .exact J (.inr h)
   .intro h;have h1:x.to=to:=Classical.byContradiction fun e=>h (.inl e);refine⟨h1,?_⟩;have:=(count_tail (l:=l) h1).2 (Bool.eq_false_iff.2 fun e=>h (.inr (.inl e)));omega
 unfold nY ia;by_cases ha:B4 x to=true
 .rw[if_pos ha,if_neg (mB.1 ha)];rcases rW with e|⟨i,hi,e⟩
  .rw[e,aE];exact⟨if_pos rfl,C,M⟩
  .have X:((i:Nat):Int)=(gP R i:Nat):=by unfold gP;rw[if_pos hi]
   rw[e,X];refine⟨?_,C.gC _,GU hR hn C M oG⟩;unfold jS;rw[if_neg oG, <- Hg hR hn C oG, <- X,bN]
 .rw[if_neg ha,if_pos (Classical.byContradiction fun h=>ha (mB.2 h))];exact⟨rfl,C,M⟩
structure q0(R n N:Nat)(s:CS):Prop where
 ok:gE N s
 yes:∀ k,k<N->s.re.getD k false=true->m7 R n (s.ws.getD k [])
 no:∀ k,k<N->s.re.getD k false=false->s.ws.getD k []=vh
def cF(R n:Nat)(s:CS)(k:Nat):Cert:=if s.re.getD k false=true then⟨false,cD R n (s.ws.getD k [])⟩ else⟨true,replicate n false⟩
def CQ(x:End)(R n:Nat)(w:List Int)(s:CS)(t:Nat):Cert:=qY (cF R n s t) (nY x t ⟨false,cD R n w⟩)
theorem Sb{R n N:Nat}(hR:R<=1200)(hn:n<=R+60)(rY:R<=n){s:CS}(hs:q0 R n N s){x:End}(he:dW x=dp x)(rW:eT x= -1\/∃ i:Nat,i<R/\eT x=i){t:Nat}(ht:t<N)
 {w:List Int} (hw:ff w) (ho:m7 R n w):
 q0 R n N (cW x w s t)/\((CQ x R n w s t=cF R n s t/\cW x w s t=s)\/((CQ x R n w s t).any≠(cF R n s t).any\/(CQ x R n w s t).is≠(cF R n s t).is)/\(cW x w s t).ch=true/\
  ∀ k,cF R n (cW x w s t) k=if k=t then CQ x R n w s t else cF R n s k):=by
 obtain⟨o1,C,M⟩:=RB hR hn rY he rW (to:=(t:Int)) hw ho;have hlw:s.ws.length=N:=hs.ok.lw;have hlr:s.re.length=N:=hs.ok.lr;have nw:=hs.ok.Xv ht;have YV:=(Gw (x:=x) (w:=w) (t:=(t:Int)) hs.ok ⟨oG,oG⟩).1;unfold CQ;rw[o1];generalize hv:ia x t w=v at C M
 have key:∀ u:List Int,(s.re.getD t false=true->u≠s.ws.getD t [])->iJ (s.ws.getD t []) v=u->m7 R n u->qY (cF R n s t) ⟨false,cD R n v⟩=⟨false,cD R n u⟩->(⟨false,cD R n u⟩:Cert).any≠(cF R n s t).any\/cD R n u≠(cF R n s t).is->
  q0 R n N (cW x w s t)/\((qY (cF R n s t) ⟨false,cD R n v⟩=cF R n s t/\cW x w s t=s)\/((qY (cF R n s t) ⟨false,cD R n v⟩).any≠(cF R n s t).any\/(qY (cF R n s t) ⟨false,cD R n v⟩).is≠(cF R n s t).is)/\(cW x w s t).ch=true/\
  ∀ k,cF R n (cW x w s t) k=if k=t then qY (cF R n s t) ⟨false,cD R n v⟩ else cF R n s k):=fun u hu hm hou hb aE=>by
  have j5:cW x w s t=⟨s.ws.set t u,s.re.set t true,true⟩:=by
   unfold cW;rw[bN,hv,hm,if_pos];cases e:s.re.getD t false with
   |false=>exact .inl rfl
   |true=>exact .inr (hu e)
  rw[j5] at YV ⊢;have X:∀ k,(s.ws.set t u).getD k []=if k=t then u else s.ws.getD k []:=fun k=>Aa oG
  have xV:∀ k,(s.re.set t true).getD k false=if k=t then true else s.re.getD k false:=fun k=>Aa oG
  refine⟨⟨YV,fun k hk h=>?_,fun k hk h=>?_⟩,.inr ⟨?_,rfl,fun k=>?_⟩⟩
  .rw[X];rw[xV] at h;by_cases e:k=t
   .rw[if_pos e];exact hou
   .rw[if_neg e] at h ⊢;exact hs.yes k hk h
  .rw[X];rw[xV] at h;by_cases e:k=t
   .rw[if_pos e] at h;cases h
   .rw[if_neg e] at h ⊢;exact hs.no k hk h
  .rw[hb];exact aE
  .rw[hb];unfold cF;rw[X,xV];by_cases e:k=t
   .rw[if_pos e,if_pos e,if_pos e,if_pos rfl]
   .rw[if_neg e,if_neg e,if_neg e]
 cases J:s.re.getD t false with
 |false=>
  have hc:cF R n s t=⟨true,replicate n false⟩:=by unfold cF;rw[J];rfl
  refine key v (fun h=>by rw[J] at h;cases h) (by rw[hs.no t ht J,abH C]) M ?_ (.inl ?_)
  .rw[hc];rfl
  .rw[hc];simp
 |true=>
  have hc:cF R n s t=⟨false,cD R n (s.ws.getD t [])⟩:=by unfold cF;rw[J];rfl
  have hb:qY (cF R n s t) ⟨false,cD R n v⟩=⟨false,cD R n (iJ (s.ws.getD t []) v)⟩:=by
   rw[hc];unfold qY;rw[if_neg oS,if_neg oS,ac' nw C]
  by_cases hm:iJ (s.ws.getD t []) v=s.ws.getD t []
  .have j5:cW x w s t=s:=by
    unfold cW;rw[bN,hv,hm,J,if_neg oS]
   rw[j5,hb,hm,hc];exact⟨hs,.inl ⟨rfl,rfl⟩⟩
  .refine key _ (fun _=>hm) rfl (QG nw C M) hb (.inr fun e=>hm ?_);rw[hc] at e;exact aeq (nw.Nk C) nw (QG nw C M) (hs.yes t ht J) e
theorem Sa{R n N:Nat}{s:CS}(h:q0 R n N s)(c:Bool):q0 R n N ⟨s.ws,s.re,c⟩:=⟨⟨h.ok.lw,h.ok.lr,h.ok.kG,h.ok.rg⟩,h.yes,h.no⟩
theorem Qw{R n N args:Nat}(hR:R<=1200)(hn:n<=R+60)(rY:R<=n)(M:0<N)(ha:args<=R):q0 R n N (kK N args)/\cF R n (kK N args) 0=⟨false,replicate args true++replicate (n - args) false⟩/\
 ∀ k,0<k->k<N->cF R n (kK N args) k=⟨true,replicate n false⟩:=by
 have hA:∀ k,k<=R->ff (jn k)/\m7 R n (jn k)/\cD R n (jn k)=replicate k true++replicate (n - k) false:=fun k=>by
  induction k with
  |zero=>
   intro _;have X:∀ r,eR (jn 0) r=false:=adb 20;refine⟨⟨oS,GA 0⟩,(fun r hr=>by rw[X r] at hr;cases hr),?_⟩;apply List.ext_getElem?;intro j;by_cases hj:j<n
   .rw[uV hj,X];simp[hj]
   .rw[BW hj];simp;omega
  |succ k ih=>
   intro hk;obtain⟨h1,h2,h3⟩:=ih oG;have lH:((k:Nat):Int)=(gP R k:Nat):=by unfold gP;rw[if_pos oG]
   have he:jn (k+1)=gC (jn k) (gP R k:Nat):=by rw[<- lH];rfl
   rw[he];refine⟨h1.gC _,GU hR hn h1 h2 oG,?_⟩;rw[<- Hg hR hn h1 oG,h3,Ho oG]
 obtain⟨h1,h2,h3⟩:=hA args ha;have J:∀ k,(kK N args).ws.getD k []=if k=0 then jn args else(replicate N vh).getD k []:=fun k=>Aa (by simpa using M)
 have C:∀ k,(kK N args).re.getD k false=if k=0 then true else(replicate N false).getD k false:=fun k=>Aa (by simpa using M)
 have Jp:∀ k,k<N->(replicate N vh).getD k []=vh:=fun k hk=>by rw[bl,List.getElem?_replicate,if_pos hk];rfl
 have rr:∀ k,(replicate N false).getD k false=false:=fun k=>by
  rw[bl,List.getElem?_replicate];split<;>rfl
 refine⟨⟨JB (GA args),fun k hk h=>?_,fun k hk h=>?_⟩,?_,fun k h0 hk=>?_⟩
 .rw[C] at h;rw[J];by_cases e:k=0
  .rw[if_pos e];exact h2
  .rw[if_neg e,rr] at h;cases h
 .rw[C] at h;rw[J];by_cases e:k=0
  .rw[if_pos e] at h;cases h
  .rw[if_neg e];exact Jp k hk
 .unfold cF;rw[C,J,if_pos rfl,if_pos rfl,if_pos rfl,h3]
 .unfold cF;rw[C,if_neg (show ¬ k=0 by omega),rr];rfl
end Go.Argus
section
open Go Go.Abs Go.Proofs Go.Argus
namespace Go.Abs
theorem R7{P:Program}{st:St}{a n:Nat}{ty:TypeId}{cs vs:List D}(ha:st.env a=.pt cs)(hg:aggP P ty=true)(hc:P.cellsOf ty=n)(hv:cs.take n=vs)(ht:tyOk P ty=true)(hl:n<=cs.length):
 ∃ p,resD P st (.cell a ty)=some (p,.agg vs)/\p:=⟨tyOk P ty=true/\n<=cs.length,by simp only[resD,ha,takeV,hg,if_true,hc,hv],ht,hl⟩
end Go.Abs
namespace Go.Argus
def cH(c:Cert):List D:=[B c.any,dw c.is]
@[simp] theorem aol (c : Cert) : (cH c).length = 2 := rfl
theorem uY(c:Cert):∀ a∈cH c,Tr a:=.cons (.s _) (.cons (.sl (.map fun _=>.s _)) .nil)
theorem GR(c:Cert)(r:Int):(jS c r).is.length=c.is.length:=by unfold jS;split<;>simp
theorem acP(R:Nat)(c:Cert)(x:bC):(xx R c x).is.length=c.is.length:=by unfold xx;split<;>simp[GR]
theorem DH(R:Nat):∀ (l:List bC) (c:Cert),(fC R l c).is.length=c.is.length
 |[],_=>rfl
 |x::l,c=>by
  unfold fC;rw[List.foldl_cons];exact(DH R l _).trans (acP R c x)
theorem Qt(x:End)(to:Int)(c:Cert):(nY x to c).is.length=c.is.length:=by unfold nY;split<;>simp[GR]
def Fi(n:Nat)(r:Int):Prop:=r= -1\/∃ i:Nat,i<n/\r=i
theorem dc{l:List Int}{n c:Int}(h:(n==c)=true)(hm:c∈l):B (n==c)=B (aU l n):=by
 have:aU l n=true:=List.any_eq_true.2 ⟨c,hm,h⟩;rw[h,this]
end Go.Argus
namespace Go.Proofs.Tryz.K
theorem ue{c:Cert}{rs:List Int}(M:∀ r∈rs,∃ i:Nat,i<c.is.length/\r=i):PCall prog 122 [.agg (cH c),au rs] (B (td c rs)):=by
 have C:∀ a∈[D.agg (cH c),au rs],Tr a:=.cons (.agg (uY c)) (.cons (cL _) .nil);refine mJ VB.he C fun X=>?_;have hlen:=(X (au rs) oS).sl.1;unfold maxLen at hlen;refine bg VB C (Tr.s _) ?_;rw[ahw];refine az (ag ?_);refine af (aW (bG [(0,cH c,158)] eH (l:=[(1,au rs),(2,.pt (cH c))]) eH) (aB (az (SS ?_))))
 refine af (bR (fun s=>Ghost prog s ⟨aD [],fun _=>none,1⟩/\∀ (j:Nat) y,rs[j]? =some y->c.is.getD y.toNat false=true) (cQ (α:=Nat) (fun k=>⟨aD [(1,au rs),(2,.pt (cH c)),(5,I k)],fun _=>none,1⟩)
  (fun k=>k<=rs.length/\∀ j y,j<k->rs[j]? =some y->c.is.getD y.toNat false=true) (fun k=>rs.length - k) 0 (ap eH) ⟨oG,fun j y hj=>by omega⟩ ?_) ?_)
 .rintro k ⟨hk,hinv⟩;refine aP ?_;refine af ⟨_,rfl,fun h=>?_,fun h=>?_⟩
  .have ao:k<rs.length:=by simpa using h
   have hx:rs[k]? =some rs[k]:=aN ao;obtain⟨i,hi,e⟩:=M _ (cy ao);have hy:c.is[i]? =some c.is[i]:=aN hi;rw[e] at hx;clear e
   have hg:∀ y,rs[k]? =some y->c.is.getD y.toNat false=c.is[i]:=fun y h=>by
    rw[hx] at h;cases h;rw[bN,getD_some hy]
   generalize c.is[i]=b at hy hg;refine dF abl (aJ ?_);refine a8 bc (aw rfl (fun hp=>?_) fun hp=>?_)
   .refine ws (SS ?_);refine af (aY (br (aR (av (d:=B false) rfl ?_))));have:td c rs=false:=List.all_eq_false.2 ⟨_,bU hx,by rw[hg _ hx];simpa using hp⟩;rw[this]
   .refine bS (aq ?_);refine af (aK (k+1) (ap eH) ⟨oG,fun j y hj hy=>?_⟩ oG);by_cases e:j=k
    .subst e;rw[hg y hy];simpa using hp
    .exact hinv j y oG hy
  .have a9:¬ k<rs.length:=by simpa using h
   exact⟨.forget _ _ _ _ fun _=>.inr rfl,fun j y hy=>hinv j y (by have:=(bw.1 hy).1;omega) hy⟩
 .rintro s ⟨hg,J⟩;refine⟨_,hg,aj ?_⟩;refine SS ?_;refine af (av (d:=B true) rfl ?_)
  have:td c rs=true:=bj.2 fun x hx=>by
   obtain⟨j,hj⟩:=cC hx;exact J j x hj
  rw[this]
theorem kB{c:Cert}{r:Int}(hl:c.is.length<=100000)(hr:Fi c.is.length r):PCall prog 124 [.agg (cH c),I r] (.agg (cH (jS c r))):=by
 refine bg ahx (.cons (.agg (uY c)) (.cons (.s _) .nil)) (.agg (uY _)) ?_;rw[ahy];refine ws (ag ?_);refine af (aB (aj ?_));rcases hr with rfl|⟨i,hi,rfl⟩
 .refine ag ?_;refine af (dN (aB (aj (ag ?_))));refine af (bX (nK (mI rfl rfl uf nj rfl t158 (bE rfl)) ?_));rfl
 .have dY:((i:Int)== -1)=false:=by simp
  refine ag ?_;refine af (gU (bP (dF abm ?_)));have C:(c.is.map B).length=c.is.length:=by simp
  have tX:(c.is.map B).take (c.is.length*1)=c.is.map B:=df oS;refine aO ?_;refine vo (uX rfl rfl rfl V.h V.h (QO tX) rfl) ak ⟨V.h,rfl,(by first|omega|exact bE rfl|(simp;done)|(simp;omega)),oC,(by first|rfl|(simp;done)|(simp;omega)),(by unfold maxLen;first|omega|(simp;omega)),(by rw[b4];first|omega|(simp;omega)),(by first|(simp;done)|(simp;omega))⟩ ?_;refine aq ?_;refine a8 bc (aj (aO ?_));refine af (az (ag ?_))
  have e:sub (fz0 3 ((c.is.set i true).map B) (prog.cellsOf 4)) (.rs 3 0 (0+c.is.length))=.sl ((c.is.set i true).map B) c.is.length:=by
   rw[c4,Nat.zero_add,Cn,List.drop_zero,df oS]
  refine af (aW (bG [(3,(c.is.set i true).map B,4),(1,[B c.any,.sl ((c.is.set i true).map B) c.is.length],158)] ⟨?_,?_,trivial⟩ (l:=[(4,.pt [B c.any,.sl ((c.is.set i true).map B) c.is.length])]) eH) (aY (nK (R7 rfl uf nj rfl t158 (bF _)) ?_)))
  .rw[List.map_set];rfl
  .exact congrArg (fun d=>some (Row.cells [B c.any,d] 158)) e
  unfold jS;rw[if_neg oG,bN];show _=D.agg [B c.any,.sl _ (c.is.set i true).length];rw[List.length_set];rfl
theorem sP{x:bC}:PCall prog 125 [.agg (bu x)] (I (dL x)):=by
 refine bg ahz (.cons (.agg (sc x)) .nil) (Tr.s _) ?_;rw[ahA];refine az (ag ?_);refine af (aW (bG [(0,bu x,66)] eH (l:=[(1,.pt (bu x))]) eH) (aB (aj (ag ?_))));refine af (oI ?_)
 have J:dL x=if aU (nF++pM) x.op=true then x.to else -1:=by
  unfold dL;have:aU (nF++pM) x.op=(aU nF x.op||aU pM x.op):=List.any_append;rw[this];cases aU nF x.op<;>cases aU pM x.op<;>rfl
 refine eI (fun s=>Ghost prog s ⟨aD [(1,.pt (bu x)),(4,U8 x.op),(5,B (aU (nF++pM) x.op))],fun _=>none,1⟩) (aj ?_) fun s hg=>⟨_,hg,?_⟩
 .refine ag ?_;refine af (aw rfl (fun h=>bd (ap ⟨rfl,rfl,dc h oC,trivial⟩)) fun e1=>aj (ag ?_));refine af (aw rfl (fun h=>bd (ap ⟨rfl,rfl,dc h oC,trivial⟩)) fun e2=>aj (ag ?_));refine af (aw rfl (fun h=>bd (ap ⟨rfl,rfl,dc h oC,trivial⟩)) fun e3=>aj (ag ?_));refine af (aw rfl (fun h=>bd (ap ⟨rfl,rfl,dc h oC,trivial⟩)) fun e4=>aj (ag ?_));refine af (aw rfl (fun h=>bd (ap ⟨rfl,rfl,dc h oC,trivial⟩)) fun e5=>aj (ag ?_));refine af (aw rfl (fun h=>bd (ap ⟨rfl,rfl,dc h oC,trivial⟩)) fun e6=>aj (ag ?_));refine af (aw rfl (fun h=>bd (ap ⟨rfl,rfl,dc h oC,trivial⟩)) fun e7=>aj (ag ?_));refine af (aw rfl (fun h=>bd (ap ⟨rfl,rfl,dc h oC,trivial⟩)) fun e8=>aj (ag ?_));refine af (aw rfl (fun h=>bd (ap ⟨rfl,rfl,dc h oC,trivial⟩)) fun e9=>aj (ag ?_));refine af (aw rfl (fun h=>bd (ap ⟨rfl,rfl,dc h oC,trivial⟩)) fun OL=>aj (ag ?_));refine af (aw rfl (fun h=>bd (ap ⟨rfl,rfl,dc h oC,trivial⟩)) fun sZ=>aj (ag ?_));refine af (aw rfl (fun h=>bd (ap ⟨rfl,rfl,dc h oC,trivial⟩)) fun yh=>aj (ag ?_));refine af (aw rfl (fun h=>bd (ap ⟨rfl,rfl,dc h oC,trivial⟩)) fun M=>aj (ag ?_));refine af (aw rfl (fun h=>bd (ap ⟨rfl,rfl,dc h oC,trivial⟩)) fun Gc=>aj (ag ?_));refine af (aw rfl (fun h=>bd (ap ⟨rfl,rfl,dc h oC,trivial⟩)) fun C=>aj (ag ?_));refine af (aw rfl (fun h=>bd (ap ⟨rfl,rfl,dc h oC,trivial⟩)) fun yi=>aj (ag ?_));refine af (aw rfl (fun h=>bd (ap ⟨rfl,rfl,dc h oC,trivial⟩)) fun yj=>aj (ag ?_));refine af (aw rfl (fun h=>bd (ap ⟨rfl,rfl,dc h oC,trivial⟩)) fun ym=>aj (ag ?_));refine af (aw rfl (fun h=>bd (ap ⟨rfl,rfl,dc h oC,trivial⟩)) fun yp=>aj (ag ?_));refine af (aw rfl (fun h=>bd (ap ⟨rfl,rfl,dc h oC,trivial⟩)) fun X=>aj (ag ?_));refine af (aw rfl (fun h=>bd (ap ⟨rfl,rfl,dc h oC,trivial⟩)) fun OM=>lx (ag ?_));refine af (ap ⟨rfl,rfl,?_,trivial⟩);show D.s (.bool (x.op==37))=_;simp only[aU,nF,pM,List.cons_append,List.nil_append,List.any_cons,List.any_nil,e1,e2,e3,e4,e5,e6,e7,e8,e9,OL,sZ,yh,M,Gc,C,yi,yj,ym,yp,X,OM,Bool.false_or,Bool.or_false]
 refine aw rfl (fun h1=>aj ?_) fun h1=>nL (aj ?_)
 .refine aq ?_;refine af (aY (bO (aR (av rfl ?_))));rw[J,if_pos h1];rfl
 .refine SS ?_;refine af (av rfl ?_);rw[J,if_neg (by simp[h1])];rfl
theorem Ix{x:Argus.End}:PCall prog 146 [.agg (bh x)] (I (eT x)):=by
 have C:∀ a∈[D.agg (bh x)],Tr a:=.cons (.agg (lT x)) .nil;have sP:=sP (x:=x.ins);refine bg ahB C (Tr.s _) ?_;rw[ahC];refine az (ag ?_);refine af (aW (bG [(0,bh x,69)] eH (l:=[(1,.pt (bh x))]) eH) (aB (aj (ag ?_))));refine af (oI (aj (ag ?_)));refine af (aw rfl (fun h1=>?_) fun h1=>?_)
 .have h1:x.kind=5:=by simpa using h1
  refine ws (ag ?_);refine cl sP (SS ?_);refine af (aY (bO (aR (av (d:=I (dL x.ins)) rfl ?_))));simp[eT,h1]
 have h1:¬ x.kind=5:=by simpa using h1
 refine eI (fun s=>Ghost prog s ⟨aD [(1,.pt (bh x)),(4,U8 x.kind),(10,B (aU [6,7] x.kind))],fun _=>none,1⟩) (aj ?_) fun s hg=>⟨_,hg,?_⟩
 .refine ag ?_;refine af (aw rfl (fun h=>bd (ap ⟨rfl,rfl,dc h oC,trivial⟩)) fun e6=>lx (ag ?_));refine af (ap ⟨rfl,rfl,?_,trivial⟩);show D.s (.bool (x.kind==7))=_;simp[aU,e6]
 refine aw rfl (fun h2=>?_) fun h2=>?_
 .refine ws (aq ?_);refine af (aY (bO (aR (av (d:=I x.a) rfl ?_))));simp[eT,h1,h2]
 refine ws (ag ?_);refine af (aw rfl (fun h3=>?_) fun h3=>?_)
 .have h3:x.kind=8:=by simpa using h3
  refine ws (aq ?_);refine af (aY (bO (aR (av (d:=I x.b) rfl ?_))));simp[eT,h2,h3];simp[aU]
 have h3:¬ x.kind=8:=by simpa using h3
 refine nL (aj (SS ?_));refine af (av (d:=I (-1)) rfl ?_);simp[eT,h1,h2,h3]
theorem zk{x:bC}(hx:x.op=10\/x.op=38->x.args.length<=1000):PCall prog 123 [.agg (bu x)] (au (cP x)):=by
 have a7:∀ a∈[D.agg (bu x)],Tr a:=.cons (.agg (sc x)) .nil;refine bg ahD a7 (cL _) ?_;rw[ahE];refine az (ag ?_);refine af (aW (bG [(0,bu x,66)] eH (l:=[(1,.pt (bu x))]) eH) (aB (aj (ag ?_))));refine af (oI (eI (fun s=>Ghost prog s ⟨aD [(1,.pt (bu x)),(4,U8 x.op),(5,B (aU pP x.op))],fun _=>none,1⟩) (aj ?_) fun s hg=>⟨_,hg,?_⟩))
 .refine ag ?_;refine af (aw rfl (fun h=>bd (ap ⟨rfl,rfl,dc h oC,trivial⟩)) fun e2=>aj (ag ?_));refine af (aw rfl (fun h=>bd (ap ⟨rfl,rfl,dc h oC,trivial⟩)) fun e8=>aj (ag ?_));refine af (aw rfl (fun h=>bd (ap ⟨rfl,rfl,dc h oC,trivial⟩)) fun sZ=>aj (ag ?_));refine af (aw rfl (fun h=>bd (ap ⟨rfl,rfl,dc h oC,trivial⟩)) fun yh=>aj (ag ?_));refine af (aw rfl (fun h=>bd (ap ⟨rfl,rfl,dc h oC,trivial⟩)) fun C=>aj (ag ?_));refine af (aw rfl (fun h=>bd (ap ⟨rfl,rfl,dc h oC,trivial⟩)) fun Gd=>aj (ag ?_));refine af (aw rfl (fun h=>bd (ap ⟨rfl,rfl,dc h oC,trivial⟩)) fun Ge=>aj (ag ?_));refine af (aw rfl (fun h=>bd (ap ⟨rfl,rfl,dc h oC,trivial⟩)) fun M=>lx (ag ?_));refine af (ap ⟨rfl,rfl,?_,trivial⟩);show D.s (.bool (x.op==36))=_;simp[aU,pP,e2,e8,sZ,yh,C,Gd,Ge,M]
 refine aw rfl (fun h1=>?_) fun h1=>?_
 .refine az (aP ?_);exact af (aW (bG [(1,([x.a]).map I,3)] eH (l:=[(2,au ([x.a]))]) ⟨lA c3 rfl,trivial⟩) (aY (bO (aR (av (d:=au ([x.a])) rfl (congrArg au (by unfold cP;rw[if_pos h1])))))))
 refine eI (fun s=>Ghost prog s ⟨aD [(1,.pt (bu x)),(4,U8 x.op),(18,B (aU tt x.op))],fun _=>none,1⟩) (aj ?_) fun s hg=>⟨_,hg,?_⟩
 .refine ag ?_;refine af (aw rfl (fun h=>bd (ap ⟨rfl,rfl,dc h oC,trivial⟩)) fun e3=>aj (ag ?_));refine af (aw rfl (fun h=>bd (ap ⟨rfl,rfl,dc h oC,trivial⟩)) fun e4=>aj (ag ?_));refine af (aw rfl (fun h=>bd (ap ⟨rfl,rfl,dc h oC,trivial⟩)) fun e5=>aj (ag ?_));refine af (aw rfl (fun h=>bd (ap ⟨rfl,rfl,dc h oC,trivial⟩)) fun e6=>aj (ag ?_));refine af (aw rfl (fun h=>bd (ap ⟨rfl,rfl,dc h oC,trivial⟩)) fun e7=>aj (ag ?_));refine af (aw rfl (fun h=>bd (ap ⟨rfl,rfl,dc h oC,trivial⟩)) fun X=>aj (ag ?_));refine af (aw rfl (fun h=>bd (ap ⟨rfl,rfl,dc h oC,trivial⟩)) fun yi=>aj (ag ?_));refine af (aw rfl (fun h=>bd (ap ⟨rfl,rfl,dc h oC,trivial⟩)) fun yj=>aj (ag ?_));refine af (aw rfl (fun h=>bd (ap ⟨rfl,rfl,dc h oC,trivial⟩)) fun ym=>aj (ag ?_));refine af (aw rfl (fun h=>bd (ap ⟨rfl,rfl,dc h oC,trivial⟩)) fun yp=>aj (ag ?_));refine af (aw rfl (fun h=>bd (ap ⟨rfl,rfl,dc h oC,trivial⟩)) fun J=>aj (ag ?_));refine af (aw rfl (fun h=>bd (ap ⟨rfl,rfl,dc h oC,trivial⟩)) fun OP=>lx (ag ?_));refine af (ap ⟨rfl,rfl,?_,trivial⟩);show D.s (.bool (x.op==37))=_;simp[aU,tt,e3,e4,e5,e6,e7,X,yi,yj,ym,yp,J,OP]
 refine aw rfl (fun h2=>?_) fun h2=>?_
 .refine az (bB ?_);exact af (aW (bG [(1,([x.a,x.b]).map I,3)] eH (l:=[(2,au ([x.a,x.b]))]) ⟨lA c3 rfl,trivial⟩) (aY (bO (aR (av (d:=au ([x.a,x.b])) rfl (congrArg au (by unfold cP;rw[if_neg (by simp[h1]),if_pos h2])))))))
 refine ws (ag ?_);refine af (aw rfl (fun h3=>?_) fun h3=>?_)
 .have h3:x.op=10:=by simpa using h3
  have hl:=hx (.inl h3);have tX:(x.args.map I).take (x.args.length*1)=x.args.map I:=df oS;refine az (aO ?_);refine af (aW (bG [(2,x.args.map I,3)] eH (l:=[(2,au x.args)]) ⟨?_,trivial⟩) (aY (bO (aR (av (d:=au x.args) rfl ?_)))))
  .show uj _ [(2,_,3)] (.rs 2 0 (0+x.args.length))=_;refine(lA c3 (es:=x.args.map I) (df oS)).trans ?_;rw[Nat.zero_add]
  exact congrArg au (by unfold cP;rw[if_neg (by simp[h1]),if_neg (by simp[h2]),if_pos h3])
 have h3:¬ x.op=10:=by simpa using h3
 refine ws (ag ?_);refine af (aw rfl (fun h4=>?_) fun h4=>?_)
 .have h4:x.op=38:=by simpa using h4
  have hl:=hx (.inr h4);have tX:(x.args.map I).take (x.args.length*1)=x.args.map I:=df oS;refine az (aJ ?_);refine af (aW (bG [(2,(x.a::x.b::x.args).map I,3)] eH (l:=[(2,au (x.a::x.b::x.args))]) ⟨?_,trivial⟩) (aY (bO (aR (av (d:=au (x.a::x.b::x.args)) rfl ?_)))))
  .show uj _ [(2,_,3)] (.rs 2 0 (2+x.args.length))=_;refine(lA c3 (es:=(x.a::x.b::x.args).map I) (df oP)).trans ?_;rw[Nat.add_comm];rfl
  .exact congrArg au (by unfold cP;rw[if_neg (by simp[h1]),if_neg (by simp[h2]),if_neg h3,if_pos h4])
 have h4:¬ x.op=38:=by simpa using h4
 refine nL (az (SS ?_));exact af (aW (z9 (n0:=2) rfl) (av (d:=au []) rfl (congrArg au (by unfold cP;rw[if_neg (by simp[h1]),if_neg (by simp[h2]),if_neg h3,if_neg h4]))))
theorem Iy{x:Argus.End}(hx:x.kind=5->x.ins.op=10\/x.ins.op=38->x.ins.args.length<=1000)(hy:x.kind=6\/x.kind=7->x.args.length<=1000):PCall prog 128 [.agg (bh x)] (au (cK x)):=by
 have C:∀ a∈[D.agg (bh x)],Tr a:=.cons (.agg (lT x)) .nil;refine bg ahF C (cL _) ?_;rw[ahG];refine az (ag ?_);refine af (aW (bG [(0,bh x,69)] eH (l:=[(1,.pt (bh x))]) eH) (aB (aj (ag ?_))));refine af (oI (eI (fun s=>Ghost prog s ⟨aD [(1,.pt (bh x)),(4,U8 x.kind),(5,B (aU [2,8,9] x.kind))],fun _=>none,1⟩) (aj ?_) fun s hg=>⟨_,hg,?_⟩))
 .refine ag ?_;refine af (aw rfl (fun h=>bd (ap ⟨rfl,rfl,dc h oC,trivial⟩)) fun e2=>aj (ag ?_));refine af (aw rfl (fun h=>bd (ap ⟨rfl,rfl,dc h oC,trivial⟩)) fun e8=>lx (ag ?_));refine af (ap ⟨rfl,rfl,?_,trivial⟩);show D.s (.bool (x.kind==9))=_;simp[aU,e2,e8]
 refine aw rfl (fun h1=>?_) fun h1=>?_
 .refine az (aP ?_);exact af (aW (bG [(1,([x.a]).map I,3)] eH (l:=[(2,au ([x.a]))]) ⟨lA c3 rfl,trivial⟩) (aY (bO (aR (av (d:=au ([x.a])) rfl (congrArg au (by unfold cK;rw[if_pos h1])))))))
 refine ws (ag ?_);refine af (aw rfl (fun h2=>?_) fun h2=>?_)
 .have h2:x.kind=3:=by simpa using h2
  refine aB (aj (aq ?_));refine af (cx rfl (fun h3=>?_) fun h3=>bP (az ?_))
  .have h3:x.a= -1:=by simpa using h3
   refine aB (az (SS ?_));exact af (aW (z9 (n0:=2) rfl) (bX (bO (aR (av (d:=au []) rfl (congrArg au (by unfold cK;rw[if_neg (by simp[h1]),if_pos h2,if_neg (by simp[h3])])))))))
  .have h3:¬ x.a= -1:=by simpa using h3
   refine aP ?_;exact af (aW (bG [(1,([x.a]).map I,3)] eH (l:=[(2,au ([x.a]))]) ⟨lA c3 rfl,trivial⟩) (aY (bO (aR (av (d:=au ([x.a])) rfl (congrArg au (by unfold cK;rw[if_neg (by simp[h1]),if_pos h2,if_pos h3])))))))
 have h2:¬ x.kind=3:=by simpa using h2
 refine ws (ag ?_);refine af (aw rfl (fun h3=>?_) fun h3=>?_)
 .have h3:x.kind=5:=by simpa using h3
  have zk:=zk (x:=x.ins) (hx h3);refine ws (ag ?_);refine cl zk (SS ?_);exact af (aY (bO (aR (av (d:=au (cP x.ins)) rfl (congrArg au (by unfold cK;rw[if_neg (by simp[h1]),if_neg h2,if_pos h3]))))))
 have h3:¬ x.kind=5:=by simpa using h3
 refine eI (fun s=>Ghost prog s ⟨aD [(1,.pt (bh x)),(4,U8 x.kind),(25,B (aU [6,7] x.kind))],fun _=>none,1⟩) (aj ?_) fun s hg=>⟨_,hg,?_⟩
 .refine ag ?_;refine af (aw rfl (fun h=>bd (ap ⟨rfl,rfl,dc h oC,trivial⟩)) fun e6=>lx (ag ?_));refine af (ap ⟨rfl,rfl,?_,trivial⟩);show D.s (.bool (x.kind==7))=_;simp[aU,e6]
 refine aw rfl (fun h4=>?_) fun h4=>?_
 .have h5:x.kind=6\/x.kind=7:=by simpa[aU] using h4
  have hl:=hy h5;have tX:(x.args.map I).take (x.args.length*1)=x.args.map I:=df oS;refine az (aO ?_);refine af (aW (bG [(2,x.args.map I,3)] eH (l:=[(2,au x.args)]) ⟨?_,trivial⟩) (aY (bO (aR (av (d:=au x.args) rfl ?_)))))
  .show uj _ [(2,_,3)] (.rs 2 0 (0+x.args.length))=_;refine(lA c3 (es:=x.args.map I) (df oS)).trans ?_;rw[Nat.zero_add]
  exact congrArg au (by unfold cK;rw[if_neg (by simp[h1]),if_neg h2,if_neg h3,if_pos h4])
 refine nL (az (SS ?_));exact af (aW (z9 (n0:=2) rfl) (av (d:=au []) rfl (congrArg au (by unfold cK;rw[if_neg (by simp[h1]),if_neg h2,if_neg h3,if_neg (by simp[h4])]))))
end Go.Proofs.Tryz.K
end
namespace Go.Argus
open Go Go.Abs
open Go.Proofs.Tryz.K (nextR)
structure IA(R n:Nat)(x:bC):Prop where
 r:∀ r∈cP x,∃ i:Nat,i<R/\r=i
 s:x.op=17->∃ i:Nat,R+i<n/\x.n=i
 p:x.op=19->∀ r∈x.args,∃ i:Nat,i<R/\r=i
theorem lR{l:List Int}{r:Int}(h:jC l r):∃ i:Nat,i<l.length/\r=i:=⟨r.toNat,by unfold jC at h;omega,by unfold jC at h;omega⟩
theorem SX{f:aG}{b ah:Int}{x:bC}(hs:∀ k∈f.aZ,k≠0)(h:eD f b ah x=true):AS f.al.length (f.al.length+f.aZ.length) x/\IA f.al.length (f.al.length+f.aZ.length) x/\(x.op=19->(x.args.length:Int)=ah):=by
 have k1:∀ {r:Int},bp f r 119=true->∃ i:Nat,i<f.al.length/\r=i:=fun {r} h=>lR (ll fun e=>by rw[vg,e] at h;simp[aX] at h);have M:∀ {r:Int},bp f r 114=true->∃ i:Nat,i<f.al.length/\r=i:=fun {r} h=>lR (ll fun e=>by rw[AD,e] at h;simp[aX] at h);have k3:∀ {r:Int},bp f r 105=true->∃ i:Nat,i<f.al.length/\r=i:=fun {r} h=>lR (ll fun e=>by rw[EV,e] at h;simp[aX] at h);have k4:∀ {r:Int},bp f r 118=true->∃ i:Nat,i<f.al.length/\r=i:=fun {r} h=>lR (pL h)
 have X:∀ {a b:Int},kM f a b=true->(∃ i:Nat,i<f.al.length/\a=i)/\∃ i:Nat,i<f.al.length/\b=i:=fun {a b} h=>by
  simp only[kM,aM] at h;exact⟨lR (pL h.1),lR (pL h.2.1)⟩
 have k6:∀ {l:List Int},gZ f.al l=true->∀ r∈l,∃ i:Nat,i<f.al.length/\r=i:=fun {l} h r hr=>lR (z8 h r hr)
 have k7:∀ {r n:Int},mW f.al f.aZ r n=true->(∃ i:Nat,i<f.al.length/\r=i)/\∃ i:Nat,f.al.length+i<f.al.length+f.aZ.length/\n=i:=fun {r n} h=>by
  obtain⟨h1,h2,h3⟩:=K0 hs h;exact⟨lR h1,n.toNat,oG,oG⟩
 obtain⟨op,to,a,C,n,args⟩:=x;unfold eD at h;dsimp only at h
 have fin:∀ {W:Prop} {Rs:List Int},(dL ⟨op,to,a,C,n,args⟩= -1\/∃ i:Nat,i<f.al.length/\dL ⟨op,to,a,C,n,args⟩=i)->cP ⟨op,to,a,C,n,args⟩=Rs->(∀ r∈Rs,∃ i:Nat,i<f.al.length/\r=i)->
  op≠17->op≠18->op≠19->AS f.al.length (f.al.length+f.aZ.length) ⟨op,to,a,C,n,args⟩/\IA f.al.length (f.al.length+f.aZ.length) ⟨op,to,a,C,n,args⟩/\(op=19->(args.length:Int)=ah):=fun {W Rs} h1 h2 h3 e1 e2 e3=>
  ⟨⟨h1,fun e=>absurd e e2⟩,⟨by rw[h2];exact h3,fun e=>absurd e e1,fun e=>absurd e e3⟩,fun e=>absurd e e3⟩
 by_cases h1:op=1
 .subst h1;simp[aM] at h;exact fin (W:=True) (Rs:=[]) (.inr (k1 h.2.1)) rfl oS oC oC oC
 by_cases h2:op=2
 .subst h2;simp[aM] at h;exact fin (W:=True) (Rs:=[a]) (.inr (X h.2).1) rfl (by simpa using(X h.2).2) oC oC oC
 by_cases h3:op=3\/op=4\/op=6\/op=7
 .have J:bp f to 119=true/\bp f a 119=true/\bp f C 119=true:=by
   rcases h3 with rfl|rfl|rfl|rfl<;>(simp[aU,aM] at h;exact h.2)
  have hr:∀ r∈[a,C],∃ i:Nat,i<f.al.length/\r=i:=by
   intro r hr;simp at hr;rcases hr with rfl|rfl
   .exact k1 J.2.1
   .exact k1 J.2.2
  rcases h3 with rfl|rfl|rfl|rfl<;>exact fin (W:=True) (Rs:=[a,C]) (.inr (k1 J.1)) rfl hr oC oC oC
 by_cases h5:op=5
 .subst h5;simp[aU,aM] at h;refine fin (W:=True) (Rs:=[a,C]) (.inr (k1 h.2.1)) rfl ?_ oC oC oC;intro r hr;simp at hr;rcases hr with rfl|rfl
  .exact(X h.2.2).1
  .exact(X h.2.2).2
 by_cases h8:op=8
 .subst h8;simp[aU,aM] at h;exact fin (W:=True) (Rs:=[a]) (.inr (k1 h.2.1)) rfl (by simpa using k1 h.2.2) oC oC oC
 by_cases h9:op=9
 .subst h9;simp[aU,aM] at h;exact fin (W:=True) (Rs:=[]) (.inr (M h.2.1)) rfl oS oC oC oC
 by_cases oA:op=10
 .subst oA;simp[aU,aM] at h;exact fin (W:=True) (Rs:=args) (.inr (M h.2.1)) rfl (k6 h.2.2.2.2) oC oC oC
 by_cases la:op=11
 .subst la;simp[aU,aM] at h;exact fin (W:=True) (Rs:=[a]) (.inr (k4 h.2.1)) rfl (by simpa using M h.2.2.1) oC oC oC
 by_cases wi:op=12
 .subst wi;simp[aU,aM] at h;refine fin (W:=True) (Rs:=[a,C]) (.inl rfl) rfl ?_ oC oC oC;intro r hr;simp at hr;rcases hr with rfl|rfl
  .exact M h.2.1
  .exact k4 h.2.2.1
 by_cases yq:op=13\/op=14
 .have J:bp f to 119=true/\bp f a 114=true:=by
   rcases yq with rfl|rfl<;>(simp[aU,aM] at h;exact h.2)
  rcases yq with rfl|rfl<;>exact fin (W:=True) (Rs:=[a]) (.inr (k1 J.1)) rfl (by simpa using M J.2) oC oC oC
 by_cases YW:op=15
 .subst YW;simp[aU,aM] at h;exact fin (W:=True) (Rs:=[a]) (.inl rfl) rfl (by simpa using k1 h.2) oC oC oC
 by_cases rS:op=16
 .subst rS;simp[aU,aM] at h;exact fin (W:=True) (Rs:=[a]) (.inl rfl) rfl (by simpa using k3 h.2) oC oC oC
 by_cases iS:op=17
 .subst iS;simp[aU,aM] at h;exact⟨⟨.inr (k7 h.2).1,fun e=>by simp at e⟩,⟨by simp[cP,aU,pP,tt],fun _=>(k7 h.2).2,fun e=>by simp at e⟩,fun e=>by simp at e⟩
 by_cases eS:op=18
 .subst eS;simp[aU,aM] at h;exact⟨⟨.inl rfl,fun _=>(k7 h.2).2⟩,⟨by simpa[cP,aU,pP] using(k7 h.2).1,fun e=>by simp at e,fun e=>by simp at e⟩,fun e=>by simp at e⟩
 by_cases fH:op=19
 .subst fH;simp[aU,aM] at h;refine⟨⟨.inr (k4 h.2.2.1),fun e=>by simp at e⟩,⟨by simp[cP,aU,pP,tt],fun e=>by simp at e,fun _ r hr=>(X (h.2.2.2.2 r hr)).2⟩,fun _=>?_⟩;simpa[aX] using h.2.2.2.1
 .rw[if_neg h1,if_neg h2,if_neg (by simp[aU];omega),if_neg h5,if_neg h8,if_neg h9,if_neg oA,if_neg la,if_neg wi,if_neg (by simp[aU];omega),if_neg YW,if_neg rS,if_neg iS,if_neg eS,if_neg fH] at h;cases h
theorem SY{f:aG}{x:bC}(h:lI f x=true):(dL x= -1\/∃ i:Nat,i<f.al.length/\dL x=i)/\∀ r∈cP x,∃ i:Nat,i<f.al.length/\r=i:=by
 have k1:∀ {r:Int},bp f r 119=true->∃ i:Nat,i<f.al.length/\r=i:=fun {r} h=>lR (ll fun e=>by rw[vg,e] at h;simp[aX] at h);have J:∀ {r:Int},bp f r 114=true->∃ i:Nat,i<f.al.length/\r=i:=fun {r} h=>lR (ll fun e=>by rw[AD,e] at h;simp[aX] at h);have X:∀ {r:Int},bp f r 118=true->∃ i:Nat,i<f.al.length/\r=i:=fun {r} h=>lR (pL h);have k6:∀ {l:List Int},gZ f.al l=true->∀ r∈l,∃ i:Nat,i<f.al.length/\r=i:=fun {l} h r hr=>lR (z8 h r hr);obtain⟨op,to,a,C,n,args⟩:=x;unfold lI at h;dsimp only at h;by_cases h0:op=30\/op=31\/op=32\/op=33\/op=34
 .have M:bp f to 119=true/\bp f a 119=true/\bp f C 119=true:=by
   rcases h0 with rfl|rfl|rfl|rfl|rfl<;>(simp[aU,aM] at h;exact h.2)
  have hr:∀ r∈[a,C],∃ i:Nat,i<f.al.length/\r=i:=by
   intro r hr;simp at hr;rcases hr with rfl|rfl
   .exact k1 M.2.1
   .exact k1 M.2.2
  rcases h0 with rfl|rfl|rfl|rfl|rfl<;>exact⟨.inr (k1 M.1),hr⟩
 by_cases h5:op=35
 .subst h5;simp[aU,aM] at h;refine⟨.inl rfl,?_⟩;show ∀ r∈[a,C],_;intro r hr;simp at hr;rcases hr with rfl|rfl
  .exact J h.2.1
  .exact X h.2.2
 by_cases h6:op=36
 .subst h6;simp[aU,aM] at h;refine⟨.inr (X h.2.1),?_⟩;show ∀ r∈[a],_;simpa using J h.2.2
 by_cases h7:op=37
 .subst h7;simp[aU,aM] at h;refine⟨.inr (X h.2.1),?_⟩;show ∀ r∈[a,C],_;intro r hr;simp at hr;rcases hr with rfl|rfl
  .exact J h.2.2.1
  .exact k1 h.2.2.2
 by_cases h8:op=38
 .subst h8;simp[aU,aM] at h;refine⟨.inl rfl,?_⟩;show ∀ r∈a::C::args,_;intro r hr;rcases List.mem_cons.1 hr with rfl|hr
  .exact J h.2.1
  .rcases List.mem_cons.1 hr with rfl|hr
   .exact k1 h.2.2.1
   .exact k6 h.2.2.2.2 r hr
 .exfalso;simp[aU,h5,h6,h7,h8] at h;omega
theorem K5{f:aG}{x:End}(h:ig f x=true):(eT x= -1\/∃ i:Nat,i<f.al.length/\eT x=i)/\(∀ r∈cK x,∃ i:Nat,i<f.al.length/\r=i)/\(x.kind=7->∃ i:Nat,i<f.al.length/\x.a=i):=by
 have k1:∀ {r:Int},bp f r 119=true->∃ i:Nat,i<f.al.length/\r=i:=fun {r} h=>lR (ll fun e=>by rw[vg,e] at h;simp[aX] at h);have k3:∀ {r:Int},bp f r 105=true->∃ i:Nat,i<f.al.length/\r=i:=fun {r} h=>lR (ll fun e=>by rw[EV,e] at h;simp[aX] at h);have C:∀ {r:Int},bp f r 118=true->∃ i:Nat,i<f.al.length/\r=i:=fun {r} h=>lR (pL h);have X:∀ {l:List Int},gZ f.al l=true->∀ r∈l,∃ i:Nat,i<f.al.length/\r=i:=fun {l} h r hr=>lR (z8 h r hr);obtain⟨kind,a,b,to,gF,name,ins,args,aL,cX⟩:=x;unfold ig at h;dsimp only at h;by_cases h1:kind=1
 .subst h1;exact⟨.inl rfl,by simp[cK,aU],fun e=>by simp at e⟩
 by_cases h2:kind=2
 .subst h2;simp[aM] at h;refine⟨.inl rfl,?_,fun e=>by simp at e⟩;show ∀ r∈[a],_;simpa using k1 h.2.1
 by_cases h3:kind=3
 .subst h3;rw[if_neg oC,if_neg oC,if_pos rfl] at h;refine⟨.inl rfl,?_,fun e=>by simp at e⟩;intro r hr;simp[cK,aU] at hr;obtain⟨e,rfl⟩:=hr;by_cases hc:f.iter=true\/f.result=0
  .rw[if_pos hc,aM,oK] at h;exact absurd h.2 e
  .rw[if_neg hc,aM,aM] at h;exact C h.2.1
 by_cases h4:kind=4
 .subst h4;exact⟨.inl rfl,by simp[cK,aU],fun e=>by simp at e⟩
 by_cases h5:kind=5
 .subst h5;simp[aM] at h;exact⟨(SY h.2.1).1,(SY h.2.1).2,fun e=>by simp at e⟩
 by_cases J:kind=6
 .subst J;simp[aM] at h;refine⟨?_,X h.2.2.2.1,fun e=>by simp at e⟩;show a= -1\/∃ i:Nat,_/\a=_;rcases h.2.2.2.2.1 with e|e
  .exact .inl (by simpa[aX] using e)
  .exact .inr (C e)
 by_cases M:kind=7
 .subst M;simp[aM] at h;exact⟨.inr (k3 h.2.2.2.2.1),X h.2.2.2.1,fun _=>k3 h.2.2.2.2.1⟩
 by_cases h8:kind=8
 .subst h8;simp[aM] at h;refine⟨.inr (C h.2.2.1),?_,fun e=>by simp at e⟩;show ∀ r∈[a],_;simpa using k3 h.2.1
 by_cases h9:kind=9
 .subst h9;simp[aM] at h;refine⟨.inl rfl,?_,fun e=>by simp at e⟩;show ∀ r∈[a],_;simpa using C h.2.2.1
 .simp[h1,h2,h3,h4,h5,J,M,h8,h9] at h
end Go.Argus
section
open Go Go.Abs Go.Proofs Go.Argus
namespace Go.Argus
open Go.Proofs.Tryz.K (nextR)
theorem RC{f:aG}{x:End}(h:j9 f x=true):qX x=nextR x:=by
 refine SV (DI .nil).1 (JW x) fun t=>?_;rw[Qu,GQ h,nextR,Gu]
theorem J7{f:aG}{bs:List b7}(h:∀ b∈bs,j9 f b.fin=true)(k:Nat):l0 bs k=bH bs k:=by
 induction k with
 |zero=>rfl
 |succ k ih=>
  unfold l0 bH at ih ⊢;rw[List.range_succ,List.foldl_append,List.foldl_append,ih];show DZ bs _ k=qS bs _ k;unfold DZ qS;cases hx:bs[k]? with
  |none=>rfl
  |some x=>dsimp only;rw[RC (h x (bU hx))]
end Go.Argus
end
namespace Go.Argus
open Go Go.Abs
open Go.Proofs.Tryz.K (nextR)
def sB(f:aG):Bool:=oO f&&(se f&&oQ f)
def Hs(f:aG):Bool:=f.ab.all fun x=>(dW x.fin).all (cu f)
def wX(f:aG)(b:Nat)(l:List bC)(j:Nat):Bool:=eD f b (l0 f.ab f.ab.length b).length (l.getD j eB)&& !(cr (l.getD j eB)&&(decide (0<j)&& !cr (l.getD (j - 1) eB)))
def sQ(f:aG)(b:Nat):Bool:=
 let x:=f.ab.getD b kn
 !decide ((200:Int)<x.ins.length)&&((range x.ins.length).all (wX f b x.ins)&&(ig f x.fin&& !(x.fin.kind==7&&(lU f.ab b).any (·==x.fin.a))))
def wB(f:aG):Bool:=sB f&&(Hs f&&(range f.ab.length).all (sQ f))
theorem GB(f:aG)(b:Int)(x:bC)(p:Bool)(C:Int):jO f b x p C=(jO f b x true C&&(!cr x||p)):=by
 unfold jO cr;by_cases rS:x.op=16
 .simp[rS]
 .by_cases X:x.op=17
  .simp[X]
  .by_cases J:x.op=18
   .simp[J]
   .by_cases M:x.op=19
    .simp[M,Bool.and_comm]
    .simp[rS,X,J,M]
theorem ade(l:List bC):(∀ j,j<l.length->cr (l.getD j eB)=true->0<j->cr (l.getD (j - 1) eB)=true)↔∀ j,j<l.length->cr (l.getD j eB)=true->(l.take (j+1)).all cr=true:=by
 have hg:∀ {j},j<l.length->∀ y,l[j]? =some y->l.getD j eB=y:=fun _ y hy=>getD_some hy;constructor
 .intro h j
  induction j with
  |zero=>
   intro hj hp;have hx:l[0]? =some l[0]:=aN hj;rw[getD_some hx] at hp;rw[List.take_add_one,hx];simpa using hp
  |succ j ih=>
   intro hj hp;have hx:l[j+1]? =some l[j+1]:=aN hj;have h1:=h (j+1) hj hp oG;have h2:=ih oG (by simpa using h1);rw[List.take_add_one,List.all_append,h2,hx];rw[getD_some hx] at hp;simpa using hp
 .intro h j hj hp h0;have h1:=h j hj hp;have hx:l[j - 1]? =some l[j - 1]:=aN oG;rw[getD_some hx];refine bj.1 h1 _ (bU (i:=j - 1) ?_);rw[List.getElem?_take,if_pos oG,hx]
theorem aer{n:Nat}{p q:Nat->Bool}:(range n).all (fun j=>p j&&q j)=((range n).all p&&(range n).all q):=by
 rw[Bool.eq_iff_iff];simp only[bj,aM,List.mem_range];exact⟨fun h=>⟨fun j hj=>(h j hj).1,fun j hj=>(h j hj).2⟩,fun h j hj=>⟨h.1 j hj,h.2 j hj⟩⟩
theorem PS{f:aG}:wB f=jz f:=by
 have hH:jz f=(sB f&&((range f.ab.length).all (j8 f)&&(range f.ab.length).all (tq f))):=by
  unfold jz sB;simp only[Bool.and_assoc]
 rw[hH];unfold wB;cases hh:sB f with
 |false=>rfl
 |true=>
  rw[Bool.true_and,Bool.true_and,Bool.eq_iff_iff,aM,aM,bj,bj,bj];unfold sB at hh;simp only[aM] at hh;obtain⟨h1,h2,_⟩:=hh
  have J:r7 f=true:=by
   unfold oO at h1;simp only[aM] at h1;exact h1.2.2.1
  have lH:f.al.length<=1200:=by
   unfold oO at h1;simp only[aM,Bool.not_eq_true',decide_eq_false_iff_not] at h1;omega
  have fQ:∀ k∈f.aZ,k=1\/k=2:=fun k hk=>by
   unfold se at h2;simp only[aM] at h2;have h3:=h2.2.2.1;simp only[fy,Bool.not_eq_true',List.any_eq_false] at h3;have:=h3 k hk;simp[nE] at this;omega
  have jq:∀ {k:Nat},k<f.ab.length->∃ x,f.ab[k]? =some x/\f.ab.getD k kn=x/\x∈f.ab:=fun {k} hk=>by
   have hx:f.ab[k]? =some f.ab[k]:=aN hk;exact⟨_,hx,getD_some hx,cy _⟩
  have qg:(∀ b∈f.ab,j9 f b.fin=true)->∀ k,k<f.ab.length->(sQ f k=true↔j8 f k=true/\tq f k=true):=fun he k hk=>by
   obtain⟨x,hx,hg,hm⟩:=jq hk;have hah:=J7 he f.ab.length;unfold sQ j8 tq wX wv;simp only[hg,La J,he x hm,hah,Bool.true_and,aM,bj,List.mem_range];have h3:∀ j,eD f k (bH f.ab f.ab.length k).length (x.ins.getD j eB)=jO f k (x.ins.getD j eB) true (bH f.ab f.ab.length k).length:=fun j=>SW fQ;have XF:=ade x.ins;simp only[h3];constructor
   .rintro⟨M,C,X⟩;refine⟨⟨M,X⟩,fun j hj=>?_⟩;rw[GB,aM];refine⟨(C j hj).1,?_⟩;have:=XF.1 (fun j hj hp h0=>by have:=(C j hj).2;rw[hp] at this;simpa[h0] using this) j hj;cases hp:cr (x.ins.getD j eB) with
    |false=>rfl
    |true=>rw[this hp];rfl
   .rintro⟨⟨M,X⟩,C⟩;refine⟨M,fun j hj=>?_,X⟩
    have h4:∀ j,j<x.ins.length->cr (x.ins.getD j eB)=true->(x.ins.take (j+1)).all cr=true:=fun j hj hp=>by
     have:=C j hj;rw[GB,aM,hp] at this;simpa using this.2
    have h5:=C j hj;rw[GB,aM] at h5;refine⟨h5.1,?_⟩;have h6:=XF.2 h4 j hj;cases hp:cr (x.ins.getD j eB) with
    |false=>rfl
    |true=>
     by_cases h0:0<j
     .rw[h6 hp h0];simp
     .simp[h0]
  constructor
  .rintro⟨h3,h4⟩
   have he:∀ b∈f.ab,j9 f b.fin=true:=fun b hb=>by
    obtain⟨k,hk⟩:=cC hb;have:=h4 k (by simpa using(bw.1 hk).1);unfold sQ at this;simp only[getD_some hk,aM,La J] at this;exact this.2.2.1
   exact⟨fun k hk=>((qg he k (by simpa using hk)).1 (h4 k hk)).1,fun k hk=>((qg he k (by simpa using hk)).1 (h4 k hk)).2⟩
  .rintro⟨h3,h4⟩
   have he:∀ b∈f.ab,j9 f b.fin=true:=fun b hb=>by
    obtain⟨k,hk⟩:=cC hb;have:=h3 k (by simpa using(bw.1 hk).1);unfold j8 at this;simp only[getD_some hk,aM] at this;exact this.1
   refine⟨bj.2 fun x hx=>bj.2 fun t ht=>?_,fun k hk=>(qg he k (by simpa using hk)).2 ⟨h3 k hk,h4 k hk⟩⟩;rw[GQ (he x hx)] at ht;have:=(Kt lH J (he x hx)).to t ht;rw[cu,lk];omega
def opsV(R:Nat)(c:Cert)(x:bC):Bool:=(x.op !=17||c.is.getD ((R:Int)+x.n).toNat false)&&td c (cP x)
def q8(f:aG)(s:CS)(b:Nat)(x:bC)(k:Nat):Bool:=
 let p:=((bH f.ab f.ab.length b).getD k 0).toNat
 let c:=cF f.al.length (f.al.length+f.aZ.length) s p
 c.any||(nY (f.ab.getD p kn).fin b (fC f.al.length (f.ab.getD p kn).ins c)).is.getD (x.args.getD k 0).toNat false
def CR(f:aG)(s:CS)(b:Nat)(x:bC):Bool:= !cr x||(range x.args.length).all (q8 f s b x)
def AT(f:aG)(s:CS)(b:Nat)(l:List bC)(c:Cert)(j:Nat):Bool:=opsV f.al.length (fC f.al.length (l.take j) c) (l.getD j eB)&&CR f s b (l.getD j eB)
def q7(f:aG)(s:CS)(b:Nat):Bool:=
 let c:=cF f.al.length (f.al.length+f.aZ.length) s b
 let l:=(f.ab.getD b kn).ins
 c.any||((range l.length).all (AT f s b l c)&&td (fC f.al.length l c) (cK (f.ab.getD b kn).fin))
def Lr(f:aG):Int:=if wB f=true then(if(range f.ab.length).all (q7 f (iY f.ab f.args.toNat))=true then 0 else 81) else 80
theorem Lx{R n:Nat}(J:R<=n){w:List Int}(C:ff w):∀ {rs:List Int} {ok:Bool},(∀ r∈rs,∃ i:Nat,i<R/\r=i)->iW w ok rs=(ok&&td ⟨false,cD R n w⟩ rs)
 |[],ok,_=>by simp[iW,td]
 |r::rs,ok,h=>by
  obtain⟨i,hi,e⟩:=h r oS;have ih:=Lx J C (rs:=rs) (ok:=ok&&kT w r.toNat) fun r hr=>h r (by simp[hr])
  have h1:(cD R n w).getD r.toNat false=kT w r.toNat:=by
   rw[e,bN,getD_some (uV oG),Ae C.all];unfold gP;rw[if_pos hi]
  unfold iW td at ih ⊢;rw[List.foldl_cons,ih,List.all_cons,h1,Bool.and_assoc]
theorem SZ{R n:Nat}(hR:R<=1200)(hn:n<=R+60)(C:R<=n):∀ {l:List bC} (_:∀ x∈l,AS R n x/\IA R n x) {w:List Int} {ok:Bool} (_:ff w) (_:m7 R n w),
 (l.foldl l6 (w,ok)).2=(ok&&(range l.length).all fun j=>opsV R (fC R (l.take j) ⟨false,cD R n w⟩) (l.getD j eB))
 |[],_,w,ok,_,_=>by simp
 |x::l,h,w,ok,hw,ho=>by
  obtain⟨X,J⟩:=h x oS;obtain⟨h1,h2,h3⟩:=RA hR hn C X hw ho;have ih:=SZ hR hn C (l:=l) (ok:=(l6 (w,ok) x).2) (fun y hy=>h y (by simp[hy])) h2 h3;rw[List.foldl_cons];show(l.foldl l6 (yP w x,(l6 (w,ok) x).2)).2=_;rw[ih,List.length_cons,List.range_succ_eq_map,List.all_cons,List.all_map]
  have h0:(l6 (w,ok) x).2=(ok&&opsV R ⟨false,cD R n w⟩ x):=by
   show(iW w ok (cP x)&&_)=_;rw[Lx C hw J.r,Bool.and_assoc];congr 1;unfold opsV;rw[Bool.and_comm];congr 1;by_cases M:x.op=17
   .obtain⟨i,hi,e⟩:=J.s M;have e1:((R:Int)+x.n).toNat=R+i:=by omega
    have e2:(ld x.n).toNat=gP R (R+i):=by unfold ld gP;rw[if_neg oG];omega
    rw[e1,e2,getD_some (uV oG),Ae hw.all]
   .have:(x.op !=17)=true:=by simpa using M
    rw[this];rfl
  rw[h0,Bool.and_assoc];congr 2;refine List.all_congr rfl fun j=>?_;show _=opsV R (fC R ((x::l).take (j+1)) _) ((x::l).getD (j+1) eB);unfold fC;rw[List.take_succ_cons,List.foldl_cons,h1];rfl
theorem adf{l:List bC}{P:bC->Bool}(h:∀ j,j<l.length->cr (l.getD j eB)=true->(l.take (j+1)).all cr=true):(range l.length).all (fun j=> !cr (l.getD j eB)||P (l.getD j eB))=(l.takeWhile cr).all P:=by
 rw[Bool.eq_iff_iff,bj,bj];constructor
 .intro ha y hy;have C:y∈l:=List.takeWhile_sublist _ |>.subset hy;have hp:cr y=true:=bj.1 List.all_takeWhile y hy;obtain⟨j,hj⟩:=cC C;have:=ha j (by simpa using(bw.1 hj).1);rw[getD_some hj,hp] at this;simpa using this
 .intro ha j hj;have ao:j<l.length:=by simpa using hj
  have hx:l[j]? =some l[j]:=aN ao;have h1:=h j ao;rw[getD_some hx] at h1 ⊢;cases hp:cr l[j] with
  |false=>rfl
  |true=>
   have h2:=bj.1 (h1 hp)
   have J:l.takeWhile cr=l.take (j+1)++(l.drop (j+1)).takeWhile cr:=by
    conv=>lhs;rw[<- List.take_append_drop (j+1) l]
    exact List.takeWhile_append_of_pos h2
   have:P l[j]=true:=ha _ (by
    rw[J,List.mem_append];left
    exact bU (i:=j) (by rw[List.getElem?_take,if_pos oG,hx]))
   rw[this];rfl
structure tQ(f:aG):Prop where
 ok:qT f
 sl:f.aZ.length<=60
 ins:∀ b∈f.ab,∀ x∈b.ins,AS f.al.length (f.al.length+f.aZ.length) x/\IA f.al.length (f.al.length+f.aZ.length) x
 Jf:∀ (k:Nat) b,f.ab[k]? =some b->∀ (j:Nat) x,b.ins[j]? =some x->cr x=true->x.args.length=(bH f.ab f.ab.length k).length/\(b.ins.take (j+1)).all cr=true
 wr:∀ b∈f.ab,eT b.fin= -1\/∃ i:Nat,i<f.al.length/\eT b.fin=i
 rd:∀ b∈f.ab,∀ r∈cK b.fin,∃ i:Nat,i<f.al.length/\r=i
 ed:∀ b∈f.ab,dW b.fin=dp b.fin/\qX b.fin=nextR b.fin
 ar:∃ a:Nat,f.args=a/\a<=f.al.length
theorem EN{f:aG}(h:jz f=true):tQ f:=by
 have C:=tG h;have hd:=h;unfold jz at hd;simp only[aM] at hd;obtain⟨h1,h2,_,h4,_⟩:=hd
 have X:r7 f=true:=by
  unfold oO at h1;simp only[aM] at h1;exact h1.2.2.1
 have yf:∃ a:Nat,f.args=a/\a<=f.al.length:=by
  unfold oO at h1;simp only[aM,lk] at h1;have:=h1.2.1;refine⟨f.args.toNat,oG,?_⟩;have:=this.2;split at this<;>omega
 have fQ:∀ k∈f.aZ,k=1\/k=2:=fun k hk=>by
  unfold se at h2;simp only[aM] at h2;have h3:=h2.2.2.1;simp only[fy,Bool.not_eq_true',List.any_eq_false] at h3;have:=h3 k hk;simp[nE] at this;omega
 have he:∀ b∈f.ab,j9 f b.fin=true:=fun b hb=>by
  obtain⟨k,hk⟩:=cC hb;have:=bj.1 h4 k (by simpa using(bw.1 hk).1);unfold j8 at this;simp only[getD_some hk,aM] at this;exact this.1
 have J:∀ (k:Nat) b,f.ab[k]? =some b->∀ (j:Nat) x,b.ins[j]? =some x->eD f k (bH f.ab f.ab.length k).length x=true/\(cr x=true->(b.ins.take (j+1)).all cr=true):=fun k b hb j x hx=>by
  have:=C.right k b hb j x hx;rw[GB,aM] at this;refine⟨by rw[SW fQ];exact this.1,fun hp=>?_⟩;have h3:=this.2;rw[hp] at h3;simpa using h3
 have M:∀ b∈f.ab,ig f b.fin=true:=fun b hb=>by rw[La X];exact he b hb
 refine⟨C,C.aZ.2,fun b hb x hx=>?_,fun k b hb j x hx hp=>?_,fun b hb=>(K5 (M b hb)).1,fun b hb=>(K5 (M b hb)).2.1,fun b hb=>⟨GQ (he b hb),RC (he b hb)⟩,yf⟩
 .obtain⟨k,hk⟩:=cC hb;obtain⟨j,hj⟩:=cC hx;have:=SX C.aZ.1 (J k b hk j x hj).1;exact⟨this.1,this.2.1⟩
 .have:=SX C.aZ.1 (J k b hb j x hx).1;have h3:=this.2.2 (by simpa[cr] using hp);exact⟨oG,(J k b hb j x hx).2 hp⟩
theorem abI{f:aG}(h:tQ f):q0 f.al.length (f.al.length+f.aZ.length) f.ab.length (iY f.ab f.args.toNat):=by
 obtain⟨a,ha,uk⟩:=h.ar;have hR:=h.ok.al;have hS:=h.sl;have hi:=Qw (R:=f.al.length) (n:=f.al.length+f.aZ.length) (args:=a) hR oG oG h.ok.pos uk;rw[ha,bN];unfold iY;refine(Rx (J:=q0 f.al.length (f.al.length+f.aZ.length) f.ab.length) h.ok.blk (fun s hs hj=>ac9 (J:=q0 f.al.length (f.al.length+f.aZ.length) f.ab.length) h.ok.blk (fun s h=>Sa h false) (fun s k hs hj=>?_) hs hj) _ _ hi.1.ok hi.1 (Nat.lt_succ_self _)).2.2;refine ael (J:=q0 f.al.length (f.al.length+f.aZ.length) f.ab.length) h.ok.blk hs hj fun x hx hr u hu pv t ht=>?_;have hk:k<f.ab.length:=(bw.1 hx).1;have C:=bU hx;have M:=(h.ok.blk x C).to t ht;obtain⟨t,rfl⟩:=cU M.1;obtain⟨_,X,p3⟩:=DQ hR oG oG (ok:=true) (fun y hy=>(h.ins x C y hy).1) (hs.nw hk) (hj.yes k hk hr);exact(Sb hR oG oG pv (h.ed x C).1 (h.wr x C) oG X p3).1
theorem RD{f:aG}(h:tQ f){b:Nat}(hb:b<f.ab.length):q7 f (iY f.ab f.args.toNat) b=tm f.ab (iY f.ab f.args.toNat) b:=by
 have M:=abI h;have hR:=h.ok.al;have hS:=h.sl;generalize iY f.ab f.args.toNat=s at M ⊢;have hx:f.ab[b]? =some f.ab[b]:=aN hb;have J:f.ab[b]∈f.ab:=cy _;unfold q7 tm;simp only[getD_some hx];have AN:=h.Jf b _ hx;generalize f.ab[b]=x at hx J AN;cases qF:s.re.getD b false with
 |false=>
  have:cF f.al.length (f.al.length+f.aZ.length) s b=⟨true,replicate (f.al.length+f.aZ.length) false⟩:=by unfold cF;rw[qF];rfl
  rw[this];rfl
 |true=>
  have hc:cF f.al.length (f.al.length+f.aZ.length) s b=⟨false,cD f.al.length (f.al.length+f.aZ.length) (s.ws.getD b [])⟩:=by unfold cF;rw[qF];rfl
  have hw:=M.ok.nw hb;have ho:=M.yes b hb qF;rw[hc];generalize s.ws.getD b []=w at hw ho;have h1:=SZ hR oG oG (h.ins x J) (ok:=true) hw ho;obtain⟨h2,h3,h4⟩:=DQ hR oG oG (ok:=true) (fun y hy=>(h.ins x J y hy).1) hw ho;have h5:=Lx (R:=f.al.length) (n:=f.al.length+f.aZ.length) oG h3 (ok:=(x.ins.foldl l6 (w,true)).2) (h.rd x J)
  have h6:∀ j,j<x.ins.length->cr (x.ins.getD j eB)=true->(x.ins.take (j+1)).all cr=true:=fun j hj hp=>by
   have hy:x.ins[j]? =some x.ins[j]:=aN hj;rw[getD_some hy] at hp;exact(AN j _ hy hp).2
  have h7:=adf (l:=x.ins) (P:=fun y=>(range y.args.length).all (q8 f s b y)) h6
  have h8:(x.ins.takeWhile cr).all (fun y=>(range y.args.length).all (q8 f s b y))=(x.ins.takeWhile cr).all (wV f.ab s b):=by
   rw[Bool.eq_iff_iff,bj,bj]
   have jH:∀ y∈x.ins.takeWhile cr,(range y.args.length).all (q8 f s b y)=wV f.ab s b y:=fun y hy=>by
    have Jq:y∈x.ins:=List.takeWhile_sublist _ |>.subset hy;have hp:cr y=true:=bj.1 List.all_takeWhile y hy;obtain⟨j,hj⟩:=cC Jq;have hlen:=(AN j y hj hp).1;unfold wV;rw[hlen,Bool.eq_iff_iff,bj,bj]
    have:∀ k∈range (bH f.ab f.ab.length b).length,q8 f s b y k=uQ f.ab s b y k:=fun k hk=>by
     have hk:k<(bH f.ab f.ab.length b).length:=by simpa using hk
     have Yw:(bH f.ab f.ab.length b)[k]? =some (bH f.ab f.ab.length b)[k]:=aN hk;unfold q8 uQ;simp only[getD_some Yw]
     have X:(bH f.ab f.ab.length b)[k].toNat<f.ab.length:=by
      have alh:=(JR (fun b hb t ht=>((h.ok.blk b hb).to t ht).1) f.ab.length b).2 _ (cy hk);have:=h.ok.pos;omega
     generalize (bH f.ab f.ab.length b)[k].toNat=p at X;have v8:f.ab[p]? =some f.ab[p]:=aN X;have rm:f.ab[p]∈f.ab:=cy _;rw[getD_some v8];generalize f.ab[p]=z at v8 rm;have A':y.args[k]? =some y.args[k]:=aN oG;have gG:=(h.ins x J y Jq).2.p (by simpa[cr] using hp) _ (cy (h:=by omega):y.args[k]∈y.args);rw[getD_some A'];obtain⟨i,hi,e⟩:=gG;rw[e,bN];cases A3:s.re.getD p false with
     |false=>
      have:cF f.al.length (f.al.length+f.aZ.length) s p=⟨true,replicate (f.al.length+f.aZ.length) false⟩:=by unfold cF;rw[A3];rfl
      rw[this];rfl
     |true=>
      have Bo:cF f.al.length (f.al.length+f.aZ.length) s p=⟨false,cD f.al.length (f.al.length+f.aZ.length) (s.ws.getD p [])⟩:=by unfold cF;rw[A3];rfl
      obtain⟨q2,q3,q4⟩:=DQ hR oG oG (ok:=true) (fun y hy=>(h.ins z rm y hy).1) (M.ok.nw X) (M.yes p X A3);obtain⟨r2,r3,r4⟩:=RB hR oG oG (h.ed z rm).1 (h.wr z rm) (to:=(b:Int)) q3 q4;rw[Bo,q2,r2,getD_some (uV (show i<f.al.length+f.aZ.length by omega))];have iO:gP f.al.length i=i:=by unfold gP;rw[if_pos hi]
      rw[iO];show(false||eR _ i)=(!true||kT _ i)
      rw[<- Ae r3.all];rfl
    exact⟨fun h k hk=>by rw[<- this k hk];exact h k hk,fun h k hk=>by rw[this k hk];exact h k hk⟩
   exact⟨fun h y hy=>by rw[<- jH y hy];exact h y hy,fun h y hy=>by rw[jH y hy];exact h y hy⟩
  have h9:(range x.ins.length).all (AT f s b x.ins ⟨false,cD f.al.length (f.al.length+f.aZ.length) w⟩)=((range x.ins.length).all (fun j=>opsV f.al.length (fC f.al.length (x.ins.take j) ⟨false,cD f.al.length (f.al.length+f.aZ.length) w⟩) (x.ins.getD j eB))&&(range x.ins.length).all fun j=> !cr (x.ins.getD j eB)||(range (x.ins.getD j eB).args.length).all (q8 f s b (x.ins.getD j eB))):=by
   rw[<- aer];rfl
  have oA:(jL x w).2=iW (x.ins.foldl l6 (w,true)).1 (x.ins.foldl l6 (w,true)).2 (cK x.fin):=rfl;rw[h9,h7,h8,h2,oA,h5,h1];simp only[Bool.true_and,Bool.false_or,Bool.not_true];generalize (range x.ins.length).all _=A;generalize (x.ins.takeWhile cr).all _=B;generalize td _ _=C;cases A<;>cases B<;>cases C<;>rfl
theorem abv(f:aG):Lr f=dH f:=by
 unfold Lr dH;rw[PS];split
 .rename_i h;have hf:=EN h
  have:(range f.ab.length).all (q7 f (iY f.ab f.args.toNat))=yB f.ab f.args.toNat:=by
   unfold yB;rw[Bool.eq_iff_iff,bj,bj];exact⟨fun h k hk=>by rw[<- RD hf (by simpa using hk)];exact h k hk,fun h k hk=>by rw[RD hf (by simpa using hk)];exact h k hk⟩
  rw[this]
 .rfl
end Go.Argus
namespace Go.Argus
open Go.Abs
structure yW(f:aG):Prop where
 NR:0<=f.result
 nm:f.name.size<=maxLen
 sg:∀ s∈f.ac,s.size<=maxLen
 en:∀ b∈f.ab,b.fin.name.size<=maxLen/\∀ w∈b.fin.aL,w.name.size<=maxLen
theorem afn(x:Ar.val)(h:Ar.ok x):yW (Uc x):=by
 obtain⟨h1,_,_,h4,_,_,J,h8,_⟩:=h;refine⟨?_,h1,fun s hs=>?_,fun b hb=>?_⟩
 .have:(Lit.int .u8 x.2.2.2.1).wf=true:=h4;simp only[Lit.wf,aM] at this;exact of_decide_eq_true this.1
 .exact J s hs
 .obtain⟨y,hy,rfl⟩:=List.mem_map.1 hb;obtain⟨_,C,_⟩:=h8 y hy;obtain⟨_,_,_,_,_,e6,_,_,e9,_,_⟩:=C;refine⟨e6,fun w M=>?_⟩;obtain⟨z,X,rfl⟩:=List.mem_map.1 M;exact(e9 z X).1
end Go.Argus
section
open Go Go.Abs Go.Proofs Go.Argus
namespace Go.Argus
def y5(f:aG):Bool:=lZ f.name&&(!decide ((1200:Int)<f.al.length)&&(!decide ((60:Int)<f.aZ.length)&&(dg f.args 0 (if(f.al.length:Int)<6 then(f.al.length:Int) else 6)&&(!decide (2<f.result)&&(!(f.iter&&decide (f.result=0))&&(!decide ((6:Int)<f.ac.length)&&dg f.ab.length 1 1200))))))
def uZ(a:Int)(j:Nat)(x:Int):Bool:=nE 3 x||(decide ((j:Int)<a)&&decide (x=3))
theorem ZB{f:aG}(h:y5 f=false):sB f=false:=by
 unfold y5 at h;unfold sB oO se r7;revert h;generalize lZ f.name=a;generalize dg f.args 0 _=b;generalize dg f.ab.length 1 1200=c;generalize oQ f=d;generalize fy f.al 3=e;generalize fy (f.al.take f.args.toNat) 2=g;generalize fy f.aZ 2=i;generalize f.ac.any _=j;grind
theorem Z7{f:aG}(h:y5 f=true)(hr:0<=f.result):oO f=true/\f.ac.length<=6/\f.al.length<=1200/\f.aZ.length<=60/\0<=f.args/\f.args<=f.al.length:=by
 unfold y5 at h;simp only[aM,Bool.not_eq_true',decide_eq_false_iff_not,lk] at h;obtain⟨h1,h2,h3,h4,h5,C,J,h8⟩:=h;have ha:f.args<=f.al.length:=by have:=h4.2;split at this<;>omega
 refine⟨?_,oG,oG,oG,h4.1,ha⟩;unfold oO r7;simp only[aM,Bool.not_eq_true',decide_eq_false_iff_not,lk];refine⟨h1,h4,?_,h2,h3,h8⟩;have:f.result=0\/f.result=1\/f.result=2:=by omega
 rcases this with e|e|e
 .simp[e] at C ⊢;exact C
 .simp[e]
 .simp[e]
end Go.Argus
namespace Go.Proofs.Tryz.K
theorem CK{f:aG}(hs:yW f):PCall prog 169 [.agg (aH f)] (B (sB f)):=by
 have AQ:=AQ hs.nm;have ic:∀ {n a b:Int},PCall prog 212 [I n,I a,I b] (B (dg n a b)):=fun {n a b}=>ic;refine bg ahH (.cons (.agg (iu f)) .nil) (Tr.s _) ?_;rw[ahI];refine az (ag ?_);refine af (aW (bG [(0,aH f,26)] eH (l:=[(1,.pt (aH f))]) eH) (aB (aj (ag ?_))));refine cl AQ (aJ ?_);refine bK ?_;refine ag ?_;refine bt rfl rfl (Uk rfl rfl) (fun hc=>⟨ak,rfl⟩) (gc ic (aJ ?_));refine aJ ?_;refine bK ?_;refine gc ic (ag ?_);refine af (cx rfl (fun h=>?_) fun h=>bP (aB (az ?_)))
 .refine aB (aj (SS ?_));refine af (bX (av (d:=B false) rfl ?_))
  have:y5 f=false:=by
   revert h;unfold y5;generalize lZ f.name=a;generalize dg f.args 0 _=b;generalize dg f.ab.length 1 1200=c;generalize f.iter=d;grind
  rw[ZB this]
 have hA:y5 f=true:=by
  revert h;unfold y5;generalize lZ f.name=a;generalize dg f.args 0 _=b;generalize dg f.ab.length 1 1200=c;generalize f.iter=d;grind
 obtain⟨h1,h6,hR,hS,FQ,haR⟩:=Z7 hA hs.NR;clear h hA;obtain⟨a,ha⟩:=cU FQ
 have hV:sB f=(fy f.al 3&&(fy (f.al.take a) 2&&(fy f.aZ 2&&((!f.ac.any fun s=> !isName s)&&oQ f)))):=by
  rw[sB,h1,se,ha,bN,show decide ((6:Int)<f.ac.length)=false from decide_eq_false oG];simp only[Bool.true_and,Bool.not_false,Bool.and_assoc]
 rw[hV];clear hV h1
 have VC:∀ (j:Nat) x,f.al[j]? =some x->uZ a j x=true->(fy f.al 3&&(fy (f.al.take a) 2&&(fy f.aZ 2&&((!f.ac.any fun s=> !isName s)&&oQ f))))=false:=fun j x hx hb=>by
  unfold uZ at hb;rw[Bool.or_eq_true] at hb;rcases hb with hb|hb
  .have:fy f.al 3=false:=by
    unfold fy;rw[List.any_eq_true.2 ⟨x,bU hx,hb⟩];rfl
   rw[this];rfl
  .have hb:j<a/\x=3:=by simpa using hb
   have:fy (f.al.take a) 2=false:=by
    unfold fy;rw[List.any_eq_true.2 ⟨x,bU (i:=j) (by rw[List.getElem?_take,if_pos hb.1,hx]),by rw[hb.2];rfl⟩];rfl
   rw[this,Bool.false_and,Bool.and_false]
 have TL:(∀ (j:Nat) x,f.al[j]? =some x->uZ a j x=false)->fy f.al 3=true/\fy (f.al.take a) 2=true:=fun h=>by
  constructor
  .unfold fy;rw[Bool.not_eq_true',List.any_eq_false];intro x hx;obtain⟨j,hj⟩:=cC hx;have:=h j x hj;unfold uZ at this;rw[Bool.or_eq_false_iff] at this;rw[this.1];simp
  .unfold fy;rw[Bool.not_eq_true',List.any_eq_false];intro x hx;obtain⟨j,hj⟩:=cC hx;have wg:j<a:=by have:=(bw.1 hj).1;simp at this;omega
   rw[List.getElem?_take,if_pos wg] at hj;have:=h j x hj;unfold uZ nE at this;simp[wg] at this;simp[nE];omega
 refine SS ?_
 refine af (bR (fun s=>Ghost prog s ⟨aD [(1,.pt (aH f))],fun _=>none,1⟩/\fy f.al 3=true/\fy (f.al.take a) 2=true) (cQ (α:=Nat) (fun k=>⟨aD [(1,.pt (aH f)),(3,I k)],fun _=>none,1⟩)
  (fun k=>k<=f.al.length/\∀ j x,j<k->f.al[j]? =some x->uZ a j x=false) (fun k=>f.al.length - k) 0 (ap eH) ⟨oG,fun j y hj=>by omega⟩ ?_) ?_)
 .rintro k ⟨hk,hinv⟩;refine aO ?_;refine af ⟨_,rfl,fun h=>?_,fun h=>?_⟩
  .have ao:k<f.al.length:=by simpa using h
   have hx:f.al[k]? =some f.al[k]:=aN ao;have cq:=VC k _ hx
   have pF:uZ a k f.al[k]=false->∀ j y,j<k+1->f.al[j]? =some y->uZ a j y=false:=fun h j y hj hy=>by
    by_cases e:j=k
    .subst e;rw[hx] at hy;cases hy;exact h
    .exact hinv j y oG hy
   generalize f.al[k]=x at hx cq pF;refine ws (aJ ?_);refine aJ ?_;refine bK ?_;refine ag ?_;refine af (aw rfl (fun hp=>?_) fun hp=>?_)
   .refine ws (SS ?_);refine af (aY (br (aR (av (d:=B false) rfl ?_))));rw[cq (by revert hp;unfold uZ nE;rw[ha];grind)]
   .refine bS (aq ?_);refine af (aK (k+1) (ap eH) ⟨oG,pF (by revert hp;unfold uZ nE;rw[ha];grind)⟩ oG)
  .have a9:¬ k<f.al.length:=by simpa using h
   exact⟨ap eH,TL fun j x hx=>hinv j x (by have:=(bw.1 hx).1;omega) hx⟩
 rintro s ⟨hg,e1,e2⟩;clear VC TL;rw[e1,e2,Bool.true_and,Bool.true_and];refine⟨_,hg,aB (az ?_)⟩;refine SS ?_
 refine af (bR (fun s=>Ghost prog s ⟨aD [(1,.pt (aH f))],fun _=>none,1⟩/\fy f.aZ 2=true) (cQ (α:=Nat) (fun k=>⟨aD [(1,.pt (aH f)),(4,I k)],fun _=>none,1⟩)
  (fun k=>k<=f.aZ.length/\∀ (j:Nat) x,j<k->f.aZ[j]? =some x->nE 2 x=false) (fun k=>f.aZ.length - k) 0 (ap eH) ⟨oG,fun j y hj=>by omega⟩ ?_) ?_)
 .rintro k ⟨hk,hinv⟩;refine aO ?_;refine af ⟨_,rfl,fun h=>?_,fun h=>?_⟩
  .have ao:k<f.aZ.length:=by simpa using h
   have hx:f.aZ[k]? =some f.aZ[k]:=aN ao;generalize f.aZ[k]=x at hx;refine ws (aJ ?_);refine aO ?_;refine af (aw rfl (fun hp=>?_) fun hp=>?_)
   .refine ws (SS ?_);refine af (aY (br (aR (av (d:=B false) rfl ?_))))
    have:fy f.aZ 2=false:=by
     unfold fy;rw[List.any_eq_true.2 ⟨x,bU hx,by revert hp;unfold nE;grind⟩];rfl
    rw[this];rfl
   .refine bS (aq ?_);refine af (aK (k+1) (ap eH) ⟨oG,fun j y hj hy=>?_⟩ oG);by_cases e:j=k
    .subst e;rw[hx] at hy;cases hy;revert hp;unfold nE;grind
    .exact hinv j y oG hy
  .have a9:¬ k<f.aZ.length:=by simpa using h
   refine⟨ap eH,?_⟩;unfold fy;rw[Bool.not_eq_true',List.any_eq_false];intro x hx;obtain⟨j,hj⟩:=cC hx;rw[hinv j x (by have:=(bw.1 hj).1;omega) hj];simp
 rintro s ⟨hg,e3⟩;rw[e3,Bool.true_and];clear e1 e2 e3;have Xc:∀ b:Bool,b=(!(f.ac.any fun s=> !isName s)&&oQ f)->b=((!f.ac.any fun s=> !isName s)&&oQ f):=fun b h=>h
 have C:∀ (j:Nat) x,f.ac[j]? =some x->isName x=false->((!f.ac.any fun s=> !isName s)&&oQ f)=false:=fun j x hx hb=>by
  rw[List.any_eq_true.2 ⟨x,bU hx,by rw[hb];rfl⟩];rfl
 have J:∀ (j:Nat) x y,f.ac[j]? =some x->f.ac[j+1]? =some y->Op.bytesLess x.toList y.toList=false->((!f.ac.any fun s=> !isName s)&&oQ f)=false:=fun j x y hx hy hb=>by
  have:oQ f=false:=by
   unfold oQ;refine j6 (k:=j) (by have:=(bw.1 hy).1;omega) ?_;unfold uR;rw[getD_some hx,getD_some hy,hb]
  rw[this,Bool.and_false]
 refine⟨_,hg,aB (az ?_)⟩;refine SS ?_
 refine af (bR (fun s=>Ghost prog s ⟨aD [],fun _=>none,1⟩/\((!f.ac.any fun s=> !isName s)&&oQ f)=true) (cQ (α:=Nat) (fun k=>⟨aD [(1,.pt (aH f)),(5,I k)],fun _=>none,1⟩)
  (fun k=>k<=f.ac.length/\(∀ (j:Nat) x,j<k->f.ac[j]? =some x->isName x=true)/\∀ (j:Nat) x y,j+1<k->f.ac[j]? =some x->f.ac[j+1]? =some y->Op.bytesLess x.toList y.toList=true) (fun k=>f.ac.length - k) 0 (ap eH) ⟨oG,fun j y hj=>by omega,fun j x y hj=>by omega⟩ ?_) ?_)
 .rintro k ⟨hk,hinv,VD⟩;refine aO ?_;refine af ⟨_,rfl,fun h=>?_,fun h=>?_⟩
  .have ao:k<f.ac.length:=by simpa using h
   have hx:f.ac[k]? =some f.ac[k]:=aN ao;have pb:=pb (hs.sg _ (cy ao));generalize f.ac[k]=x at hx pb
   have X:isName x=true->∀ (j:Nat) y,j<k+1->f.ac[j]? =some y->isName y=true:=fun hq j y hj hy=>by
    by_cases e:j=k
    .subst e;rw[hx] at hy;cases hy;exact hq
    .exact hinv j y oG hy
   have pB:=C k x hx;generalize isName x=nb at pb X pB;refine dF Z8 ?_;cases nb with
   |false=>
    refine aO ?_;refine cl pb (aJ ?_);(iterate 2 refine z fun _ _=>?_);refine aO ?_;(iterate 2 refine z fun _ _=>?_);refine SS ?_;refine a8 bc (aw rfl (fun hp=>?_) fun hp=>(by cases hp));refine ws (SS ?_);refine af (aY (br (aR (av (d:=B false) rfl ?_))));rw[pB rfl]
   |true=>
    cases k with
    |zero=>
     have eM:decide ((0:Int)<((0:Nat):Int))=false:=rfl;refine aO ?_;refine cl pb (aJ ?_);(iterate 2 refine z fun _ _=>?_);refine aO ?_;refine z fun _ _=>ag ?_;refine a8 bc (aw rfl (fun hp=>(by cases hp)) fun hp=>bS ?_);refine aq ?_;refine af (aK 1 (ap eH) ⟨oG,X rfl,fun j x y hj=>by omega⟩ oG)
    |succ i=>
     have eM:decide ((0:Int)<((i+1:Nat):Int))=true:=decide_eq_true oG;have nh:((i+1:Nat):Int) - 1=(i:Int)/\ -9223372036854775808<=(i:Int)/\(i:Int)<=9223372036854775807:=by omega
     have hy:f.ac[i]? =some f.ac[i]:=aN oG;generalize f.ac[i]=y at hy;have cZ:=J i y x hy hx
     have A0:Op.bytesLess y.toList x.toList=true->∀ (j:Nat) x y,j+1<i+1+1->f.ac[j]? =some x->f.ac[j+1]? =some y->Op.bytesLess x.toList y.toList=true:=fun hq j u v hj M hv=>by
      by_cases e:j=i
      .subst e;rw[hy] at M;cases M;rw[hx] at hv;cases hv;exact hq
      .exact VD j u v oG M hv
     refine aO ?_;refine cl pb (aJ ?_);refine dA ?_;refine bt rfl rfl (S9 rfl rfl) (fun hc=>⟨ak,trivial⟩) (ag ?_);refine a8 bc (aw rfl (fun hp=>?_) fun hp=>?_)
     .refine ws (SS ?_);refine af (aY (br (aR (av (d:=B false) rfl ?_))));rw[cZ (by revert hp;generalize Op.bytesLess y.toList x.toList=q;cases q<;>simp)]
     .refine bS (aq ?_);refine af (aK (i+1+1) (ap eH) ⟨oG,X rfl,A0 (by revert hp;generalize Op.bytesLess y.toList x.toList=q;cases q<;>simp)⟩ oG)
  .have a9:¬ k<f.ac.length:=by simpa using h
   refine⟨.forget _ _ _ _ fun _=>.inr rfl,?_⟩;rw[aM];constructor
   .rw[Bool.not_eq_true',List.any_eq_false];intro x hx;obtain⟨j,hj⟩:=cC hx;rw[hinv j x (by have:=(bw.1 hj).1;omega) hj];simp
   .unfold oQ;refine bj.2 fun j hj=>?_;have hj:j<f.ac.length - 1:=by simpa using hj
    have h1:f.ac[j]? =some f.ac[j]:=aN oG;have h2:f.ac[j+1]? =some f.ac[j+1]:=aN oG;unfold uR;rw[getD_some h1,getD_some h2];exact VD j _ _ oG h1 h2
 rintro s ⟨hg,e4⟩;rw[e4];refine⟨_,hg,aj ?_⟩;refine SS ?_;exact af (av rfl rfl)
end Go.Proofs.Tryz.K
end
