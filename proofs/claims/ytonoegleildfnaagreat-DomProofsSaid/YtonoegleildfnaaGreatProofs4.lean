/- Part 4. -/
import Derived.Test.YtonoegleildfnaaGreatProofs3
set_option linter.all false
set_option maxHeartbeats 2000000
set_option maxRecDepth 10000
open List(range)
open List(replicate)
section
open Go Go.Abs Go.Proofs Go.Argus
namespace Go.Argus
def aA(beh:List (List Int))(b:Nat):List Int:=beh.getD b []
theorem tf{beh:List (List Int)}{b:Nat}(h:b<beh.length):beh[b]? =some (aA beh b):=by
 unfold aA;rw[bl,aM h];rfl
theorem Qh(beh:Nat->List Int)(w:Int)(k:Nat)(s:List Bool×List Int)(c:Int)(l:List Int):
 dZ beh w k s (c::l)=dZ beh w k (if yZ s.1 c=false/\c≠w then eO beh w k s c.toNat else s) l:=rfl
theorem Hk{beh:Nat->List Int}{w:Int}:∀ (k:Nat),(∀ s b,(eO beh w k s b).1.length=s.1.length/\(eO beh w k s b).1.count false<=s.1.count false)/\
 (∀ l s,(dZ beh w k s l).1.length=s.1.length/\(dZ beh w k s l).1.count false<=s.1.count false):=by
 have key:∀ k,(∀ s b,(eO beh w k s b).1.length=s.1.length/\(eO beh w k s b).1.count false<=s.1.count false)->
  (∀ l s,(dZ beh w k s l).1.length=s.1.length/\(dZ beh w k s l).1.count false<=s.1.count false):=fun k h l=>by
  induction l with
  |nil=>exact fun s=>⟨rfl,bF _⟩
  |cons c l ih=>
   intro s;rw[Qh];split
   .obtain⟨a1,a2⟩:=ih (eO beh w k s c.toNat);obtain⟨b1,b2⟩:=h s c.toNat;exact⟨a1.trans b1,Nat.le_trans a2 b2⟩
   .exact ih s
 intro k
 induction k with
 |zero=>exact⟨fun s b=>⟨rfl,bF _⟩,key 0 fun s b=>⟨rfl,bF _⟩⟩
 |succ k ih=>
  have h:∀ s b,(eO beh w (k+1) s b).1.length=s.1.length/\(eO beh w (k+1) s b).1.count false<=s.1.count false:=fun s b=>by
   rw[wi];obtain⟨a1,a2⟩:=ih.2 (beh b) (s.1.set b true,s.2);refine⟨a1.trans oS,Nat.le_trans a2 Jr⟩
  exact⟨h,key (k+1) h⟩
theorem ae4{beh:Nat->List Int}{w:Int}{k:Nat}{s:List Bool×List Int}{b:Nat}:(eO beh w (k+1) s b).2≠[]:=by
 rw[wi];simp
theorem akI{l c:List Int}{n k:Nat}(hl:l.length=n)(hc:c.length=n)(h:∀ p,p<n->c.getD p 0=if p<k\/n<=p+k then l.getD (n - 1 - p) 0 else l.getD p 0)(hk:n<=2*k+1):c=l.reverse:=by
 apply List.ext_getElem (by simp[hl,hc]);intro p h1 h2;rw[List.getElem_reverse];have hp:=h p oG;rw[show c.getD p 0=c[p] by simp[bl,aM h1]] at hp;rw[hp];have e:∀ (i j:Nat) (h:i=j) (hj:j<l.length),l.getD i 0=l[j]:=fun i j h hj=>by subst h;simp[bl,aM hj]
 split
 .exact e _ _ oG _
 .exact e _ _ oG _
theorem RY{beh:Nat->List Int}{w:Int}{n:Nat}(hb:∀ b,∀ c∈beh b,0<=c/\c.toNat<n):∀ (k:Nat),(∀ (s:List Bool×List Int) b,s.1.length=n->b<n->s.1.getD b false=false->(eO beh w k s b).2.length+(eO beh w k s b).1.count false<=s.2.length+s.1.count false)/\
 (∀ l,(∀ c∈l,0<=c/\c.toNat<n)->∀ s:List Bool×List Int,s.1.length=n->(dZ beh w k s l).2.length+(dZ beh w k s l).1.count false<=s.2.length+s.1.count false):=by
 have key:∀ k,(∀ (s:List Bool×List Int) b,s.1.length=n->b<n->s.1.getD b false=false->(eO beh w k s b).2.length+(eO beh w k s b).1.count false<=s.2.length+s.1.count false)->
  (∀ l,(∀ c∈l,0<=c/\c.toNat<n)->∀ s:List Bool×List Int,s.1.length=n->(dZ beh w k s l).2.length+(dZ beh w k s l).1.count false<=s.2.length+s.1.count false):=fun k h l=>by
  induction l with
  |nil=>exact fun _ s _=>bF _
  |cons c l ih=>
   intro hl s hs;have hc:=hl c oS;rw[Qh];split
   .rename_i C;have a:=ih (fun c h=>hl c (by simp[h])) (eO beh w k s c.toNat) (((Hk k).1 s c.toNat).1.trans hs);have b:=h s c.toNat hs hc.2 C.1;omega
   .exact ih (fun c h=>hl c (by simp[h])) s hs
 intro k
 induction k with
 |zero=>exact⟨fun s b _ _ _=>bF _,key 0 fun s b _ _ _=>bF _⟩
 |succ k ih=>
  have h:∀ (s:List Bool×List Int) b,s.1.length=n->b<n->s.1.getD b false=false->(eO beh w (k+1) s b).2.length+(eO beh w (k+1) s b).1.count false<=s.2.length+s.1.count false:=fun s b hs M J=>by
   rw[wi];have a:=ih.2 (beh b) (hb b) (s.1.set b true,s.2) (by simpa using hs);have b:=yj (yp J oG);simp only[List.length_append,List.length_singleton] at a ⊢;omega
  exact⟨h,key (k+1) h⟩
end Go.Argus
namespace Go.Proofs.Tryz.K
section
variable{f:aG}{beh ahd:List (List Int)}{c:D}(hc:Tr c)(fY:c.one=true)
include hc fY
theorem Il{n:Nat}{w:Int}(hn:beh.length=n)(tZ:∀ b,∀ t∈aA beh b,0<=t/\t.toNat<n)(cZ:∀ b,(aA beh b).length<=100000){i5 i6 r:Nat}(h56:i5≠i6)(F1:i5≠r)(Yg:i6≠r):∀ (k:Nat) (m:Mem) (nx:Nat) (seen:List Bool) (o:List Int) (b:Nat),
 i5<nx->i6<nx->r<nx->m i5=some (.cells [.rs r 0 n] 52)->m i6=some (.cells [.fn (.func 168) [] [.rp i5 0,.pt [.pt (bA f beh ahd c)],.pt [I w],.rp i6 0]] 128)->m r=some (.cells (seen.map B) 4)->
 seen.length=n->b<n->seen.count false<=k->seen.getD b false=false->
 ACalls prog 168 [I b,.rp i5 0,.pt [.pt (bA f beh ahd c)],.pt [I w],.rp i6 0] m nx (fun d m' nx'=>d=.tup []/\nx'=nx/\m'=up m r (some (.cells ((eO (aA beh) w k (seen,o) b).1.map B) 4)))
 |0,m,nx,seen,o,b,h5,h6,hr,Oq,xy,AU,fO,hb,E7,xZ=>by
  have _:=hc;have _:=fY;have:=yj (yp xZ oG);omega
 |k+1,m,nx,seen,o,b,h5,h6,hr,Oq,xy,AU,fO,hb,E7,xZ=>by
  have py:=tf (beh:=beh) (b:=b) oG;have dU:=tZ b;have jg:=cZ b;have sQ:=yj (yp xZ oG);have IH:=Il (w:=w) hn tZ cZ h56 F1 Yg k;refine zF Va ?_;rw[agK];have ax:=Oq;have di:=AU;rw[wi];generalize aA beh b=l at py dU jg;refine ws (aP ?_);refine af (az (aJ ?_))
  refine af (dV (α:=Nat) (fun j=>⟨aD [(1,.rp i5 0),(3,.pt [I w]),(4,.rp i6 0),(17,au l),(18,I l.length),(19,I j)],up m r (some (.cells ((dZ (aA beh) w k (seen.set b true,o) (l.take j)).1.map B) 4)),nx⟩)
   (fun j=>j<=l.length) (fun j=>l.length - j) 0 (nz eH ?_) (Nat.zero_le _) ?_)
  .rw[List.take_zero];show up m r _=up m r (some (.cells ((seen.set b true).map B) 4));rw[List.map_set]
  intro j hj;obtain⟨cl,cc⟩:=(Hk (beh:=aA beh) (w:=w) k).2 (l.take j) (seen.set b true,o)
  have cg:∀ t,l[j]? =some t->dZ (aA beh) w k (seen.set b true,o) (l.take (j+1))=if yZ (dZ (aA beh) w k (seen.set b true,o) (l.take j)).1 t=false/\t≠w then eO (aA beh) w k (dZ (aA beh) w k (seen.set b true,o) (l.take j)) t.toNat else dZ (aA beh) w k (seen.set b true,o) (l.take j):=fun t ht=>by
   rw[List.take_add_one,ht];exact GL (aA beh) w k (seen.set b true,o) (l.take j) t
  have fS:j=l.length->dZ (aA beh) w k (seen.set b true,o) (l.take j)=dZ (aA beh) w k (seen.set b true,o) l:=fun e=>by rw[e,List.take_length]
  generalize dZ (aA beh) w k (seen.set b true,o) (l.take j)=s at cl cc cg fS;simp only[List.length_set] at cl cc;have ax:up m r (some (.cells (s.1.map B) 4)) i5=some (.cells [.rs r 0 n] 52):=aC F1 Oq;have di:up m r (some (.cells (s.1.map B) 4)) r=some (.cells (s.1.map B) 4):=up_same _ _ _;have gT:up m r (some (.cells (s.1.map B) 4)) i6=some (.cells [.fn (.func 168) [] [.rp i5 0,.pt [.pt (bA f beh ahd c)],.pt [I w],.rp i6 0]] 128):=aC Yg xy;have j4:∀ v,up (up m r (some (.cells (s.1.map B) 4))) r v=up m r v:=fun v=>p7 _ _ _ _;generalize hM:up m r (some (.cells (s.1.map B) 4))=M at ax di gT j4;refine SS ?_;refine af ⟨_,rfl,fun h=>?_,fun h=>?_⟩
  .have ao:j<l.length:=by simpa using h
   have hx:l[j]? =some l[j]:=aM ao;have xI:=dU _ (cy ao);generalize l[j]=t at hx xI;have J:=cg t hx;obtain⟨C,rfl⟩:=cU xI.1;have Da:C<n:=xI.2;have hv:s.1[C]? =some s.1[C]:=aM oG;have pD:s.1.getD C false=s.1[C]:=by simp[bl,hv]
   have Bh:yZ s.1 (C:Int)=s.1[C]:=pD;generalize s.1[C]=v at hv pD Bh;have kd:=iE (f:=B) hv;refine ws (aq ?_);refine er (bK ?_);refine ag ?_;refine af (aw rfl (fun hp=>?_) fun hp=>?_)
   .have X:v=false/\(C:Int)≠w:=by
     revert hp;cases v<;>simp
    have J:=J.trans (if_pos ⟨Bh.trans X.1,X.2⟩);refine ff (ag ?_);refine kN (IH M nx s.1 s.2 C h5 h6 hr ax gT di (cl.trans fO) Da oG (pD.trans X.1)) rfl cv fun d m' nx' hp=>?_;obtain⟨rfl,rfl,rfl⟩:=hp;refine af (ag ?_);refine af (aK (j+1) (nz eH ?_) oG oG);rw[j4,J];rfl
   .have X:¬ (v=false/\(C:Int)≠w):=by
     revert hp;cases v<;>simp
    have J:=J.trans (if_neg fun hh=>X ⟨Bh.symm.trans hh.1,hh.2⟩);refine bS (ag ?_);refine af (aK (j+1) (nz eH ?_) oG oG);rw[J];exact hM.symm
  .have a9:¬ j<l.length:=by simpa using h
   refine qN ⟨rfl,rfl,?_⟩;rw[<- fS oG];exact hM.symm
end
theorem k84{m:Mem}{nx i n:Nat}{l:List Int}(hi:i<nx)(hm:m i=some (.cells (l.map I) 3))(hl:l.length=n)(hn:n<=100000):
 ACalls prog 84 [.rs i 0 n] m nx (fun r m' nx'=>r=.tup []/\nx'=nx/\m'=up m i (some (.cells (l.reverse.map I) 3))):=by
 refine zF W0 ?_;rw[akJ]
 have s7:up m i (some (.cells (l.map I) 3))=m:=by
  funext j;simp only[up];split
  .rename_i e;rw[e,hm]
  .rfl
 have ax:=hm;refine az (aN ?_)
 refine af (cQ (α:=List Int×Nat) (fun s=>⟨aD [(0,.rs i 0 n),(2,I s.2),(3,I ((n:Int) - 1 - s.2))],up m i (some (.cells (s.1.map I) 3)),nx⟩)
  (fun s=>s.1.length=n/\s.2<=n/\∀ p,p<n->s.1.getD p 0=if p<s.2\/n<=p+s.2 then l.getD (n - 1 - p) 0 else l.getD p 0) (fun s=>n - s.2) (l,0) (nz ⟨rfl,rfl,congrArg (fun z:Int=>I z) (show(n:Int) - 1=(n:Int) - 1 - ((0:Nat):Int) by omega),trivial⟩ s7.symm) ⟨hl,Nat.zero_le _,fun p hp=>by rw[if_neg (by simp only;omega)]⟩ ?_)
 rintro⟨d,k⟩ ⟨hd,hk,hinv⟩;dsimp only at hd hk hinv ⊢;have ax:up m i (some (.cells (d.map I) 3)) i=some (.cells (d.map I) 3):=up_same _ _ _;refine aq ?_;refine af ⟨_,rfl,fun h=>?_,fun h=>?_⟩
 .have ao:(k:Int)<(n:Int) - 1 - k:=by simpa using h
  obtain⟨j,hj⟩:∃ j:Nat,(n:Int) - 1 - k=j/\j=n - 1 - k:=⟨n - 1 - k,oG,rfl⟩
  have ha:d[k]? =some d[k]:=aM oG;have hb:d[j]? =some d[j]:=aM oG;have C:d.getD k 0=d[k]:=by simp[bl,ha]
  have J:d.getD j 0=d[j]:=by simp[bl,hb]
  have kd:=iE (f:=I) hb;have j0:=iE (f:=I) ha;generalize M:d[k]=a at ha C j0;generalize X:d[j]=b at hb J kd;clear M X;rw[hj.1];refine pM acx (aJ ?_);refine ag ?_;refine aI (gO rfl ax j0 V.h) ak (gP V.h V.h j0) (SS ?_);refine cA (fG (d:=.s (.int _ _)) (cs':=_) rfl rfl ax rfl rfl) ak (dt V.h V.h (by first|(simp;done)|exact⟨rfl,bD rfl⟩|(simp;omega)) rfl) ?_;refine ag ?_;refine a8 bc (bB ?_);refine af (aK ((d.set k b).set j a,k+1) (nz ⟨rfl,rfl,congrArg (fun z:Int=>I z) (show(j:Int) - 1=(n:Int) - 1 - ((k+1:Nat):Int) by omega),trivial⟩ ?_) ⟨by simp[hd],by simp only;omega,fun p hp=>?_⟩ (by simp only;omega))
  .rw[p7,p7];simp only[List.map_set]
  .simp only
   have e:((d.set k b).set j a).getD p 0=if p=j then a else if p=k then b else d.getD p 0:=by
    simp only[bl,List.getElem?_set];by_cases e1:j=p
    .subst e1;simp[hd,hp]
    .rw[if_neg e1,if_neg (show ¬ p=j from fun e=>e1 e.symm)];by_cases e2:k=p
     .subst e2;simp[hd,hp]
     .rw[if_neg e2,if_neg (show ¬ p=k from fun e=>e2 e.symm)]
   rw[e];have h1:=hinv p hp;by_cases e1:p=j
   .subst e1;rw[if_pos rfl,if_pos oG];have:=hinv k oG;rw[if_neg oG,C] at this;rw[this,show n - 1 - p=k by omega]
   .rw[if_neg e1];by_cases e2:p=k
    .subst e2;rw[if_pos rfl,if_pos oG];have:=hinv j oG;rw[if_neg oG,J] at this;rw[this,show n - 1 - p=j by omega]
    .rw[if_neg e2,h1];by_cases e3:p<k\/n<=p+k
     .rw[if_pos e3,if_pos oG]
     .rw[if_neg e3,if_neg oG]
 .have a9:¬ (k:Int)<(n:Int) - 1 - k:=by simpa using h
  refine qN ⟨rfl,rfl,?_⟩;rw[akI hl hd hinv oG]
section
variable{f:aG}{beh ahd:List (List Int)}{c:D}(hc:Tr c)(fY:c.one=true)
include hc fY
theorem Io{n:Nat}{w:Int}(hn:beh.length=n)(pd:f.blocks.length=n)(jY:0<n)(jd:n<=100000)(tZ:∀ b,∀ t∈aA beh b,0<=t/\t.toNat<n)(X:∀ b,(aA beh b).length<=100000):
 OCall prog 116 [.pt (bA f beh ahd c),I w] ((cO (aA beh) n w).map B) n 4:=by
 refine zH Vd (.cons (z8 hc) (.cons (.s _) .nil)) (.map fun _=>.s _) ?_;rw[agQ];refine az (iz (Hv (d:=.pt _) rfl rfl) ak rfl (ag ?_));refine af (aW (bG [(0,[.pt (bA f beh ahd c)],79),(1,[I w],3)] eH (l:=[(2,.pt [.pt (bA f beh ahd c)]),(3,.pt [I w])]) eH) (az ?_));have J:((f.blocks.length:Nat):Int).toNat=n:=pd;refine bK ?_;refine W3 ?_;refine af (aW (aQ (l:=[(2,.pt [.pt (bA f beh ahd c)]),(3,.pt [I w]),(5,.rp 3 0)]) (ml:=[(2,.cells ((replicate n false).map B) 4),(3,.cells [.rs 2 0 n] 52)]) eH ⟨?_,?_,trivial⟩) (aB (aj ?_)))
 .exact congrArg (fun c=>some (Row.cells c 4)) ((congrArg (fun k=>replD k [B false]) J).trans (wx n false))
 .exact congrArg (fun k=>some (Row.cells [D.rs 2 0 k] 52)) J
 refine ag ?_;refine af (cx rfl (fun h=>?_) fun h=>bP (aj ?_))
 .have C:w=0:=by simpa using h
  refine aB (az (ag ?_));refine af (aW (.refl _) (bX (av rfl ⟨2,rfl,?_⟩)));rw[cO,if_pos C];rfl
 .have C:¬ w=0:=by simpa using h
  refine SS ?_;refine er (SS ?_);refine cA (fG (d:=.fn _ _ _) (cs':=[_]) rfl rfl rfl rfl rfl) ak (dt V.h V.h (by first|(simp;done)|exact⟨rfl,bD rfl⟩|(simp;omega)) rfl) ?_;refine af (az ?_);have Il:=Il (f:=f) (beh:=beh) (ahd:=ahd) (w:=w) hc fY hn tZ X (i5:=3) (i6:=4) (r:=2) oC oC oC n;have hR:cO (aA beh) n w=(eO (aA beh) w n (replicate n false,[]) 0).1:=by rw[cO,if_neg C]
  have M:=(Hk (beh:=aA beh) (w:=w) n).1 (replicate n false,[]) 0;rw[<- hR] at M;refine SS ?_;refine kN (Il _ _ (replicate n false) [] 0 oG oG oG rfl rfl rfl oS jY oS (by rw[bl,List.getElem?_replicate];split<;>rfl)) rfl cv fun d m' nx' hp=>?_;obtain⟨rfl,rfl,rfl⟩:=hp;rw[<- hR];generalize cO (aA beh) n w=R at M hR ⊢;refine af (aW (aQ (l:=[(5,.rp 3 0)]) (ml:=[(2,.cells (R.map B) 4),(3,.cells [.rs 2 0 n] 52)]) eH eH) (az (ag ?_)));exact af (aW (.refl _) (av rfl ⟨2,rfl,rfl⟩))
end
structure Ip(i3 i4 i5 r n:Nat)(fv:D)(m:Mem)(nx q:Nat)(s:List Bool×List Int):Prop where
 h3:i3<nx
 h4:i4<nx
 h5:i5<nx
 hr:r<nx
 m3:m i3=some (.cells [.rs r 0 n] 52)
 m5:m i5=some (.cells [fv] 128)
 mr:m r=some (.cells (s.1.map B) 4)
 m4:m i4=some (.cells [jc q (s.2.map I)] 27)
 mq:s.2≠[]->q<nx/\q≠i3/\q≠i4/\q≠i5/\q≠r/\m q=some (.cells (s.2.map I) 3)
section
variable{f:aG}{beh ahd:List (List Int)}{c:D}(hc:Tr c)(fY:c.one=true)
include hc fY
theorem E8{n:Nat}(hn:beh.length=n)(tZ:∀ b,∀ t∈aA beh b,0<=t/\t.toNat<n)(cZ:∀ b,(aA beh b).length<=100000){i3 i4 i5 r:Nat}(sS:i3≠i4)(h35:i3≠i5)(Yh:i3≠r)(Ot:i4≠i5)(Jb:i4≠r)(F1:i5≠r):
 ∀ (k:Nat) (m:Mem) (nx q:Nat) (C:List Bool×List Int) (b:Nat),
 Ip i3 i4 i5 r n (.fn (.func 149) [] [.rp i3 0,.pt [.pt (bA f beh ahd c)],.rp i5 0,.rp i4 0]) m nx q C->C.1.length=n->b<n->C.1.count false<=k->C.1.getD b false=false->C.2.length+C.1.count false<=100000->
 ACalls prog 149 [I b,.rp i3 0,.pt [.pt (bA f beh ahd c)],.rp i5 0,.rp i4 0] m nx (fun d m' nx'=>d=.tup []/\∃ q',Ip i3 i4 i5 r n (.fn (.func 149) [] [.rp i3 0,.pt [.pt (bA f beh ahd c)],.rp i5 0,.rp i4 0]) m' nx' q' (eO (aA beh) (-1) k C b))
 |0,m,nx,q,C,b,J,fO,hb,E7,xZ,hlen=>by
  have _:=hc;have _:=fY;have:=yj (yp xZ oG);omega
 |k+1,m,nx,q,C,b,J,fO,hb,E7,xZ,hlen=>by
  have py:=tf (beh:=beh) (b:=b) oG;have dU:=tZ b;have jg:=cZ b;have sQ:=yj (yp xZ oG);have IH:=E8 hn tZ cZ sS h35 Yh Ot Jb F1 k;have iN:=(RY (w:= -1) tZ k).2;refine zF Ve ?_;rw[agR];have ax:=J.m3;have di:=J.mr;have⟨p3,p4,p5,pr,_,_,_,_,pq⟩:=J;rw[wi];generalize aA beh b=l at py dU jg;refine ws (aP ?_);refine af (aB (az (aJ ?_)))
  refine af (bR (fun s=>∃ m nx q,Ghost prog s ⟨aD [(0,I b),(4,.rp i4 0)],m,nx⟩/\Ip i3 i4 i5 r n (.fn (.func 149) [] [.rp i3 0,.pt [.pt (bA f beh ahd c)],.rp i5 0,.rp i4 0]) m nx q (dZ (aA beh) (-1) k (C.1.set b true,C.2) l)) (dV (α:=Nat×Nat×Mem×Nat)
   (fun j=>⟨aD [(0,I b),(1,.rp i3 0),(3,.rp i5 0),(4,.rp i4 0),(17,au l),(18,I l.length),(19,I j.1)],j.2.2.1,j.2.2.2⟩)
   (fun j=>j.1<=l.length/\Ip i3 i4 i5 r n (.fn (.func 149) [] [.rp i3 0,.pt [.pt (bA f beh ahd c)],.rp i5 0,.rp i4 0]) j.2.2.1 j.2.2.2 j.2.1 (dZ (aA beh) (-1) k (C.1.set b true,C.2) (l.take j.1))) (fun j=>l.length - j.1) (0,q,_,nx)
   (ap eH) ⟨Nat.zero_le _,?_⟩ ?_) ?_)
  .dsimp only;refine⟨p3,p4,p5,pr,aC Yh J.m3,aC F1 J.m5,?_,aC Jb J.m4,fun h=>?_⟩
   .rw[List.take_zero];show up m r _ r=some (.cells ((C.1.set b true).map B) 4);rw[List.map_set];exact up_same _ _ _
   .obtain⟨a1,a2,a3,a4,a5,a6⟩:=pq h;exact⟨a1,a2,a3,a4,a5,aC a5 a6⟩
  .clear J ax di p3 p4 p5 pr pq;rintro⟨j,q,m,nx⟩ ⟨hj,J⟩;dsimp only at hj J ⊢;obtain⟨cl,cc⟩:=(Hk (beh:=aA beh) (w:= -1) k).2 (l.take j) (C.1.set b true,C.2);have cp:=iN (l.take j) (fun c h=>dU c (List.mem_of_mem_take h)) (C.1.set b true,C.2) (by simpa using fO)
   have cg:∀ t,l[j]? =some t->dZ (aA beh) (-1) k (C.1.set b true,C.2) (l.take (j+1))=if yZ (dZ (aA beh) (-1) k (C.1.set b true,C.2) (l.take j)).1 t=false/\t≠ -1 then eO (aA beh) (-1) k (dZ (aA beh) (-1) k (C.1.set b true,C.2) (l.take j)) t.toNat else dZ (aA beh) (-1) k (C.1.set b true,C.2) (l.take j):=fun t ht=>by
    rw[List.take_add_one,ht];exact GL (aA beh) (-1) k (C.1.set b true,C.2) (l.take j) t
   have fS:j=l.length->dZ (aA beh) (-1) k (C.1.set b true,C.2) (l.take j)=dZ (aA beh) (-1) k (C.1.set b true,C.2) l:=fun e=>by rw[e,List.take_length]
   generalize dZ (aA beh) (-1) k (C.1.set b true,C.2) (l.take j)=s at cl cc cg fS J cp;simp only[List.length_set] at cl cc cp;have ax:=J.m3;have di:=J.mr;have gT:=J.m5;refine SS ?_;refine af ⟨_,rfl,fun h=>?_,fun h=>?_⟩
   .have ao:j<l.length:=by simpa using h
    have hx:l[j]? =some l[j]:=aM ao;have xI:=dU _ (cy ao);generalize l[j]=t at hx xI;have X:=cg t hx;obtain⟨M,rfl⟩:=cU xI.1;have Da:M<n:=xI.2;have hv:s.1[M]? =some s.1[M]:=aM oG;have pD:s.1.getD M false=s.1[M]:=by simp[bl,hv]
    have Bh:yZ s.1 (M:Int)=s.1[M]:=pD;generalize s.1[M]=v at hv pD Bh;have kd:=iE (f:=B) hv;refine ws (aq ?_);refine er (aN ?_);refine af (aw rfl (fun hp=>?_) fun hp=>?_)
    .have vZ:v=false:=by simpa using hp
     have X:=X.trans (if_pos ⟨Bh.trans vZ,oG⟩);refine ff (ag ?_);refine kN (IH m nx q s M J (cl.trans fO) Da oG (pD.trans vZ) oG) rfl cv fun d m' nx' hp=>?_;obtain⟨rfl,q',hp⟩:=hp;refine af (ag ?_);refine af (aK (j+1,q',m',nx') (ap eH) ⟨oM,?_⟩ oM);dsimp only;rw[X];exact hp
    .have vZ:v=true:=by simpa using hp
     have X:=X.trans (if_neg fun hh=>by rw[Bh,vZ] at hh;exact absurd hh.1 oS);refine bS (ag ?_);refine af (aK (j+1,q,m,nx) (ap eH) ⟨oM,?_⟩ oM);dsimp only;rw[X];exact J
   .have a9:¬ j<l.length:=by simpa using h
    rw[<- fS oG];exact⟨m,nx,q,ap eH,J⟩
  .clear J ax di p3 p4 p5 pr pq;rintro s ⟨m,nx,q,hg,J⟩;have cp:=iN l dU (C.1.set b true,C.2) (by simpa using fO);generalize dZ (aA beh) (-1) k (C.1.set b true,C.2) l=u at J cp ⊢;obtain⟨u1,u2⟩:=u;have⟨p3,p4,p5,pr,m3,m5,mr,m4,pq⟩:=J;dsimp only at mr m4 pq cp ⊢;refine⟨_,hg,gA ?_⟩;by_cases hz:u2=[]
   .subst hz;have ax:m i4=some (.cells [.z] 27):=m4;refine aN ?_;refine af (qN ⟨rfl,nx+1,?_⟩);dsimp only;refine⟨oG,oG,oG,oG,?_,?_,?_,?_,fun _=>⟨oG,oG,oG,oG,oG,?_⟩⟩
    .exact aC sS (aC oG (aC oG m3))
    .exact aC (Ne.symm Ot) (aC oG (aC oG m5))
    .exact aC (Ne.symm Jb) (aC oG (aC oG mr))
    .exact(up_same _ _ _).trans rfl
    .exact aC oG ((up_same _ _ _).trans rfl)
   .have aE:u2.map I≠[]:=by simpa using hz
    obtain⟨q1,q2,q3,q4,q5,q6⟩:=pq hz;have ax:m i4=some (.cells [.rs q 0 u2.length] 27):=by rw[m4,p9 aE,List.length_map]
    have di:=q6;have rM:(u2.map I).length=u2.length:=by simp
    refine aP ?_;refine Wm ?_;refine af (qN ⟨rfl,nx+1,?_⟩);dsimp only;refine⟨oG,oG,oG,oG,?_,?_,?_,?_,fun _=>⟨oG,oG,oG,oG,oG,?_⟩⟩
    .exact aC sS (aC oG (aC (Ne.symm q2) (aC oG m3)))
    .exact aC (Ne.symm Ot) (aC oG (aC (Ne.symm q4) (aC oG m5)))
    .exact aC (Ne.symm Jb) (aC oG (aC (Ne.symm q5) (aC oG mr)))
    .refine(up_same _ _ _).trans ?_;rw[List.map_append,p9 oS];simp
    .refine aC oG ((up_same _ _ _).trans ?_);rw[List.map_append];rfl
theorem Dm{n:Nat}(hn:beh.length=n)(pd:f.blocks.length=n)(jY:0<n)(jd:n<=100000)(tZ:∀ b,∀ t∈aA beh b,0<=t/\t.toNat<n)(cZ:∀ b,(aA beh b).length<=100000):
 OCall prog 85 [.pt (bA f beh ahd c)] ((cS (aA beh) n).map I) (cS (aA beh) n).length 3:=by
 refine zH W4 (.cons (z8 hc) .nil) (.map fun _=>.s _) ?_;rw[akK];refine az (iz (Hv (d:=.pt _) rfl rfl) ak rfl (SS ?_));refine af (aW (bG [(0,[.pt (bA f beh ahd c)],79)] eH (l:=[(1,.pt [.pt (bA f beh ahd c)])]) eH) (az ?_));have dn:((f.blocks.length:Nat):Int).toNat=n:=pd;refine bK ?_;refine W3 ?_;refine af (aW (aQ (l:=[(1,.pt [.pt (bA f beh ahd c)]),(3,.rp 2 0)]) (ml:=[(1,.cells ((replicate n false).map B) 4),(2,.cells [.rs 1 0 n] 52)]) eH ⟨?_,?_,trivial⟩) (aj ?_))
 .exact congrArg (fun c=>some (Row.cells c 4)) ((congrArg (fun k=>replD k [B false]) dn).trans (wx n false))
 .exact congrArg (fun k=>some (Row.cells [D.rs 1 0 k] 52)) dn
 refine SS ?_;refine er (SS ?_);refine er (SS ?_);refine cA (fG (d:=.fn _ _ _) (cs':=[_]) rfl rfl rfl rfl rfl) ak (dt V.h V.h (by first|(simp;done)|exact⟨rfl,bD rfl⟩|(simp;omega)) rfl) ?_;refine af (az ?_);have E8:=E8 (f:=f) (beh:=beh) (ahd:=ahd) hc fY hn tZ cZ (i3:=2) (i4:=3) (i5:=4) (r:=1) oC oC oC oC oC oC n;have hz:(replicate n false).getD 0 false=false:=by rw[bl,List.getElem?_replicate];split<;>rfl
 have v8:=(RY (w:= -1) tZ n).1 (replicate n false,[]) 0 oS jY hz
 have C:(eO (aA beh) (-1) n (replicate n false,[]) 0).2≠[]:=by
  obtain⟨j,rfl⟩:∃ j,n=j+1:=⟨n - 1,oG⟩
  exact ae4
 have hR:cS (aA beh) n=(eO (aA beh) (-1) n (replicate n false,[]) 0).2.reverse:=rfl;refine SS ?_;refine kN (E8 _ _ 0 (replicate n false,[]) 0 ⟨oC,oC,oC,oC,rfl,rfl,rfl,rfl,fun h=>absurd rfl h⟩ oS jY oS hz oP) rfl cv fun d m' nx' hp=>?_;obtain⟨rfl,J,X⟩:=hp;have m4:=X.m4;obtain⟨q1,q2,q3,q4,q5,M⟩:=X.mq C;rw[hR];clear X hR E8;generalize (eO (aA beh) (-1) n (replicate n false,[]) 0)=u at v8 C m4 M ⊢;obtain⟨u1,u2⟩:=u;dsimp only at v8 C m4 M ⊢;have EU:u2.map I≠[]:=by simpa using C
 have ax:m' 3=some (.cells [.rs J 0 u2.length] 27):=by rw[m4,p9 EU,List.length_map]
 have di:=M;have jg:u2.length<=100000:=by simp at v8;omega
 refine af (aW (ap (l:=[(4,.rp 3 0)]) eH) (aj (SS ?_)));refine kN (k84 q1 M rfl jg) rfl cv fun d m2 cI hp=>?_;obtain⟨rfl,rfl,rfl⟩:=hp;refine er ?_;have ax:up m' J (some (.cells (u2.reverse.map I) 3)) 3=some (.cells [.rs J 0 u2.length] 27):=aC (Ne.symm q3) ax;refine ag ?_;refine af (av rfl ⟨J,?_,up_same _ _ _⟩);rw[List.length_reverse];rfl
end
end Go.Proofs.Tryz.K
namespace Go.Abs
section
variable{P:Program}{m:Mem}{nx:Nat}
theorem Y4{f:FuncId}{rds:List Nat}{args args' es:List D}{n:Nat}{t:TypeId}(pb:Sns P rds m args args')(hc:OCall P f args' es n t)(lI:∀ d∈es,d.scal=true):
 ACalls P f args m nx (fun d m' nx'=>d=.rs nx 0 n/\m'=up m nx (some (.cells es t))/\nx'=nx+1):=by
 refine⟨hc.1,fun F β w vs hm hβ hR=>?_⟩;have hn:=hβ nx (bF _)
 obtain⟨h1,h2⟩:=sns_R (P:=P) (F:=F) (β:=β) (w:=w) (fun i hi r hr=>by
  obtain⟨p,hp,ax⟩:=hm.row i r hr
  exact⟨p,hp,ax,fun b hb=>hm.nf i p b hp hb⟩) pb
 refine(hc.2.2 F w vs (fun b hb=>hm.fb b hb) ⟨by rw[hR.1,h1],fun k d v hd hv=>?_⟩).mono ?_
 .have ao:k<args.length:=by rw[h1];exact(bw.1 hd).1
  exact h2 k args[k] d (by simp[ao]) hd v (hR.2 k args[k] v (by simp[ao]) hv)
 rintro e w' ⟨v,p,he,Lx,C,ax,hv,hk⟩;have ja:=hm.kept hk
 have hs:Step β w (up β nx (some p)) w':=by
  refine⟨hk.1,fun b hb hf=>⟨hk.2.1 b hb,fun i q hq=>?_⟩,fun i q hq=>.inl ?_,hk.2.2⟩
  .by_cases hi:i=nx
   .subst hi;rw[up_same] at hq;cases hq;intro e;have:=(C b e).1;omega
   .rw[up_ne _ _ hi] at hq;exact hf i q hq
  .rw[up_ne _ _ (fun e=>by rw[e,hn] at hq;cases hq)];exact hq
 have M:∀ i q b,up β nx (some p) i=some q->q.blk=some b->(i=nx/\q=p)\/(i≠nx/\β i=some q):=fun i q b hq _=>by
  by_cases hi:i=nx
  .subst hi;rw[up_same] at hq;cases hq;exact .inl ⟨rfl,rfl⟩
  .rw[up_ne _ _ hi] at hq;exact .inr ⟨hi,hq⟩
 have Ly:RowR P F (up β nx (some p)) w' (.cells es t) p:=by
  cases ax with
  |nil _=>exact .nil _
  |cells _ _ b o room sz c h1 h2 h3 h4 h5=>
   refine .cells es t b o room sz c h1 h2 h3 h4 fun k d hd=>?_;obtain⟨u,ru,rv,ry⟩:=h5 k d hd;exact⟨u,ru,scal_R (lI d (bU hd)) rv,ry⟩
 refine⟨v,.rs nx 0 n,up m nx (some (.cells es t)),nx+1,up β nx (some p),he,⟨rfl,rfl,rfl⟩,?_,fun i hi=>by rw[up_ne _ _ oG];exact hβ i oG,?_,hs,Nat.le_succ _,fun i hi hb=>by rw[up_ne _ _ oG];exact hb⟩
 .refine⟨fun i r hi=>?_,fun i j q q' b hq iM e J=>?_,fun i q b hq e=>?_,fun i q b hq e=>?_,ja.fb⟩
  .by_cases X:i=nx
   .subst X;rw[up_same] at hi;cases hi;exact⟨p,up_same _ _ _,Ly⟩
   .rw[up_ne _ _ X] at hi;obtain⟨q,hq,Ni⟩:=hm.row i r hi;exact⟨q,by rw[up_ne _ _ X];exact hq,Ni.step hs fun b hb=>hk.2.1 b (hm.lt i q b hq hb)⟩
  .rcases M i q b hq e with⟨rfl,rfl⟩|⟨hi,h1⟩<;>rcases M j q' b iM J with⟨rfl,rfl⟩|⟨hj,h2⟩
   .rfl
   .have:=(C b e).1;have:=hm.lt j q' b h2 J;omega
   .have:=(C b J).1;have:=hm.lt i q b h1 e;omega
   .exact hm.inj i j q q' b h1 h2 e J
  .rcases M i q b hq e with⟨_,rfl⟩|⟨_,h1⟩
   .exact(C b e).2
   .exact ja.lt i q b h1 e
  .rcases M i q b hq e with⟨_,rfl⟩|⟨_,h1⟩
   .intro hF;have:=hm.fb b hF;have:=(C b e).1;omega
   .exact hm.nf i q b h1 e
 .cases hv with
  |rsd _ _ _ _ h _=>rw[up_same] at h;cases h;exact absurd rfl Lx
  |rsn _ a h=>rw[up_same] at h;cases h;exact .rsn nx a (up_same _ _ _)
  |rsz _ _ a b o len room sz h=>rw[up_same] at h;cases h;exact .rsz nx 0 a b o len room sz (up_same _ _ _)
  |rs _ _ _ cap b o len room sz h h1 h2 h3 h4=>rw[up_same] at h;cases h;exact .rs nx 0 n cap b o len room sz (up_same _ _ _) h1 h2 h3 h4
end
section
variable{P:Program}{env:Env}{m:Mem}{nx:Nat}
theorem G7{f:FuncId}{args:List D}{cN:D->Mem->Nat->Prop}{i:Nat}{r:Row}(hm:m i=some r)(he:enterOk P f=true)(h:i<nx->ACalls P f args m nx cN):ACalls P f args m nx cN:=⟨he,fun F β w vs C J hR=>by
 refine(h ?_).2 F β w vs C J hR;rcases Nat.lt_or_ge i nx with g|g
 .exact g
 .obtain⟨p,hp,_⟩:=C.row i r hm
  rw[J i g] at hp;cases hp⟩
theorem HW{Y:YSpec}{ops:Array Oper}{dr:Bool}{cf:List (Nat×Nat)}{Q:Exit->St->Prop}{rest:List Oper}{tr:Tra}{op:Op}{ty:TypeId}{pos:String}{after:Array Edge}{f:FuncId}{args:List D}{r:D}{ups:List (Nat×Option Row)}{rds:List Nat}{d:Option Nat}
 (h:∀ C cI,(∀ i∈rds,m i≠none->C i=m i)->ACalls P f args C cI fun r' m' nx'=>r'=r/\m'=upds C ups/\nx'=cI) (J:∀ i∈ups.map (·.1),i∈rds/\m i≠none) (hc:callD (rho env op) op=some (f,args)) (ha:iY env op.operands.toList)
 (K:AOps P Y ops dr cf Q rest (St.put ⟨env,upds m ups,nx⟩ d r) (tr++[(rds,ups.map (·.1))])):AOps P Y ops dr cf Q (⟨d,op,ty,pos,after,none⟩::rest) ⟨env,m,nx⟩ tr:=DP hc ha (.inr (.inr (.inr (.inr (.inl ⟨r,ups,rds,h,J,K⟩)))))
theorem Qj{i:Nat}{cs:List D}{e:TypeId}{l:List (Nat×D)}(hm:m i=some (.cells cs e))(hl:jM l fun t=>sub (fz0 i cs (P.cellsOf e)) (env t)):
 Ghost P ⟨env,m,nx⟩ ⟨aD l,fun j=>if j=i then none else(m j).map (Row.sub (fz0 i cs (P.cellsOf e))),nx⟩:=
 (Ghost.freeze env m nx i cs e hm).trans (Ghost.forget _ _ _ _ (pL hl))
theorem eP.fz{j n q sz:Nat}{e et:TypeId}{ρ:Nat->Nat}{L:Nat->List D}{cs:List D}(h:eP m nx j n e et ρ L)(hs:∀ i,zc (L i))(hq:j≠q)(C:∀ i,i<n->L i≠[]->ρ i≠q):
 eP (fun p=>if p=q then none else(m p).map (Row.sub (fz0 q cs sz))) nx j n e et ρ L:=by
 refine⟨?_,h.qy,fun i hi hl=>?_,h.lt,h.ne,h.inj⟩
 .rw[if_neg hq,h.row];refine congrArg some (nK.cells (X:=fun p=>p=q) (fun d hd=>?_) q cs sz rfl);obtain⟨i,hi,rfl⟩:=List.mem_map.1 hd;by_cases hl:L i=[]
  .rw[hl];exact .z
  .rw[p9 hl];exact .rs (C i (by simpa using hi) hl)
 .rw[if_neg (C i hi hl),h.sK i hi hl];exact congrArg some (nK.WM (X:=fun p=>p=q) (hs i) q cs sz rfl)
end
end Go.Abs
namespace Go.Argus
open Go.Proofs.Tryz.K (nextR)
theorem GM{f:aG}{x:End}(h:j8 f x=true):dW x=dp x:=by
 unfold j8 at h;rw[aO] at h;obtain⟨h,hb⟩:=h;have hb:=RV hb;obtain⟨kind,a,b,to,gD,name,ins,args,aL,cX⟩:=x;simp only[gI] at h hb;by_cases h1:kind=1
 .subst h1;simp only[Int.reduceEq,if_false,if_true] at hb;have J:aL=[]:=List.length_eq_zero_iff.1 hb.2.2.2.2.2.2.2;have C:cX= -1:=hb.2.2.2.2.2.1;subst J C;simp[dW,gn,ow,dA,dp,iO,aU]
 by_cases h2:kind=2
 .subst h2;simp only[Int.reduceEq,if_false,if_true] at hb;have J:aL=[]:=List.length_eq_zero_iff.1 hb.2.2.2.2.2.2.2;have C:cX= -1:=hb.2.2.2.2.2.1;subst J C;simp[dW,gn,ow,dA,dp,iO,aU]
 by_cases h3:kind=3
 .subst h3;simp only[Int.reduceEq,if_false,if_true] at hb;have J:aL=[]:=List.length_eq_zero_iff.1 hb.2.2.2.2.2.2.2;have C:cX= -1:=hb.2.2.2.2.2.1;subst J C;simp[dW,gn,ow,dA,dp,iO,aU]
 by_cases h4:kind=4
 .subst h4;simp only[Int.reduceEq,if_false,if_true] at hb;have J:aL=[]:=List.length_eq_zero_iff.1 hb.2.2.2.2.2.2.2;have C:cX= -1:=hb.2.2.2.2.2.1;subst J C;simp[dW,gn,ow,dA,dp,iO,aU]
 by_cases h5:kind=5
 .subst h5;by_cases C:0<=cX<;>simp[dW,gn,ow,dA,dp,iO,aU,C]
 by_cases M:kind=6
 .subst M;by_cases C:0<=cX<;>simp[dW,gn,ow,dA,dp,iO,aU,C]
 by_cases X:kind=7
 .subst X;simp only[Int.reduceEq,if_false,if_true] at hb;have J:aL=[]:=List.length_eq_zero_iff.1 hb.2.2.2.2.2.2.2;have C:cX= -1:=hb.2.2.2.2.2.1;subst J C;simp[dW,gn,ow,dA,dp,iO,aU]
 by_cases h8:kind=8
 .subst h8;by_cases C:0<=cX<;>simp[dW,gn,ow,dA,dp,iO,aU,C]
 by_cases h9:kind=9
 .subst h9;simp only[Int.reduceEq,if_false,if_true] at hb;have J:aL=[]:=List.length_eq_zero_iff.1 hb.2.2.2.2.2.2.2;have C:cX= -1:=hb.2.2.2.2.2.1;subst J C;simp[dW,gn,ow,dA,dp,iO,aU]
 .simp only[h1,h2,h3,h4,h5,M,X,h8,h9,if_false] at h;cases h
theorem Zg{f:aG}(h:jx f=true):∀ x∈f.blocks,dW x.fin=dp x.fin:=by
 unfold jx at h;simp only[aO] at h;obtain⟨J,M,_,C,hR⟩:=h;intro x hx;obtain⟨k,hk⟩:=cC hx;have ao:k<f.blocks.length:=(bw.1 hk).1;have:=bj.1 C k (by simpa using ao);rw[j7,getD_some hk] at this;simp only[aO,Bool.not_eq_true',decide_eq_false_iff_not] at this;exact GM this.1
def bI(f:aG):List (List Int):=f.blocks.map fun x=>nextR x.fin
theorem yv{f:aG}{k:Nat}{x:b7}(h:f.blocks[k]? =some x):aA (bI f) k=nextR x.fin:=by
 unfold aA bI;simp[bl,h]
theorem GG{f:aG}{k:Nat}(h:f.blocks.length<=k):aA (bI f) k=[]:=by
 unfold aA bI;rw[bl,List.getElem?_eq_none (by simpa using h)];rfl
def jj(f:aG)(a b c:D):List D:=[S f.name,B f.iter,I f.args,U8 f.result,la f.al,la f.aZ,r7 f.signals,gv f.blocks,a,b,c]
def jV(f:aG)(n k:Nat):List D:=(range n).map fun i=>if i<k then au (aA (bI f) i) else .z
@[simp] theorem aoi (f : aG) (n k : Nat) : (jV f n k).length = n := by simp [jV]
theorem acy{f:aG}{n k:Nat}{x:D}(hk:k<n):(jV f n k).set k x=(range n).map fun i=>if i=k then x else if i<k then au (aA (bI f) i) else .z:=by
 unfold jV;rw[GF];exact List.map_congr_left fun i _=>rfl
def wF(f:aG):List D:=bA f (bI f) (cM f.blocks) (dv (cO (aA (bI f)) f.blocks.length (-1)))
end Go.Argus
namespace Go.Proofs.Tryz.K
theorem beh_in{f:aG}(h:qR f):∀ b,∀ t∈aA (bI f) b,0<=t/\t.toNat<f.blocks.length:=fun b t ht=>by
 cases hx:f.blocks[b]? with
 |none=>rw[GG (List.getElem?_eq_none_iff.1 hx)] at ht;simp at ht
 |some x=>
  rw[yv hx] at ht;have:=(h.ends x (bU hx)).to t (Gq.1 ht);omega
theorem KQ{f:aG}(h:qR f):∀ b,(aA (bI f) b).length<=100000:=fun b=>by
 cases hx:f.blocks[b]? with
 |none=>rw[GG (List.getElem?_eq_none_iff.1 hx)];simp
 |some x=>
  rw[yv hx];have:=z4 x.fin;have:=(h.ends x (bU hx)).wh;omega
theorem HA{f:aG}(b9:dG f=0):PCall prog 51 [.agg (aH f)] (.tup [.pt (wF f),I 0]):=by
 have zS:=zS (f:=f);rw[b9] at zS
 have hf:jx f=true:=by
  unfold dG at b9;split at b9
  .assumption
  .cases b9
 have bZ:=tE hf;have mj:=Zg hf;obtain⟨n,hn⟩:∃ n,f.blocks.length=n:=⟨_,rfl⟩
 have jd:n<=1200:=hn▸bZ.mz;have qA:∀ b,∀ t∈aA (bI f) b,0<=t/\t.toNat<n:=hn▸beh_in bZ;have cZ:=KQ bZ;refine bg MZ (.cons (.agg (iq f)) .nil) (.tup (.cons (.pt (JW (.sl (.map fun _=>.s _)))) (.cons (.s _) .nil))) ?_;rw[W5];refine az (aq ?_);refine af (aW (bG [(0,aH f,26)] eH (l:=[(1,.pt (aH f))]) eH) (aB (aj (SS ?_))));refine cl zS (SS ?_);refine af (aB (aj (ag ?_)));refine af (cx rfl (fun h=>oH) fun h=>bP (aj (aP ?_)));refine af (pI acz (dz ?_));refine aI (oE (v:=.rp _ _) rfl) ak trivial ?_;have dn:((f.blocks.length:Nat):Int).toNat=n:=hn;refine a8 bc (aW (aQ (l:=[(1,.pt (aH f)),(6,.rp 3 0)]) (ml:=[(1,.cells (replicate n .z) 27),(2,.cells (replicate n .z) 27),(3,.cells (jj f (.rs 1 0 n) (.rs 2 0 n) .z) 89)]) eH ⟨?_,?_,?_,trivial⟩) (aB (az ?_)))
 .exact congrArg (fun c=>some (Row.cells c 27)) ((congrArg (fun k=>replD k [D.z]) dn).trans (BJ n))
 .exact congrArg (fun c=>some (Row.cells c 27)) ((congrArg (fun k=>replD k [D.z]) dn).trans (BJ n))
 .exact congrArg (fun k=>some (Row.cells (jj f (.rs 1 0 k) (.rs 2 0 k) .z) 89)) dn
 refine aP ?_
 have qp:jV f n 0=replicate n D.z:=by
  unfold jV;simp only[Nat.not_lt_zero,if_false];rw[List.map_const',List.length_range]
 refine af (bR (fun s=>∃ m nx ρ,Ghost prog s ⟨aD [(6,.rp 3 0)],m,nx⟩/\4<=nx/\m 1=some (.cells (jV f n n) 27)/\m 3=some (.cells (jj f (.rs 1 0 n) (.rs 2 0 n) .z) 89)/\eP m nx 2 n 27 3 ρ (fun i=>(bH f.blocks n i).map I)/\(∀ i,i<n->(bH f.blocks n i).map I≠[]->ρ i≠1/\ρ i≠3)) (dV (α:=Nat×Mem×Nat)
  (fun k=>⟨aD [(1,.pt (aH f)),(6,.rp 3 0),(28,gv f.blocks),(29,I n),(30,I k.1)],k.2.1,k.2.2⟩)
  (fun k=>k.1<=n/\4<=k.2.2/\k.2.1 1=some (.cells (jV f n k.1) 27)/\k.2.1 3=some (.cells (jj f (.rs 1 0 n) (.rs 2 0 n) .z) 89)/\(∃ ρ,eP k.2.1 k.2.2 2 n 27 3 ρ (fun i=>(bH f.blocks k.1 i).map I)/\(∀ i,i<n->(bH f.blocks k.1 i).map I≠[]->ρ i≠1/\ρ i≠3))/\∀ i,(bH f.blocks k.1 i).length<=12*k.1) (fun k=>n - k.1)
  (0,bf [(1,.cells (replicate n .z) 27),(2,.cells (replicate n .z) 27),(3,.cells (jj f (.rs 1 0 n) (.rs 2 0 n) .z) 89)],4)
  (ap ⟨rfl,rfl,rfl,congrArg (fun k:Nat=>I k) hn,rfl,trivial⟩) ⟨Nat.zero_le _,bF _,by rw[qp];rfl,rfl,⟨fun _=>0,Kn (show 2<4 by decide) rfl,fun _ _ h=>absurd rfl h⟩,fun _=>bF _⟩ ?_) ?_)
 .rintro⟨k,m,nx⟩ ⟨hk,fM,m1,m3,⟨ρ,C,J⟩,hlen⟩;dsimp only at hk fM m1 m3 C J hlen ⊢;refine SS ?_;refine af ⟨_,rfl,fun h=>?_,fun h=>?_⟩
  .have ao:k<n:=by simpa using h
   have hx:f.blocks[k]? =some f.blocks[k]:=aM oG;have cz:f.blocks[k]∈f.blocks:=cy _;generalize f.blocks[k]=x at hx cz
   have cg:bH f.blocks (k+1)=(nextR x.fin).foldl (dM k) (bH f.blocks k):=by
    rw[bH,List.range_succ,List.foldl_append];show qQ f.blocks _ k=_;rw[qQ,hx];rfl
   have iP:=yv hx;have dU:=qA k;have I5:=(bZ.ends x cz).wh;have hle:=DB x.fin;have Yi:=mj x cz;have CY:=z4 x.fin;have zz:nextR x.fin=ld (gB (dW x.fin)):=by rw[Yi];rfl
   have E6:=E6 (x:=x.fin) oG;rw[iP] at dU;generalize bH f.blocks k=L0 at C hlen J cg;refine ws (bB ?_);refine er (SS ?_);refine aI (ep (vs:=bh _) rfl (up_same _ _ _) V.h V.h rfl) ak (ez V.h V.h (by first|(simp;done)|omega|exact bD rfl)) ?_;refine Ca E6 rfl cv (SS ?_);generalize dW x.fin=d at hle zz E6;refine af (az (SS ?_));refine kN (xW (i:=nx+1) (l:=d) oG (up_same _ _ _) rfl oG) rfl cv fun r m' nx' hp=>?_;obtain⟨rfl,rfl,rfl⟩:=hp;have fO:(gB d).length=d.length:=JS d;have cJ:(ld (gB d)).length=(nextR x.fin).length:=by rw[zz]
   refine af (aW (nz (l:=[(1,.pt (aH f)),(6,.rp 3 0),(7,I k),(9,.rs (nx+1) 0 d.length),(28,gv f.blocks),(29,I n),(30,I k)]) (m':=up (up m nx (some (.cells (fH x) 72))) (nx+1) (some (.cells ((gB d).map I) 3))) eH (by rw[p7,p7])) (pI aa5 ?_));have ax:up (up m nx (some (.cells (fH x) 72))) (nx+1) (some (.cells ((gB d).map I) 3)) 3=some (.cells (jj f (.rs 1 0 n) (.rs 2 0 n) .z) 89):=aC oG (aC oG m3);have di:up (up m nx (some (.cells (fH x) 72))) (nx+1) (some (.cells ((gB d).map I) 3)) 1=some (.cells (jV f n k) 27):=aC oG (aC oG m1);have gT:up (up m nx (some (.cells (fH x) 72))) (nx+1) (some (.cells ((gB d).map I) 3)) (nx+1)=some (.cells ((gB d).map I) 3):=up_same _ _ _;have Bf:=C.lt;have C:=C.ext (m':=up (up m nx (some (.cells (fH x) 72))) (nx+1) (some (.cells ((gB d).map I) 3))) (nx':=nx+2) (fun q hq=>aC oG (aC oG rfl)) oG;generalize up (up m nx (some (.cells (fH x) 72))) (nx+1) (some (.cells ((gB d).map I) 3))=M at ax di gT C;clear m1 m3;refine bB ?_;refine HW (r:=.rs (nx+1) 0 (ld (gB d)).length) (ups:=[(nx+1,some (.cells (wQ (gB d) d.length) 3))]) (rds:=[nx+1]) (fun m2 cI mg=>?_) ?_ rfl cv ?_
   .have e:=mg (nx+1) oS (by rw[gT];simp);rw[gT] at e;refine G7 e Cy.he fun vr=>(E2 vr e fO oG).mono ?_;rintro r m' nx' ⟨h1,h2,h3⟩;exact⟨h2,h3,h1⟩
   .intro i hi;simp at hi;subst hi;exact⟨oS,by rw[gT];simp⟩
   have sR:wQ (gB d) d.length=(nextR x.fin).map I++replicate (d.length - (nextR x.fin).length) (I 0):=by rw[wQ,zz]
   show AOps _ _ _ _ _ _ _ ⟨up _ 46 _,up M (nx+1) (some (.cells (wQ (gB d) d.length) 3)),_⟩ _;rw[<- zz,sR]
   have cR:(nextR x.fin).length<=d.length:=by
    rw[zz];have:(ld (gB d)).length<=(gB d).length:=KS _;omega
   clear sR cJ zz gT;generalize nextR x.fin=l at dU CY cg iP cR;refine aI (mK rfl rfl (aC oG di) V.h V.h) ak ⟨V.h,oG⟩ (cA (fG (d:=.rs _ _ _) (cs':=_) rfl rfl (aC oG di) rfl rfl) ak (dt V.h V.h (by first|(simp;done)|exact⟨rfl,bD rfl⟩|(simp;omega)) rfl) ?_);refine a8 (by simp[apartT];omega) ?_;have e1:(jV f n k).set k (.rs (nx+1) 0 l.length)=(range n).map fun i=>if i=k then .rs (nx+1) 0 l.length else if i<k then au (aA (bI f) i) else .z:=acy ao
   rw[e1];refine aW (Qj (i:=nx+1) (e:=3) (cs:=l.map I++replicate (d.length - l.length) (I 0)) (l:=[(1,.pt (aH f)),(6,.rp 3 0),(7,I k),(28,gv f.blocks),(29,I n),(30,I k)]) (aC oG (up_same _ _ _)) ⟨rfl,G8 oG,rfl,rfl,rfl,rfl,trivial⟩) (az ?_)
   have N1:(fun j=>if j=nx+1 then none else(up (up M (nx+1) (some (.cells (l.map I++replicate (d.length - l.length) (I 0)) 3))) 1 (some (.cells ((range n).map fun i=>if i=k then .rs (nx+1) 0 l.length else if i<k then au (aA (bI f) i) else .z) 27)) j).map (Row.sub (fz0 (nx+1) (l.map I++replicate (d.length - l.length) (I 0)) (prog.cellsOf 3)))) 1=some (.cells (jV f n (k+1)) 27):=by
    dsimp only;rw[if_neg oG,up_same];show some (Row.cells (List.map _ (List.map _ _)) 27)=_;rw[List.map_map,jV];refine congrArg (fun c=>some (Row.cells c 27)) (List.map_congr_left fun i _=>?_);simp only[Function.comp_apply];by_cases Ou:i=k
    .subst Ou;rw[if_pos rfl,if_pos oG,iP,c3,Cj];simp[au]
    .rw[if_neg Ou];by_cases h2:i<k
     .rw[if_pos h2,if_pos oG];rfl
     .rw[if_neg h2,if_neg oG];rfl
   have N3:(fun j=>if j=nx+1 then none else(up (up M (nx+1) (some (.cells (l.map I++replicate (d.length - l.length) (I 0)) 3))) 1 (some (.cells ((range n).map fun i=>if i=k then .rs (nx+1) 0 l.length else if i<k then au (aA (bI f) i) else .z) 27)) j).map (Row.sub (fz0 (nx+1) (l.map I++replicate (d.length - l.length) (I 0)) (prog.cellsOf 3)))) 3=some (.cells (jj f (.rs 1 0 n) (.rs 2 0 n) .z) 89):=by
    dsimp only;rw[if_neg oG,up_ne _ _ oG,up_ne _ _ oG,ax];refine congrArg some (nK.cells (X:=fun p=>p=nx+1) (fun d hd=>?_) _ _ _ rfl);simp only[jj,List.mem_cons,List.not_mem_nil,or_false] at hd;rcases hd with rfl|rfl|rfl|rfl|rfl|rfl|rfl|rfl|rfl|rfl|rfl
    .exact .s _
    .exact .s _
    .exact .s _
    .exact .s _
    .exact .sl _ _
    .exact .sl _ _
    .exact .sl _ _
    .exact .sl _ _
    .exact .rs oG
    .exact .rs oG
    .exact .z
   have NJ:eP (fun j=>if j=nx+1 then none else(up (up M (nx+1) (some (.cells (l.map I++replicate (d.length - l.length) (I 0)) 3))) 1 (some (.cells ((range n).map fun i=>if i=k then .rs (nx+1) 0 l.length else if i<k then au (aA (bI f) i) else .z) 27)) j).map (Row.sub (fz0 (nx+1) (l.map I++replicate (d.length - l.length) (I 0)) (prog.cellsOf 3)))) (nx+2) 2 n 27 3 ρ (fun i=>(L0 i).map I):=by
    refine eP.fz ⟨?_,C.qy,fun i hi hl=>?_,C.lt,C.ne,C.inj⟩ (fun _=>.map) oG fun i hi hl=>by have:=Bf i hi hl;omega
    .exact aC oG (aC oG C.row)
    .have:=Bf i hi hl;exact aC (J i hi hl).1 (aC oG (C.sK i hi hl))
   clear ax di C e1;generalize (fun j=>if j=nx+1 then none else(up (up M (nx+1) (some (.cells (l.map I++replicate (d.length - l.length) (I 0)) 3))) 1 (some (.cells ((range n).map fun i=>if i=k then .rs (nx+1) 0 l.length else if i<k then au (aA (bI f) i) else .z) 27)) j).map (Row.sub (fz0 (nx+1) (l.map I++replicate (d.length - l.length) (I 0)) (prog.cellsOf 3))))=m at N1 N3 NJ ⊢;have ax:=N3;have di:=N1
   have kd:(jV f n (k+1)).drop k=au l::(jV f n (k+1)).drop (k+1):=by
    rw[List.drop_eq_getElem_cons oP];congr 1;simp[jV,iP]
   refine aJ ?_;have v9:l.length<=10:=by omega
   clear kd ax di hx I5 Yi hle CY fO cR E6
   refine af (dV (α:=Nat×Mem×Nat)
    (fun j=>⟨aD [(1,.pt (aH f)),(6,.rp 3 0),(7,I k),(28,gv f.blocks),(29,I n),(30,I k),(54,au l),(55,I l.length),(56,I j.1)],j.2.1,j.2.2⟩)
    (fun j=>j.1<=l.length/\4<=j.2.2/\j.2.1 1=some (.cells (jV f n (k+1)) 27)/\j.2.1 3=some (.cells (jj f (.rs 1 0 n) (.rs 2 0 n) .z) 89)/\(∃ ρ,eP j.2.1 j.2.2 2 n 27 3 ρ (fun i=>((l.take j.1).foldl (dM k) L0 i).map I)/\(∀ i,i<n->((l.take j.1).foldl (dM k) L0 i).map I≠[]->ρ i≠1/\ρ i≠3))/\∀ i,((l.take j.1).foldl (dM k) L0 i).length<=12*k+j.1) (fun j=>l.length - j.1) (0,m,nx+2)
    (ap eH) ⟨Nat.zero_le _,oM,N1,N3,⟨ρ,NJ,J⟩,hlen⟩ ?_)
   clear N1 N3 NJ hlen J Bf fM;rintro⟨j,m,nx⟩ ⟨hj,fM,m1,m3,⟨ρ,C,J⟩,hlen⟩;dsimp only at hj fM m1 m3 C J hlen ⊢;have ax:=C.row;have di:=m3;have cV:=C.qy;have eL:∀ t,l[j]? =some t->(l.take (j+1)).foldl (dM k) L0=dM k ((l.take j).foldl (dM k) L0) t:=fun t ht=>oB ht;have p8:j=l.length->(l.take j).foldl (dM k) L0=bH f.blocks (k+1):=fun e=>by rw[cg,df oG]
   generalize (l.take j).foldl (dM k) L0=L at C J hlen ax eL p8;refine SS ?_;refine af ⟨_,rfl,fun h=>?_,fun h=>?_⟩
   .have ze:j<l.length:=by simpa using h
    have s5:l[j]? =some l[j]:=aM ze;have pF:=dU _ (cy ze);generalize l[j]=t at s5 pF;obtain⟨i,rfl⟩:=cU pF.1;have bm:i<n:=pF.2;have hL:=hlen i;have eL:(l.take (j+1)).foldl (dM k) L0=up L i (L i++[(k:Int)]):=eL _ s5
    have tM:∀ i,((l.take (j+1)).foldl (dM k) L0 i).length<=12*k+(j+1):=fun a=>by
     rw[eL];exact Gt (t:=(i:Int)) hlen a
    have zR:(fun a=>((l.take (j+1)).foldl (dM k) L0 a).map I)=up (fun a=>(L a).map I) i ((L i++[(k:Int)]).map I):=by rw[eL];exact Ll
    obtain⟨cs,kd⟩:=G5 (ρ:=ρ) (L:=fun i=>(L i).map I) bm
    have Yj:∀ a,a<n->((l.take (j+1)).foldl (dM k) L0 a).map I≠[]->up ρ i (nx+1) a≠1/\up ρ i (nx+1) a≠3:=fun a ha aE=>by
     simp only[up];split
     .omega
     .rename_i gE;refine J a ha ?_;rw[eL,up_ne _ _ gE] at aE;exact aE
    refine ws (aq ?_);refine af (pM aa6 ?_);by_cases hz:L i=[]
    .have uB:jc (ρ i) ((L i).map I)=.z:=by rw[hz];rfl
     rw[uB] at kd;refine aJ ?_;refine bK ?_;refine a8 (by simp[apartT];omega) ?_;refine ag ?_;refine af (aK (j+1,up (up (up m nx (some (.cells [I k] 3))) (nx+1) (some (.cells [I k] 3))) 2 (some (.cells ((jD ρ (fun i=>(L i).map I) n).set i (.rs (nx+1) 0 1)) 27)),nx+2) (ap eH) ⟨oM,oM,?_,?_,⟨up ρ i (nx+1),?_,Yj⟩,tM⟩ oM)
     .dsimp only;exact aC oG (aC oG (aC oG m1))
     .dsimp only;exact aC oG (aC oG (aC oG m3))
     dsimp only;rw[zR];refine C.kG bm oS oG oG ?_ ?_ (fun q hq s9 _=>?_)
     .rw[hz];exact up_same _ _ _
     .rw[hz];exact aC oG (up_same _ _ _)
     .exact aC oG (aC oG (aC oG rfl))
    .have aE:(L i).map I≠[]:=by simpa using hz
     have uB:jc (ρ i) ((L i).map I)=.rs (ρ i) 0 (L i).length:=by rw[p9 aE,List.length_map]
     rw[uB] at kd;have gT:=C.sK i bm aE;have Bf:=C.lt i bm aE;have hρ2:=C.ne i bm aE;obtain⟨Oj,hρ3⟩:=J i bm aE;refine aJ ?_;refine aN ?_;refine vm (uV rfl (aC oG gT) rfl V.h V.h (wj (up_same _ _ _) rfl) rfl) ak ⟨V.h,rfl,(by first|omega|exact bD rfl|(simp;done)|(simp;omega)),oC,(by first|rfl|(simp;done)|(simp;omega)),(by unfold maxLen;first|omega|(simp;omega)),(by rw[b3];first|omega|(simp;omega)),(by first|(simp;done)|(simp;omega))⟩ ?_;refine ag ?_;refine a8 (by simp[apartT];omega) ?_;refine ag ?_;refine af (aK (j+1,up (up (up (up m nx (some (.cells [I k] 3))) (ρ i) none) (nx+1) (some (.cells ((L i).map I++[I k]) 3))) 2 (some (.cells ((jD ρ (fun i=>(L i).map I) n).set i (.rs (nx+1) 0 ((L i).length+1))) 27)),nx+2) (ap eH) ⟨oM,oM,?_,?_,⟨up ρ i (nx+1),?_,Yj⟩,tM⟩ oM)
     .dsimp only;exact aC oG (aC oG (aC oG (aC oG m1)))
     .dsimp only;exact aC oG (aC oG (aC oG (aC oG m3)))
     dsimp only;rw[zR];refine C.kG bm oS oG oG ?_ ?_ (fun q hq s9 nk=>?_)
     .rw[List.length_map,List.length_append];exact up_same _ _ _
     .rw[List.map_append];exact aC oG (up_same _ _ _)
     .have:=nk aE;exact aC oG (aC oG (aC oG (aC oG rfl)))
   .have a9:¬ j<l.length:=by simpa using h
    have vl:=p8 oG;subst vl;show AOps _ _ _ _ _ _ _ _ _;refine ag ?_;refine af (aK (k+1,m,nx) (ap eH) ⟨oM,fM,m1,m3,⟨ρ,C,J⟩,fun i=>by have:=hlen i;dsimp only at this ⊢;omega⟩ oM)
  .have a9:¬ k<n:=by simpa using h
   have:k=n:=by omega
   subst this;exact⟨m,nx,ρ,ap eH,fM,m1,m3,C,J⟩
 .rintro s ⟨m,nx,ρ,hg,fM,m1,m3,C,J⟩;have qB:¬ ∃ i,i<n/\(bH f.blocks n i).map I≠[]/\ρ i=2:=fun⟨i,h1,h2,h3⟩=>C.ne i h1 h2 h3;have Yk:¬ ∃ i,i<n/\(bH f.blocks n i).map I≠[]/\ρ i=1:=fun⟨i,h1,h2,h3⟩=>(J i h1 h2).1 h3;have Yl:¬ ∃ i,i<n/\(bH f.blocks n i).map I≠[]/\ρ i=3:=fun⟨i,h1,h2,h3⟩=>(J i h1 h2).2 h3;have xC:=hg.trans (GJ (l:=[(6,.rp 3 0)]) (ml:=[(1,.cells (jV f n n) 27),(3,.cells (jj f (.rs 1 0 n) (.rs 2 0 n) .z) 89)]) (fun r=>∃ i,i<n/\(bH f.blocks n i).map I≠[]/\ρ i=r) C (fun _=>.map) c3 (fun i h1 h2=>⟨i,h1,h2,rfl⟩) qB ⟨rfl,trivial⟩ (fun x hx=>by simp at hx;subst hx;exact .rp Yl) ⟨m1,m3,trivial⟩ (fun x hx=>?_))
  rotate_left
  .simp only[List.mem_cons,List.not_mem_nil,or_false] at hx;rcases hx with rfl|rfl
   .refine⟨nK.cells fun d hd=>?_,Yk⟩;obtain⟨i,_,rfl⟩:=List.mem_map.1 hd;split
    .exact .sl _ _
    .exact .z
   .refine⟨nK.cells fun d hd=>?_,Yl⟩;simp only[jj,List.mem_cons,List.not_mem_nil,or_false] at hd;rcases hd with rfl|rfl|rfl|rfl|rfl|rfl|rfl|rfl|rfl|rfl|rfl
    .exact .s _
    .exact .s _
    .exact .s _
    .exact .s _
    .exact .sl _ _
    .exact .sl _ _
    .exact .sl _ _
    .exact .sl _ _
    .exact .rs Yk
    .exact .rs qB
    .exact .z
  have hbc:jV f n n=(bI f).map au:=by
   unfold jV bI;refine List.ext_getElem (by simp[hn]) fun i h1 h2=>?_;have hi:i<n:=by simpa using h1
   simp only[List.getElem_map,List.getElem_range,hi,if_true];exact congrArg au (yv (aM oG))
  have Ov:=xC.trans (lO (i:=1) (e:=27) (cs:=jV f n n) (l:=[(6,.rp 3 0)]) (ml:=[(2,.cells ((range n).map fun i=>.sl ((bH f.blocks n i).map I) ((bH f.blocks n i).map I).length) 27),(3,.cells (jj f (bx (bI f)) (.rs 2 0 n) .z) 89)]) rfl eH ⟨?_,?_,trivial⟩)
  rotate_left
  .refine z9 oG rfl (nK.cells (X:=fun p=>p=1) (fun d hd=>?_) _ _ _ rfl);obtain⟨i,_,rfl⟩:=List.mem_map.1 hd;exact .sl _ _
  .show some (Row.cells (List.map _ (jj f (.rs 1 0 n) (.rs 2 0 n) .z)) 89)=_
   have e1:sub (fz0 1 (jV f n n) (prog.cellsOf 27)) (.rs 1 0 n)=bx (bI f):=by
    rw[nw (by rw[Bd];simp),hbc,bx,show(bI f).length=n by simp[bI,hn]]
   have e2:sub (fz0 1 (jV f n n) (prog.cellsOf 27)) (.rs 2 0 n)=.rs 2 0 n:=GH oG;simp only[jj,List.map_cons,List.map_nil,e1,e2];rfl
  have hg3:=Ov.trans (lO (i:=2) (e:=27) (cs:=(range n).map fun i=>.sl ((bH f.blocks n i).map I) ((bH f.blocks n i).map I).length) (l:=[(6,.rp 3 0)]) (ml:=[(3,.cells (jj f (bx (bI f)) (bx (cM f.blocks)) .z) 89)]) rfl eH ⟨?_,trivial⟩)
  rotate_left
  .show some (Row.cells (List.map _ (jj f (bx (bI f)) (.rs 2 0 n) .z)) 89)=_
   have e1:sub (fz0 2 ((range n).map fun i=>.sl ((bH f.blocks n i).map I) ((bH f.blocks n i).map I).length) (prog.cellsOf 27)) (.rs 2 0 n)=bx (cM f.blocks):=by
    rw[nw (by rw[Bd];simp),G4,cM,hn]
   simp only[jj,List.map_cons,List.map_nil,e1];rfl
  refine⟨_,hg3,az ?_⟩;have Io:=Io (f:=f) (beh:=bI f) (ahd:=cM f.blocks) (c:=.z) (w:= -1) .z rfl (by simp[bI,hn]) hn (by have:=bZ.pos;omega) oG qA cZ;have v8:=wg (w:= -1) qA (by have:=bZ.pos;omega);have xR:wF f=bA f (bI f) (cM f.blocks) (dv (cO (aA (bI f)) n (-1))):=by rw[wF,hn]
  rw[xR];generalize cO (aA (bI f)) n (-1)=R at Io v8 ⊢;refine ag ?_;refine kN (Y4 (rds:=[3]) (args:=[.rp 3 0,I (-1)]) (args':=[.pt (bA f (bI f) (cM f.blocks) .z),I (-1)]) ⟨Un (cs:=bA f (bI f) (cM f.blocks) .z) rfl oS rfl (JW .z),c8 (.s _),trivial⟩ Io (fun d hd=>by obtain⟨x,_,rfl⟩:=List.mem_map.1 hd;rfl)) rfl cv fun d m' nx' hp=>?_;obtain⟨rfl,rfl,rfl⟩:=hp;have ax:up (bf [(3,.cells (jj f (bx (bI f)) (bx (cM f.blocks)) .z) 89)]) nx (some (.cells (R.map B) 4)) 3=some (.cells (jj f (bx (bI f)) (bx (cM f.blocks)) .z) 89):=aC oG rfl;refine ag ?_;refine cA (fG (d:=.rs _ _ _) (cs':=_) rfl rfl ax rfl rfl) ak (dt V.h V.h (by first|(simp;done)|exact⟨rfl,bD rfl⟩|(simp;omega)) rfl) ?_;refine af ?_
  have e0:(fun j=>if j=nx then none else(up (up (bf [(3,.cells (jj f (bx (bI f)) (bx (cM f.blocks)) .z) 89)]) nx (some (.cells (R.map B) 4))) 3 (some (.cells (jj f (bx (bI f)) (bx (cM f.blocks)) (.rs nx 0 n)) 89)) j).map (Row.sub (fz0 nx (R.map B) (prog.cellsOf 4)))) 3=some (.cells (jj f (bx (bI f)) (bx (cM f.blocks)) (dv R)) 89):=by
   dsimp only;rw[if_neg oG,up_same];show some (Row.cells (List.map _ (jj f (bx (bI f)) (bx (cM f.blocks)) (.rs nx 0 n))) 89)=_
   have e1:sub (fz0 nx (R.map B) (prog.cellsOf 4)) (.rs nx 0 n)=dv R:=by
    rw[nw (by rw[c4];simp[v8]),dv,v8]
   simp only[jj,List.map_cons,List.map_nil,e1];rfl
  refine⟨_,(Qj (i:=nx) (e:=4) (cs:=R.map B) (l:=[(6,.rp 3 0)]) (aC oG (up_same _ _ _)) ⟨G8 oG,trivial⟩).trans (uM (i:=3) (l:=[(6,.pt (bA f (bI f) (cM f.blocks) (dv R)))]) e0 ⟨oX,trivial⟩),aj ?_⟩;refine SS ?_;refine Wa ?_;refine SS ?_;exact af (fj rfl rfl rfl)
end Go.Proofs.Tryz.K
end
namespace Go.Argus
open Go Go.Abs
structure LG where
 beh:Nat->List Int
 blk:Nat->b7
 YT:Nat->Int->List Int
 YU:Nat->Int->Int
def Lw(l:List Int):Prop:=∀ r∈l,0<=r/\r<1216
structure aiK(y:bE):Prop where
 rd:Lw (cP y)
 wr:dL y<1216
structure akN(g:LG)(n:Nat):Prop where
 beh:∀ b,∀ c∈g.beh b,0<=c/\c.toNat<n
 ins:∀ b,∀ y∈(g.blk b).ins,aiK y
 YT:∀ b,∀ c∈g.beh b,Lw (g.YT b c)
 YU:∀ b,∀ c∈g.beh b,g.YU b c<1216
 red:∀ b,Lw (cK (g.blk b).fin)
section
variable{g:LG}{n:Nat}
end
end Go.Argus
namespace Go.Argus
section
variable{g:LG}{n:Nat}{ord:List Int}
end
end Go.Argus
section
open Go Go.Abs Go.Proofs Go.Argus
namespace Go.Argus
def Iq(f:aG)(c:Nat):List Int:=bH f.blocks f.blocks.length c
def vu(f:aG)(b:Nat):b7:=f.blocks.getD b ki
def lgR(f:aG):LG:=⟨aA (bI f),vu f,fun b c=>ae2 (Iq f c.toNat) b (vu f c.toNat),fun b c=>G6 (vu f b).fin c⟩
theorem Kq{f:aG}{b:Nat}{x:b7}(h:f.blocks[b]? =some x):vu f b=x:=getD_some h
theorem Qk{f:aG}{b:Nat}(h:f.blocks.length<=b):vu f b=ki:=by
 unfold vu;rw[bl,List.getElem?_eq_none h];rfl
theorem Tz{α:Type}{p:α->Bool}{y:α}:∀ {l:List α},y∈l.takeWhile p->p y=true
 |[],h=>by simp at h
 |a::l,h=>by
  rw[List.takeWhile_cons] at h;split at h
  .rename_i ha;rcases List.mem_cons.1 h with e|e
   .subst e;exact ha
   .exact Tz e
  .simp at h
theorem acA{x:b7}{y:bE}(h:y∈EP x):y.op=19:=by simpa[cr] using Tz h
theorem aa7{x:b7}{y:bE}(h:y∈EP x):y∈x.ins:=(List.takeWhile_prefix cr).subset h
theorem qR.akL{f:aG}(h:qR f){b:Nat}{x:b7}(hx:f.blocks[b]? =some x){y:bE}(hy:y∈EP x):y.args.length=(Iq f b).length/\∀ r∈y.args,0<=r/\r<1200:=by
 obtain⟨j,hj⟩:=cC (aa7 hy);obtain⟨h1,_,_,_,h2⟩:=(Jz h.al h.aZ.1 h.aZ.2 (h.right b x hx j y hj)).2 (acA hy);refine⟨by unfold Iq;omega,fun r hr=>?_⟩;have:=(h2 r hr).2;unfold jA at this;have:=h.al;omega
def akM(f:aG):List Int:=(cS (aA (bI f)) f.blocks.length).reverse
end Go.Argus
namespace Go.Proofs.Tryz.K
theorem lg_ok{f:aG}(h:qR f):akN (lgR f) f.blocks.length:=by
 have M:∀ b,∀ y∈(vu f b).ins,qT y:=fun b y hy=>by
  cases hx:f.blocks[b]? with
  |none=>rw[Qk (List.getElem?_eq_none_iff.1 hx)] at hy;simp[ki] at hy
  |some x=>rw[Kq hx] at hy;exact(h.blk x (bU hx)).ins y hy
 have C:∀ b,b<f.blocks.length->Ci (vu f b).fin:=fun b hb=>by
  rw[Kq (aM hb)];exact(h.ends _ (cy hb)).fin
 refine⟨beh_in h,fun b y hy=>?_,fun b c hc=>?_,fun b c hc=>?_,fun b=>?_⟩
 .have:=M b y hy;exact⟨fun r hr=>by have:=this.rd r hr;omega,by have:=this.wr;omega⟩
 .have J:=beh_in h b c hc;have hx:=aM J.2;intro r hr;obtain⟨y,hy,rfl⟩:=List.mem_map.1 hr;rw[Kq hx] at hy;obtain⟨e1,e2⟩:=h.akL hx hy;rw[bl];cases e:y.args[(nX (fun z=>(b:Int)==z) (Iq f c.toNat)).toNat]? with
  |none=>simp
  |some v=>
   have:=e2 v (bU e);simp only[Option.getD_some];omega
 .show G6 _ _<1216
  have hb:b<f.blocks.length:=by
   rcases Nat.lt_or_ge b f.blocks.length with g|g
   .exact g
   .have hc:c∈aA (bI f) b:=hc;rw[GG g] at hc;simp at hc
  have:=(C b hb).wr;show G6 (vu f b).fin c<1216;unfold G6;split<;>omega
 .intro r hr;have hr:r∈cK (vu f b).fin:=hr;rcases Nat.lt_or_ge b f.blocks.length with g|g
  .have:=(C b g).rd r hr;omega
  .rw[Qk g] at hr;simp[ki,cK,aU] at hr
theorem ord_in{f:aG}(h:qR f):∀ b∈akM f,0<=b/\b.toNat<f.blocks.length:=fun b hb=>by
 have C:=h.pos;have hb:=(JY (beh_in h) C).1 (List.mem_reverse.1 hb);refine⟨hb.1,?_⟩;have hl:=wg (w:= -1) (beh_in h) C;rcases Nat.lt_or_ge b.toNat f.blocks.length with g|g
 .exact g
 .rw[bl,List.getElem?_eq_none oG] at hb;simp at hb
theorem RN{f:aG}(C:dG f≠0):PCall prog 51 [.agg (aH f)] (.tup [.s (.pointer none),I (dG f)]):=by
 have zS:=zS (f:=f);generalize dG f=e at zS C;have du:(e !=0)=true:=by simpa using C
 refine bg MZ (.cons (.agg (iq f)) .nil) (.tup (.cons (.s _) (.cons (.s _) .nil))) ?_;rw[W5];refine az (aq ?_);refine af (aW (bG [(0,aH f,26)] eH (l:=[(1,.pt (aH f))]) eH) (aB (aj (SS ?_))));refine cl zS (SS ?_);refine af (aB (aj (ag ?_)));refine af (dN (aB (aj (aq ?_))));exact af (bX (fj rfl rfl rfl))
end Go.Proofs.Tryz.K
end
namespace Go.Argus
open Go Go.Abs
open Go.Proofs.Tryz.K (nextR lg_ok beh_in ord_in)
theorem Bx:∀ {n:Nat} {l:List Int},l.Nodup->(∀ x∈l,0<=x/\x.toNat<n)->l.length<=n
 |0,l,_,h=>by
  cases l with
  |nil=>simp
  |cons a l=>have:=h a oS;omega
 |n+1,l,hd,h=>by
  by_cases hm:(n:Int)∈l
  .have h1:=Bx (n:=n) (l:=l.erase n) (hd.erase _) fun x hx=>by
    have C:=(hd.mem_erase_iff).1 hx;have:=h x C.2;have:=C.1;omega
   rw[List.length_erase_of_mem hm] at h1;omega
  .have h1:=Bx (n:=n) (l:=l) hd fun x hx=>by
    have:=h x hx;have:x≠n:=fun e=>hm (e▸hx);omega
   omega
end Go.Argus
section
open Go Go.Abs Go.Proofs Go.Argus
namespace Go.Abs
section
variable{P:Program}{m:Mem}{nx:Nat}
def tF(P:Program)(f:FuncId)(args:List D)(cN:D->Prop):Prop:=
 enterOk P f=true/\(∀ a∈args,Tr a)/\∀ F w vs,(∀ b,F b->b<w.heap.size)->Rs F noRows w args vs->
  Calls P f vs w fun e w'=>∃ v r,cN r/\e=.returned v/\R F noRows w' r v/\Kept w w'
theorem aa8{fn:Func}(J:P.follows .mixedOrders=true){f:FuncId}{c:Code}(hf:m7 P f fn c){args:List D}(hn:Nat.ble args.length fn.ntmps=true)(ht:∀ a∈args,Tr a){cN:D->Prop}(hr:∀ r,cN r->Tr r)
 (h:AW P noY true c (retQ P fn.results.toList fun d _=>cN d) ⟨envOf args,fun _=>none,0⟩):tF P f args cN:=
 ⟨hf.he,ht,fun F w vs hF hR=>(BA J hf.hf hf.hb hf.ao hn h (fun _ _ _ _ _ h=>h.elim) (Gz hF) (fun _ _=>rfl) hR).mono fun e w' hp=>by
  obtain⟨v,d,st',β',h1,hd,h3,h4,h5,C,M,h8⟩:=hp
  exact⟨v,d,hd,h1,(hr d hd).B9 h3,Gl C⟩⟩
theorem ZP{f:FuncId}{args:List D}{cN:D->Prop}(hc:tF P f args cN):ACalls P f args m nx (fun d m' nx'=>cN d/\m'=m/\nx'=nx):=
 ⟨hc.1,fun F β w vs hm C hR=>(hc.2.2 (owned F β) w vs (fun b hb=>owned_lt hm hb) ⟨hR.1,fun k d v hd hv=>hc.2.1 d (bU hd) F β w v (hR.2 k d v hd hv)⟩).mono
  fun e w' ⟨v,r,hp,he,hr,hk⟩=>⟨v,r,m,nx,β,he,⟨hp,rfl,rfl⟩,hm.kept hk,C,hr.lift fun b hb=>owned_free hb,kept_step hk,bF _,fun i _ h=>h⟩⟩
end
theorem Ts{id i:Nat}{Q:Exit->St->Prop}{s:St}(C:i≠id)(h:Q (.exit i) s):blockQ id Q (.exit i) s:=by simp only[blockQ,if_neg C];exact h
end Go.Abs
namespace Go.Proofs.Tryz.K
theorem NP{f:FuncId}{fn:Func}{c:Code}(hf:m7 Tryz.prog f fn c){args:List D}(ht:∀ a∈args,Tr a){cN:D->Prop}(hr:∀ r,cN r->Tr r)(h:AW Tryz.prog noY true c (retQ Tryz.prog fn.results.toList fun d _=>cN d) ⟨envOf args,fun _=>none,0⟩)(hn:Nat.ble args.length fn.ntmps=true:=by kernel_rfl):tF Tryz.prog f args cN:=aa8 mixed hf hn ht hr h
end Go.Proofs.Tryz.K
namespace Go.Argus
def TA(f:aG)(b r:Int):Prop:=nF f.blocks.length b=true/\0<=r/\r<f.al.length
instance(f:aG)(b r:Int):Decidable (TA f b r):=by unfold TA;infer_instance
theorem hd9:∀ a b c d e f g h i:Bool,(if(if(if(if(if(if(if a=true then b else false)=true then true else c)=true then true else(if d=true then e else false))=true then true else f)=true then true else g)=true then true else h)=true then true else i)=((a&&b)||(c||((d&&e)||(f||(g||(h||i)))))):=by decide
theorem akO:∀ a b c d e:Bool,(if(if(if(if a=true then true else b)=true then true else c)=true then true else d)=true then true else e)=(a||(b||(c||(d||e)))):=by decide
def Cv(l:List Int)(n:Int):Bool:=l.any fun y=>y==n
theorem ab4{l:List Int}{x:Int}:Cv l x=true↔x∈l:=by simp[Cv]
def CD(f:aG):Bool:=(decide (24<(f.blocks.length:Int))&&decide ((f.blocks.length:Int)<=1200))||(decide (1210<(f.blocks.length:Int))||((decide (14<(f.al.length:Int))&&decide ((f.al.length:Int)<=1200))||(decide (1210<(f.al.length:Int))||(decide (130<(f.name.size:Int))||(decide (70<(f.aZ.length:Int))||decide (10<(f.signals.length:Int)))))))
def tG(b:b7):Bool:=decide (12<(b.ins.length:Int))||(decide (8<(b.fin.aL.length:Int))||(decide (10<(b.fin.args.length:Int))||(decide (130<(b.fin.name.size:Int))||decide (10<(b.fin.ins.args.length:Int)))))
def tH(y:bE):Bool:=decide (26<(y.args.length:Int))
def sI(f:aG):Bool:= !(CD f)&&(f.signals.all (fun s=> !(decide (20<(s.size:Int))))&&f.blocks.all (fun b=> !(tG b)&&b.ins.all fun y=> !(tH y)))
theorem aol{f:aG}(h:sI f=true):f.blocks.length<=24\/1200<f.blocks.length:=by
 unfold sI CD at h;simp only[aO,Bool.not_eq_true',Bool.or_eq_false_iff] at h;have h1:=h.1.1;by_cases h2:24<f.blocks.length
 .by_cases h3:f.blocks.length<=1200
  .simp at h1;omega
  .omega
 .omega
def allI(cnt:List Bool)(k:Nat):List Int:=((range k).filter fun i=>cnt.getD i false).map fun(i:Nat)=>(i:Int)
theorem JZ(cnt:List Bool)(k:Nat):allI cnt (k+1)=if cnt.getD k false=true then allI cnt k++[(k:Int)] else allI cnt k:=by
 unfold allI;rw[List.range_succ,List.filter_append,List.map_append];by_cases h:cnt.getD k false=true
 .rw[if_pos h,List.filter_cons_of_pos (by exact h)];rfl
 .rw[if_neg h,List.filter_cons_of_neg (by exact h),List.filter_nil,List.map_nil,List.append_nil]
theorem Rc(cnt:List Bool):∀ {k n:Nat},k<=n->∃ t,allI cnt n=allI cnt k++t
 |k,0,h=>by
  have:k=0:=by omega
  subst this;exact⟨[],oS⟩
 |k,n+1,h=>by
  rcases Nat.lt_or_ge k (n+1) with g|g
  .obtain⟨t,ht⟩:=Rc cnt (k:=k) (n:=n) oG;rw[JZ];split
   .exact⟨t++[(n:Int)],by rw[ht,List.append_assoc]⟩
   .exact⟨t,ht⟩
  .have:k=n+1:=by omega
   subst this;exact⟨[],oS⟩
theorem adV{cnt:List Bool}{k n:Nat}(hk:k<n)(hc:cnt.getD k false=true):(allI cnt n)[(allI cnt k).length]? =some (k:Int):=by
 obtain⟨t,ht⟩:=Rc cnt (k:=k+1) (n:=n) oG;rw[ht,JZ,if_pos hc,List.append_assoc,List.getElem?_append_right (bF _),Nat.sub_self];rfl
def E'(k a to gD:Int)(x:bE):End:=⟨k,a,0,to,gD,⟨#[]⟩,x,[],[], -1⟩
def rk:aG:=⟨⟨#[115,117,109]⟩,false,1,1,[1,1,1],[],[],[⟨[⟨1,1,0,0,0,[]⟩],E' 1 0 1 0 eB⟩,⟨[],E' 2 0 2 3 eB⟩,⟨[⟨1,2,0,0, -1,[]⟩],E' 5 0 4 0 ⟨30,1,1,0,0,[]⟩⟩,⟨[],E' 3 1 0 0 eB⟩,⟨[],E' 5 0 1 0 ⟨30,0,0,2,0,[]⟩⟩]⟩
def xm:List D:=bA rk [[1],[2,3],[4],[],[1]] [[],[0,4],[1],[1],[2]] (dv [true,true,true,true,true])
end Go.Argus
namespace Go.Proofs.Tryz.K
theorem Dg{f:aG}:PCall prog 15 [.agg (aH f)] (B (sI f)):=by
 have a7:∀ a∈[D.agg (aH f)],Tr a:=.cons (.agg (iq f)) .nil;refine bg akP a7 (Tr.s _) ?_;rw[akQ];refine az (ag ?_);refine af (aW (bG [(0,aH f,26)] eH (l:=[(1,.pt (aH f))]) eH) (aB (az (aJ ?_))));refine aJ ?_;refine aJ ?_;refine bK ?_;refine ag ?_;refine bt rfl rfl (Ld rfl) (fun hc=>⟨ak,V.h⟩) (aJ ?_);refine aN ?_;have hd:CD f=_:=(hd9 (decide (24<(f.blocks.length:Int))) (decide ((f.blocks.length:Int)<=1200)) (decide (1210<(f.blocks.length:Int))) (decide (14<(f.al.length:Int))) (decide ((f.al.length:Int)<=1200)) (decide (1210<(f.al.length:Int))) (decide (130<(f.name.size:Int))) (decide (70<(f.aZ.length:Int))) (decide (10<(f.signals.length:Int)))).symm;refine af ⟨_,.refl _,cx rfl (fun h=>?_) fun h=>bP (aB (az ?_))⟩
 .have h1:CD f=true:=hd.trans h;refine aB (aj (SS ?_));refine af (bX (av (d:=B false) rfl ?_));rw[sI,h1];rfl
 have h1:CD f=false:=hd.trans h;clear hd h
 have aot:f.blocks.length<=100000/\f.signals.length<=100000:=by
  unfold CD at h1;simp only[Bool.or_eq_false_iff,decide_eq_false_iff_not] at h1;omega
 refine SS ?_
 refine af (bR (fun s=>Ghost prog s ⟨aD [(1,.pt (aH f))],fun _=>none,1⟩/\f.signals.all (fun s=> !(decide (20<(s.size:Int))))=true) (cQ (α:=Nat) (fun k=>⟨aD [(1,.pt (aH f)),(3,I k)],fun _=>none,1⟩)
  (fun k=>k<=f.signals.length/\(f.signals.take k).all (fun s=> !(decide (20<(s.size:Int))))=true) (fun k=>f.signals.length - k) 0 (ap eH) ⟨oG,rfl⟩ ?_) ?_)
 .rintro k ⟨hk,hinv⟩;refine aN ?_;refine af ⟨_,rfl,fun h=>?_,fun h=>?_⟩
  .have ao:k<f.signals.length:=by simpa using h
   have hx:f.signals[k]? =some f.signals[k]:=by simp[ao]
   have J:f.signals[k]∈f.signals:=cy _;generalize f.signals[k]=x at hx J;refine ws (dz ?_);refine af (aw rfl (fun hp=>?_) fun hp=>?_)
   .refine ws (SS ?_);refine af (aY (br (aR (av (d:=B false) rfl ?_))))
    have:f.signals.all (fun s=> !(decide (20<(s.size:Int))))=false:=by
     refine Bool.eq_false_iff.2 fun ht=>?_;have:=bj.1 ht x J;rw[hp] at this;cases this
    rw[sI,this];simp
   .refine bS (aq ?_);refine af (aK (k+1) (ap eH) ⟨oG,?_⟩ oG);rw[List.take_add_one,hx,List.all_append,hinv];show(true&&(!(decide (20<(x.size:Int)))&&true))=true;rw[hp];rfl
  .have X:¬ k<f.signals.length:=by simpa using h
   rw[df oG] at hinv;exact⟨ap eH,hinv⟩
 rintro s ⟨hg,W6⟩;refine⟨_,hg,aB (az ?_)⟩;refine SS ?_
 refine af (bR (fun s=>(∃ nx,Ghost prog s ⟨aD [],fun _=>none,nx⟩)/\f.blocks.all (fun b=> !(tG b)&&b.ins.all fun y=> !(tH y))=true) (cQ (α:=Nat×Nat) (fun k=>⟨aD [(1,.pt (aH f)),(4,I k.1)],fun _=>none,k.2⟩)
  (fun k=>k.1<=f.blocks.length/\(f.blocks.take k.1).all (fun b=> !(tG b)&&b.ins.all fun y=> !(tH y))=true) (fun k=>f.blocks.length - k.1) (0,1) (ap eH) ⟨Nat.zero_le _,rfl⟩ ?_) ?_)
 .rintro⟨k,nx⟩ ⟨hk,hinv⟩;dsimp only at hk hinv ⊢;refine aN ?_;refine af ⟨_,rfl,fun h=>?_,fun h=>?_⟩
  .have ao:k<f.blocks.length:=by simpa using h
   have hx:f.blocks[k]? =some f.blocks[k]:=by simp[ao]
   have J:f.blocks[k]∈f.blocks:=cy _;generalize f.blocks[k]=x at hx J
   have C:(!(tG x)&&x.ins.all fun y=> !(tH y))=false->sI f=false:=fun hb=>by
    have:f.blocks.all (fun b=> !(tG b)&&b.ins.all fun y=> !(tH y))=false:=by
     refine Bool.eq_false_iff.2 fun ht=>?_;have:=bj.1 ht x J;rw[hb] at this;cases this
    rw[sI,this];simp
   refine az (dz ?_);refine af (aW (uM (i:=nx) (l:=[(1,.pt (aH f)),(4,I k),(5,.pt (fH x))]) (up_same _ _ _) ⟨rfl,rfl,oX,trivial⟩) (aB (aj (aJ ?_))));refine aJ ?_;refine aP ?_;refine bt rfl rfl (Ld rfl) (fun hc=>⟨ak,V.h⟩) (bK ?_);refine ag ?_;have hd:tG x=_:=(akO (decide (12<(x.ins.length:Int))) (decide (8<(x.fin.aL.length:Int))) (decide (10<(x.fin.args.length:Int))) (decide (130<(x.fin.name.size:Int))) (decide (10<(x.fin.ins.args.length:Int)))).symm;refine af (cx rfl (fun h=>?_) fun h=>bP (az ?_))
   .have hb:tG x=true:=hd.trans h;refine aB (aj (SS ?_));refine af (bX (br (aR (av (d:=B false) rfl ?_))));rw[C (by rw[hb];rfl)]
   .have hb:tG x=false:=hd.trans h;clear hd h
    have fX:x.ins.length<=100000:=by
     unfold tG at hb;simp only[Bool.or_eq_false_iff,decide_eq_false_iff_not] at hb;omega
    refine SS ?_
    refine af (cQ (α:=Nat) (fun j=>⟨aD [(1,.pt (aH f)),(4,I k),(5,.pt (fH x)),(6,I j)],fun _=>none,nx+1⟩)
     (fun j=>j<=x.ins.length/\(x.ins.take j).all (fun y=> !(tH y))=true) (fun j=>x.ins.length - j) 0 (ap eH) ⟨Nat.zero_le _,rfl⟩ ?_)
    rintro j ⟨hj,M⟩;refine aN ?_;refine af ⟨_,rfl,fun h=>?_,fun h=>?_⟩
    .have cV:j<x.ins.length:=by simpa using h
     have hy:x.ins[j]? =some x.ins[j]:=by simp[cV]
     have xX:x.ins[j]∈x.ins:=cy _;generalize x.ins[j]=y at hy xX;refine ws (bK ?_);refine af (aw rfl (fun hp=>?_) fun hp=>?_)
     .have hp:tH y=true:=hp;refine ws (SS ?_);refine af (aY (br (br (aR (av (d:=B false) rfl ?_)))));rw[C]
      have:x.ins.all (fun y=> !(tH y))=false:=by
       refine Bool.eq_false_iff.2 fun ht=>?_;have:=bj.1 ht y xX;rw[hp] at this;cases this
      rw[this];simp
     .have hp:tH y=false:=hp;refine bS (aq ?_);refine af (aK (j+1) (ap eH) ⟨oG,?_⟩ oG);rw[List.take_add_one,hy,List.all_append,M];show(true&&(!(tH y)&&true))=true;rw[hp];rfl
    .have X:¬ j<x.ins.length:=by simpa using h
     rw[df oG] at M;show AOps _ _ _ _ _ _ _ _ _;refine aq ?_;refine af (aK (k+1,nx+1) (ap eH) ⟨oM,?_⟩ oM);dsimp only;rw[List.take_add_one,hx,List.all_append,hinv];show(true&&((!(tG x)&&x.ins.all fun y=> !(tH y))&&true))=true;rw[hb,M];rfl
  .have X:¬ k<f.blocks.length:=by simpa using h
   rw[df oG] at hinv;exact⟨⟨nx,ap trivial⟩,hinv⟩
 rintro s ⟨⟨nx,hg⟩,bC⟩;refine⟨_,hg,aj ?_⟩;refine SS ?_;refine af (av (d:=B true) rfl ?_);rw[sI,h1,W6,bC];rfl
theorem xV{f:aG}{beh ahd:List (List Int)}{cnt:List Bool}(hlen:cnt.length<=100000):SeqA prog 61 [.pt (bA f beh ahd (dv cnt))] [] ((allI cnt cnt.length).map fun n=>[I n]):=by
 refine Le mixed W7 kr fun L M Stop m nx hI X h0=>?_;rw[akR];refine az (bB ?_)
 refine af (dV (α:=Nat×Mem×Nat) (fun k=>⟨aD [(1,.fn (.yield L) [] []),(9,dv cnt),(10,I cnt.length),(11,I k.1)],k.2.1,k.2.2⟩)
  (fun k=>k.1<=cnt.length/\M (allI cnt k.1).length k.2.1 k.2.2) (fun k=>cnt.length - k.1) (0,m,nx) (ap eH) ⟨Nat.zero_le _,h0⟩ ?_)
 rintro⟨k,m,nx⟩ ⟨hk,C⟩;dsimp only at hk C ⊢;refine SS ?_;refine af ⟨_,rfl,fun h=>?_,fun h=>?_⟩
 .have ao:k<cnt.length:=by simpa using h
  have hx:cnt[k]? =some cnt[k]:=aM ao;have hg:cnt.getD k false=cnt[k]:=getD_some hx;have hs:=JZ cnt k
  have J:cnt.getD k false=true->((allI cnt cnt.length).map fun n=>[I n])[(allI cnt k).length]? =some [I k]:=fun h=>by
   rw[List.getElem?_map,adV ao h];rfl
  rw[hg] at hs J;generalize cnt[k]=c at hx hs J;refine ws (aN ?_);refine er ?_;cases c with
  |false=>
   refine ag ?_;(iterate 4 refine z fun _ _=>?_);refine SS ?_;refine af (gR (bS (ag ?_)));refine af (aK (k+1,m,nx) (ap eH) ⟨oM,?_⟩ oM);dsimp only;rw[hs];exact C
  |true=>
   refine aP ?_;refine HN rfl rfl rfl rfl cv ⟨rfl,_,J rfl,C,fun d m' nx' hp=>?_⟩;rcases hp with⟨rfl,hp⟩|⟨rfl,hp⟩
   .refine ag ?_;refine af (gR (bS (ag ?_)));refine af (aK (k+1,m',nx') (ap eH) ⟨oM,?_⟩ oM);dsimp only;rw[hs,if_pos rfl,List.length_append];exact hp
   .refine ag ?_;exact af (gH (aY (br (wE (.inr hp)))))
 .have a9:¬ k<cnt.length:=by simpa using h
  have:k=cnt.length:=by omega
  subst this;exact qN (.inl (by rw[List.length_map];exact C))
end Go.Proofs.Tryz.K
namespace Go.Abs
def FJ:Value->Value->Bool
 | .int k n,.int k' n'=>decide (k=k')&&decide (n=n')
 | .bool a,.bool b=>a==b
 | .string a,.string b=>decide (a=b)
 |_,_=>false
theorem TB{a b:Value}(h:FJ a b=true):a=b:=by
 unfold FJ at h;split at h
 .rw[aO,decide_eq_true_eq,decide_eq_true_eq] at h;rw[h.1,h.2]
 .rw[show _=_ from eq_of_beq h]
 .rw[of_decide_eq_true h]
 .cases h
def lB(g:D->D->Bool):List D->List D->Bool
 |[],[]=>true
 |a::xs,b::bs=>g a b&&lB g xs bs
 |_,_=>false
def sV:Nat->D->D->Bool
 |0,_,_=>false
 |_+1,.s a,.s b=>FJ a b
 |_+1,.z,.z=>true
 |_+1,.sl [] 0,.z=>true
 |k+1,.agg a,.agg b=>lB (sV k) a b
 |k+1,.tup a,.tup b=>lB (sV k) a b
 |k+1,.sl a n,.sl b m=>Nat.beq n m&&lB (sV k) a b
 |k+1,.pt a,.pt b=>lB (sV k) a b
 |_+1,_,_=>false
theorem Aa{g:D->D->Bool}:∀ {xs bs:List D},lB g xs bs=true->xs.length=bs.length/\∀ (k:Nat) a,xs[k]? =some a->∃ b,bs[k]? =some b/\g a b=true
 |[],[],_=>⟨rfl,fun k a h=>by simp at h⟩
 |a::xs,b::bs,h=>by
  simp only[lB,aO] at h;obtain⟨h1,h2⟩:=Aa h.2;refine⟨by simp[h1],fun k x hx=>?_⟩;cases k with
  |zero=>simp at hx;subst hx;exact⟨b,rfl,h.1⟩
  |succ k=>exact h2 k x (by simpa using hx)
 |[],_::_,h=>by simp[lB] at h
 |_::_,[],h=>by simp[lB] at h
theorem Ck{F:Nat->Prop}{β:Pla}{w:World}:∀ (k:Nat) {a b:D} {v:Value},sV k a b=true->R F β w b v->R F β w a v
 |0,a,b,v,h,_=>by simp[sV] at h
 |k+1,a,b,v,h,hv=>by
  unfold sV at h;split at h
  .cases h
  .rename_i e;rw[TB h];exact hv
  .exact hv
  .obtain⟨x,rfl⟩:=hv.z_inv;exact .sln x 0
  .rename_i a b e;cases e;obtain⟨h1,h2⟩:=Aa h;cases hv with
   |agg _ vs hl hh=>
    refine .agg _ vs oG fun j d u hd hu=>?_;obtain⟨C,hb,hg⟩:=h2 j d hd;exact Ck k hg (hh j C u hb hu)
  .rename_i a b e;cases e;obtain⟨h1,h2⟩:=Aa h;cases hv with
   |tup _ vs hl hh=>
    refine .tup _ vs oG fun j d u hd hu=>?_;obtain⟨C,hb,hg⟩:=h2 j d hd;exact Ck k hg (hh j C u hb hu)
  .rename_i a n b m e;cases e;rw[aO] at h;have Dn:n=m:=Nat.eq_of_beq_eq_true h.1;obtain⟨h1,h2⟩:=Aa h.2;subst Dn;cases hv with
   |sln a' cap=>
    have:a=[]:=List.length_eq_zero_iff.1 (by simpa using h1);subst this;exact .sln _ _
   |sl _ _ C o cap us J M X g4 g5 g6 g7=>
    refine .sl _ _ C o cap us J M X g4 g5 (fun j hj=>g6 j oG) fun j d hd=>?_;obtain⟨d',hb,hg⟩:=h2 j d hd;exact Ck k hg (g7 j d' hb)
  .rename_i a b e;cases e;obtain⟨h1,h2⟩:=Aa h;cases hv with
   |pt _ C o us J M X g6 g7=>
    refine .pt _ C o us J M X (fun j hj=>g6 j oG) fun j d hd=>?_;obtain⟨d',hb,hg⟩:=h2 j d hd;exact Ck k hg (g7 j d' hb)
  .cases h
theorem PG{P:Program}{f:FuncId}{args args':List D}{r:D}{k:Nat}(hc:PCall P f args' r)(h:lB (sV k) args' args=true)(ht:∀ a∈args,Tr a):PCall P f args r:=by
 obtain⟨h1,h2⟩:=Aa h;refine⟨hc.1,ht,fun F w vs hF hR=>hc.2.2 F w vs hF ⟨by rw[hR.1,h1],fun j d v hd hv=>?_⟩⟩;obtain⟨b,hb,hg⟩:=h2 j d hd;exact Ck k hg (hR.2 j b v hb hv)
theorem acB{P:Program}{f:FuncId}{fs C:List D}{xs:List (List D)}{k:Nat}(hc:SeqA P f C [] xs)(h:lB (sV k) C fs=true):SeqA P f fs [] xs:=by
 obtain⟨h1,h2⟩:=Aa h;refine⟨hc.1,fun F l I Stop m nx β w vs J hS hm hn hR hy h0=>hc.2 F l I Stop m nx β w vs J hS hm hn ⟨?_,fun j d v hd hv=>?_⟩ hy h0⟩
 .have:=hR.1;simp only[List.length_append] at this ⊢;omega
 .rcases Nat.lt_or_ge j C.length with g|g
  .rw[List.append_nil,List.getElem?_append_left g] at hd;obtain⟨b,hb,hg⟩:=h2 j d hd;exact Ck k hg (hR.2 j b v (by rw[List.append_nil,List.getElem?_append_left oG];exact hb) hv)
  .rw[List.append_nil,List.getElem?_append_right g] at hd;exact hR.2 j d v (by rw[List.append_nil,List.getElem?_append_right oG, <- h1];exact hd) hv
def HC(t:List (FuncId×List D×D))(f:FuncId)(args:List D):Option D:=(t.find? fun x=>Nat.beq x.1 f&&(lB (sV 20) x.2.1 args&&args.all (rD depth))).map (·.2.2)
def HX(t:List (FuncId×List D×List (List D)))(f:FuncId)(fs cs:List D):Option (List (List D)):=match cs with
 |[]=>(t.find? fun x=>Nat.beq x.1 f&&lB (sV 20) x.2.1 fs).map (·.2.2)
 |_=>none
theorem Qm{P:Program}{t:List (FuncId×List D×D)}(h:∀ x∈t,PCall P x.1 x.2.1 x.2.2){f:FuncId}{args:List D}{r:D}(hr:HC t f args=some r):PCall P f args r:=by
 unfold HC at hr;rw[dw] at hr;obtain⟨x,hx,rfl⟩:=hr;have h1:=List.find?_some hx;rw[aO,aO] at h1;have hf:x.1=f:=Nat.eq_of_beq_eq_true h1.1;have:=h x (List.mem_of_find?_eq_some hx);rw[hf] at this;exact PG this h1.2.1 fun a ha=>qO (bj.1 h1.2.2 a ha)
theorem Q9{P:Program}{t:List (FuncId×List D×List (List D))}(h:∀ x∈t,SeqA P x.1 x.2.1 [] x.2.2/\∀ y∈x.2.2,∀ d∈y,Tr d){f:FuncId}{fs cs:List D}{xs:List (List D)}(hr:HX t f fs cs=some xs):SeqA P f fs cs xs/\∀ y∈xs,∀ d∈y,Tr d:=by
 unfold HX at hr;split at hr
 .rw[dw] at hr;obtain⟨x,hx,rfl⟩:=hr;have h1:=List.find?_some hx;rw[aO] at h1;have hf:x.1=f:=Nat.eq_of_beq_eq_true h1.1;have h2:=h x (List.mem_of_find?_eq_some hx);rw[hf] at h2;exact⟨acB h2.1 h1.2,h2.2⟩
 .cases hr
def Dp:Nat->D->D->Bool
 |0,_,_=>false
 |_+1,.s a,.s b=>FJ a b
 |_+1,.z,.z=>true
 |k+1,.sl a n,.sl b m=>Nat.beq n m&&lB (Dp k) a b
 |_+1,_,_=>false
theorem RZ{g:D->D->Bool}(hg:∀ a b,g a b=true->a=b):∀ {xs bs:List D},lB g xs bs=true->xs=bs
 |[],[],_=>rfl
 |a::xs,b::bs,h=>by
  simp only[lB,aO] at h;rw[hg a b h.1,RZ hg h.2]
 |[],_::_,h=>by simp[lB] at h
 |_::_,[],h=>by simp[lB] at h
theorem ae5:∀ (k:Nat) (a b:D),Dp k a b=true->a=b:=fun k=>by
 induction k with
 |zero=>exact fun a b h=>by simp[Dp] at h
 |succ k ih=>
  intro a b h;cases a<;>cases b<;>simp only[Dp,aO,reduceCtorEq,Bool.false_eq_true] at h ⊢
  .rw[TB h]
  .rw[Nat.eq_of_beq_eq_true h.1,RZ ih h.2]
def Eu:Nat->Code->List Code
 |k+1,.seq a b=>a::Eu k b
 |_,_=>[]
def HY:Nat->Code->Code
 |k+1,.seq a b=>HY k b
 |_,c=>c
theorem parts_eq:∀ (k:Nat) (c:Code),c=(Eu k c).foldr .seq (HY k c)
 |0,c=>by cases c<;>rfl
 |k+1,c=>by
  cases c with
  |seq a b=>
   show Code.seq a b=.seq a ((Eu k b).foldr .seq (HY k b));rw[<- parts_eq k b]
  |_=>rfl
def Ev(C:Bool->Code->cB->Option (Exit×cB)):List Code->cB->Option cB
 |[],s=>some s
 |c::cs,s=>match C true c s with
  |some (.normal,s')=>Ev C cs s'
  |_=>none
theorem Qn{P:Program}{M:Bool->Code->cB->Option (Exit×cB)}(C:Ct P M){B:Code}{Q:Exit->St->Prop}:∀ {cs:List Code} {c:Code} {s s':cB},Ev M (c::cs) s=some s'->(∃ st',Ghost P s'.st st'/\AW P noY true B Q st')->AW P noY true ((c::cs).foldr .seq B) Q s.st
 |[],c,s,s',h,k=>by
  simp only[Ev] at h;split at h
  .rename_i J he;cases h;exact eI (fun st=>st=s'.st) (C _ _ _ _ _ he _ rfl) fun st e=>e▸k
  .cases h
 |d::cs,c,s,s',h,k=>by
  rw[Ev] at h;split at h
  .rename_i J he;exact eI (fun st=>st=J.st) (C _ _ _ _ _ he _ rfl) fun st e=>⟨J.st,e▸ .refl _,Qn C h k⟩
  .cases h
section
variable{P:Program}{env:Env}{m:Mem}{nx:Nat}{x y:Operand}{t p:TypeId}{n n':Int}
variable{Y:YSpec}{rf:Bool}{Q:Exit->St->Prop}{st:St}{id iD i1:Nat}{rc:Array Oper}{body:Code}{α:Type}{cf:List (Nat×Nat)}{u:Nat}
end
theorem so{P:Program}{Y:YSpec}{rf:Bool}{b:Code}{Q:Exit->St->Prop}{env:Env}{m:Mem}{nx:Nat}{l:List (Nat×D)}(he:jM l env)(K:∀ M,M=m->AW P Y rf b Q ⟨aD l,M,nx⟩):
 ∃ st',Ghost P ⟨env,m,nx⟩ st'/\AW P Y rf b Q st':=⟨_,ap he,K m rfl⟩
end Go.Abs
namespace Go.Proofs.Tryz.K
set_option maxRecDepth 100000
theorem aa9:dG rk=0:=kr
theorem aa':wF rk=xm:=kr
end Go.Proofs.Tryz.K
namespace Go.Argus
def Vh(n:Int):List Int:=n::replicate 18 0
def Vi:D:=.sl (cY ([1,3,3,2,7].map Vh)) 5
def TC:D:=.sl (cY ([3,3,7,2,7].map Vh)) 5
def Et:List (List D):=[[I 0],[I 1],[I 2],[I 3],[I 4]]
def W8:List (List bE):=[[],[⟨1,1,0,0,0,[]⟩],[⟨1,2,0,0, -1,[]⟩]]
def M0(f:FuncId)(fs cs:List D):Option (List (List D)):=match HX [(61,[.pt xm],Et)] f fs cs with
 |some x=>some x
 |none=>match fs,cs with
  |[],[.pt [e]]=>if Nat.beq f 176 then(W8.find? fun l=>Dp 10 (iF l) e).map yY else none
  |_,_=>none
def Ew:D:=.sl [.z,.sl [I 1] 1,.sl [I 1] 1,.z,.sl [I 1] 1] 5
end Go.Argus
namespace Go.Proofs.Tryz.K
set_option maxRecDepth 100000
theorem Vj:PCall prog 51 [.agg (aH rk)] (.tup [.pt xm,I 0]):=by
 have h:=HA aa9;rw[aa'] at h;exact h
theorem Vk:SeqA prog 61 [.pt xm] [] Et:=xV (f:=rk) (cnt:=[true,true,true,true,true]) oC
theorem acC{l:List bE}{y:List D}{d:D}(hy:y∈yY l)(hd:d∈y):Tr d:=by
 unfold yY at hy;rw[List.mem_map] at hy;obtain⟨i,_,rfl⟩:=hy;simp only[List.mem_cons,List.not_mem_nil,or_false] at hd;rcases hd with rfl|rfl
 .exact .s _
 .exact .agg (r8 _)
theorem adW{f:FuncId}{fs cs:List D}{xs:List (List D)}(h:M0 f fs cs=some xs):SeqA prog f fs cs xs/\∀ y∈xs,∀ d∈y,Tr d:=by
 unfold M0 at h;split at h
 .rename_i x hx;cases h
  exact Q9 (fun x hx=>by
   simp only[List.mem_singleton] at hx;subst hx;refine⟨Vk,fun y hy d hd=>?_⟩;simp only[Et,List.mem_cons,List.not_mem_nil,or_false] at hy
   rcases hy with rfl|rfl|rfl|rfl|rfl<;>(simp only[List.mem_singleton] at hd;subst hd;exact .s _)) hx
 .rename_i hn;clear hn;split at h
  .rename_i e;split at h
   .rename_i hf;rw[dw] at h;obtain⟨l,hl,rfl⟩:=h;have hm:=List.mem_of_find?_eq_some hl;have he:=ae5 10 _ _ (List.find?_some (p:=fun l=>Dp 10 (iF l) e) hl);subst he;have hf:f=176:=Nat.eq_of_beq_eq_true hf;subst hf
    have hlen:l.length<=100000:=by
     simp only[W8,List.mem_cons,List.not_mem_nil,or_false] at hm;rcases hm with rfl|rfl|rfl<;>decide
    refine⟨akG hlen,fun y hy d hd=>?_⟩;exact acC hy hd
   .cases h
  .cases h
noncomputable def Ym:Ctx:=⟨fun f=>EZ.get f,M0,HC [(51,[.agg (aH rk)],.tup [.pt xm,I 0])]⟩
theorem TD:Ym.Ok prog:=⟨mixed,Lj,fun _ _ _ _ h=>adW h,
 fun _ _ _ h=>Qm (fun x hx=>by
  simp only[List.mem_singleton] at hx;subst hx
  exact Vj) h⟩
theorem agV:PCall prog 65 [.pt xm] (.tup [Vi,TC]):=lQ TD 1000 rfl kr
end Go.Proofs.Tryz.K
namespace Go.Proofs.Tryz.K
set_option maxRecDepth 100000
open Go.Abs
theorem ae6:HY 6 dQ=.seq (.seq (.region 16 (Z dQ 16) false) (.block 6 (.loop (.seq (.region 17 (Z dQ 17) false) (.seq (.cond (.tmp 83) .skip (.exit 6)) (.seq (.block 7 (.seq (.region 18 (Z dQ 18) false) (.seq (.region 19 (Z dQ 19) false) (.region 20 (Z dQ 20) true)))) (.region 21 (Z dQ 21) false))))))) (.seq (.region 22 (Z dQ 22) false) .ret):=by rw[W9];rfl
def oz:List (Nat×Row):=[(4,.cells [.z,.rs 11 0 1,.rs 9 0 1,.z,.rs 7 0 1] 27),(5,.cells [.rs 4 0 5] 28),(7,.cells [I 1] 3),(9,.cells [I 1] 3),(11,.cells [I 1] 3)]
noncomputable def Yn:Option cB:=match yH 0 [.agg (aH rk)] .leaf with
 |some t=>Ev (AX prog Ym 1000) (Eu 6 dQ) ⟨t,.leaf,0⟩
 |none=>none
theorem f39:(Yn.map fun s=>(dO s.env 7,fD s.mem 4,fD s.mem 5,fD s.mem 7,fD s.mem 9,fD s.mem 11,s.nx))=some (.rp 5 0,some (.cells [.z,.rs 11 0 1,.rs 9 0 1,.z,.rs 7 0 1] 27),some (.cells [.rs 4 0 5] 28),some (.cells [I 1] 3),some (.cells [I 1] 3),some (.cells [I 1] 3),12):=kr
end Go.Proofs.Tryz.K
namespace Go.Proofs.Tryz.K
theorem Xa:PCall prog 89 [.z] (.tup []):=lQ nJ 100 rfl kr
theorem Xb:PCall prog 90 [.z] .z:=lQ nJ 100 rfl kr
theorem w39:AW prog noY true (.seq (.seq (.region 16 (Z dQ 16) false) (.block 6 (.loop (.seq (.region 17 (Z dQ 17) false) (.seq (.cond (.tmp 83) .skip (.exit 6)) (.seq (.block 7 (.seq (.region 18 (Z dQ 18) false) (.seq (.region 19 (Z dQ 19) false) (.region 20 (Z dQ 20) true)))) (.region 21 (Z dQ 21) false))))))) (.seq (.region 22 (Z dQ 22) false) .ret)) (retQ prog [.tmp 2,.tmp 3] fun d _=>d=.tup [Ew,I 0]) ⟨aD [(7,.rp 5 0)],bf oz,12⟩:=by
 refine aB (az (aq ?_));refine af (bR (fun s=>Ghost prog s ⟨aD [(7,.rp 5 0)],bf oz,12⟩) (dV (α:=Nat) (fun k=>⟨aD [(7,.rp 5 0),(81,I 5),(82,I k)],bf oz,12⟩) (fun k=>k<=5) (fun k=>5 - k) 0 (aQ eH eH) (Nat.zero_le _) ?_) ?_)
 .intro k hk;refine SS ?_;refine af ⟨_,rfl,fun h=>?_,fun h=>?_⟩
  .have ao:k<5:=by have h:(k:Int)<5:=by simpa using h
                   omega
   have hc:k=0\/k=3\/k=1\/k=2\/k=4:=by omega
   rcases hc with rfl|rfl|rfl|rfl|rfl
   .have xW:=Xa;have FX:=Xb;refine ws (ag ?_);refine er (aP ?_);refine cl xW (af (pM DC (bB ?_)));refine cl FX (ag ?_);refine a8 bc (ag ?_);exact af (aK (0+1) (aQ eH eH) oG oG)
   .have xW:=Xa;have FX:=Xb;refine ws (ag ?_);refine er (aP ?_);refine cl xW (af (pM DC (bB ?_)));refine cl FX (ag ?_);refine a8 bc (ag ?_);exact af (aK (3+1) (aQ eH eH) oG oG)
   .refine ws (ag ?_);refine af (az (aP ?_));refine kN (xW (i:=11) (l:=[1]) oG rfl rfl oC) rfl cv fun d m' nx' hp=>?_;obtain⟨rfl,rfl,rfl⟩:=hp;refine af (aW (aQ (l:=[(7,.rp 5 0),(12,I 1),(81,I 5),(82,I 1)]) (ml:=oz) eH eH) (pM DC (bB ?_)));refine HW (r:=.rs 11 0 1) (ups:=[(11,some (.cells [I 1] 3))]) (rds:=[11]) (fun C cI J=>?_) (fun i hi=>?_) rfl cv ?_
    .have e:=J 11 oS (by simp[oz,bf]);have e:C 11=some (.cells ([1].map I) 3):=e;refine G7 e Cy.he fun M=>(E2 (d:=[1]) M e rfl oC).mono ?_;rintro r m' nx' ⟨h1,h2,h3⟩;exact⟨h2,h3,h1⟩
    .simp at hi;subst hi;exact⟨oS,by simp[oz,bf]⟩
    show AOps _ _ _ _ _ _ _ ⟨up _ 96 _,up (bf oz) 11 (some (.cells [I 1] 3)),_⟩ _;refine ag ?_;refine a8 bc (ag ?_);exact af (aK (1+1) (aQ eH eH) oG oG)
   .refine ws (ag ?_);refine af (az (aP ?_));refine kN (xW (i:=9) (l:=[1]) oG rfl rfl oC) rfl cv fun d m' nx' hp=>?_;obtain⟨rfl,rfl,rfl⟩:=hp;refine af (aW (aQ (l:=[(7,.rp 5 0),(12,I 2),(81,I 5),(82,I 2)]) (ml:=oz) eH eH) (pM DC (bB ?_)));refine HW (r:=.rs 9 0 1) (ups:=[(9,some (.cells [I 1] 3))]) (rds:=[9]) (fun C cI J=>?_) (fun i hi=>?_) rfl cv ?_
    .have e:=J 9 oS (by simp[oz,bf]);have e:C 9=some (.cells ([1].map I) 3):=e;refine G7 e Cy.he fun M=>(E2 (d:=[1]) M e rfl oC).mono ?_;rintro r m' nx' ⟨h1,h2,h3⟩;exact⟨h2,h3,h1⟩
    .simp at hi;subst hi;exact⟨oS,by simp[oz,bf]⟩
    show AOps _ _ _ _ _ _ _ ⟨up _ 96 _,up (bf oz) 9 (some (.cells [I 1] 3)),_⟩ _;refine ag ?_;refine a8 bc (ag ?_);exact af (aK (2+1) (aQ eH eH) oG oG)
   .refine ws (ag ?_);refine af (az (aP ?_));refine kN (xW (i:=7) (l:=[1]) oG rfl rfl oC) rfl cv fun d m' nx' hp=>?_;obtain⟨rfl,rfl,rfl⟩:=hp;refine af (aW (aQ (l:=[(7,.rp 5 0),(12,I 4),(81,I 5),(82,I 4)]) (ml:=oz) eH eH) (pM DC (bB ?_)));refine HW (r:=.rs 7 0 1) (ups:=[(7,some (.cells [I 1] 3))]) (rds:=[7]) (fun C cI J=>?_) (fun i hi=>?_) rfl cv ?_
    .have e:=J 7 oS (by simp[oz,bf]);have e:C 7=some (.cells ([1].map I) 3):=e;refine G7 e Cy.he fun M=>(E2 (d:=[1]) M e rfl oC).mono ?_;rintro r m' nx' ⟨h1,h2,h3⟩;exact⟨h2,h3,h1⟩
    .simp at hi;subst hi;exact⟨oS,by simp[oz,bf]⟩
    show AOps _ _ _ _ _ _ _ ⟨up _ 96 _,up (bf oz) 7 (some (.cells [I 1] 3)),_⟩ _;refine ag ?_;refine a8 bc (ag ?_);exact af (aK (4+1) (aQ eH eH) oG oG)
  .have X:¬ k<5:=by intro hh;simp at h;omega
   exact aQ eH eH
 .intro s hg;refine⟨_,hg,az ?_⟩;refine aq ?_;refine af (aW (bG [(7,[I 1],3),(9,[I 1],3),(11,[I 1],3),(4,[.z,.sl [I 1] 1,.sl [I 1] 1,.z,.sl [I 1] 1],27)] eH (l:=[(2,Ew),(3,I 0)]) ⟨?_,rfl,trivial⟩) (fj rfl rfl rfl));show sub (fz0 4 _ (prog.cellsOf 27)) (.rs 4 0 5)=_;exact nw (by rw[Bd];rfl)
theorem agW:PCall prog 39 [.agg (aH rk)] (.tup [Ew,I 0]):=by
 have s5:∀ n,Tr (I n):=fun n=>.s _;have X:Tr (.tup [Ew,I 0]):=qO (n:=5) rfl;refine bg Xc (.cons (.agg (iq rk)) .nil) X ?_;rw[akS];have h:=f39;unfold Yn at h;cases M:yH 0 [.agg (aH rk)] .leaf with
 |none=>rw[M] at h;cases h
 |some t=>
  rw[M] at h;simp only[dw] at h;obtain⟨s,hs,he⟩:=h;have wY:=PB M
  have aF:(⟨t,.leaf,0⟩:cB).st=⟨envOf [.agg (aH rk)],fun _=>none,0⟩:=by
   unfold cB.st;rw[wY,aat]
  rw[<- aF,parts_eq 6 dQ]
  have hp:∃ c cs,Eu 6 dQ=c::cs:=by
   rw[W9];exact⟨_,_,rfl⟩
  obtain⟨c,cs,sQ⟩:=hp;rw[sQ] at hs ⊢;refine Qn (Te TD 1000) hs ?_;rw[ae6];simp only[bQ] at he;obtain⟨e7,e4,e5,C,e9,sX,J⟩:=he;refine⟨⟨aD [(7,.rp 5 0)],bf oz,12⟩,?_,w39⟩;have:s.st=⟨dO s.env,fD s.mem,12⟩:=by unfold cB.st;rw[J]
  rw[this];exact aQ ⟨e7,trivial⟩ ⟨e4,e5,C,e9,sX,trivial⟩
end Go.Proofs.Tryz.K
namespace Go.Proofs.Tryz.K
set_option maxRecDepth 100000
noncomputable def cx2:Ctx:=⟨fun f=>EZ.get f,HX [(61,[.pt xm],Et)],HC [(51,[.agg (aH rk)],.tup [.pt xm,I 0]),(65,[.pt xm],.tup [Vi,TC]),(39,[.agg (aH rk)],.tup [Ew,I 0])]⟩
theorem ae7:cx2.Ok prog:=⟨mixed,Lj,fun _ _ _ _ h=>Q9 (fun x hx=>by
 simp only[List.mem_singleton] at hx;subst hx;refine⟨Vk,fun y hy d hd=>?_⟩;simp only[Et,List.mem_cons,List.not_mem_nil,or_false] at hy
 rcases hy with rfl|rfl|rfl|rfl|rfl<;>(simp only[List.mem_singleton] at hd;subst hd;exact .s _)) h,
 fun _ _ _ h=>Qm (fun x hx=>by
  simp only[List.mem_cons,List.not_mem_nil,or_false] at hx;rcases hx with rfl|rfl|rfl
  .exact Vj
  .exact agV
  .exact agW) h⟩
theorem Df:PCall prog 17 [] (B true):=lQ ae7 1000 rfl kr
end Go.Proofs.Tryz.K
end
namespace Go.Argus
inductive bL(N:Nat->Nat):Nat->Nat->Prop
 |refl (x:Nat):bL N x x
 |up {w x:Nat}:bL N w (N x)->bL N w x
structure kn(V:Nat->Prop)(pl N:Nat->Nat):Prop where
 root:V 0
 mE:N 0=0
 par:∀ x,V x->x≠0->V (N x)/\pl (N x)<pl x
theorem bL.trans{N:Nat->Nat}{w z x:Nat}(h1:bL N w z)(h2:bL N z x):bL N w x:=by
 induction h2 with
 |refl=>exact h1
 |up _ ih=>exact .up ih
theorem bL.inv{N:Nat->Nat}{w x:Nat}(h:bL N w x):w=x\/bL N w (N x):=by
 cases h with
 |refl=>exact .inl rfl
 |up h=>exact .inr h
theorem bL.zero{N:Nat->Nat}(h0:N 0=0){w x:Nat}(h:bL N w x)(hx:x=0):w=0:=by
 induction h with
 |refl=>exact hx
 |up _ ih=>exact ih (by rw[hx,h0])
section
variable{V:Nat->Prop}{pl N O:Nat->Nat}
theorem kn.ind(h:kn V pl N){p:Nat->Prop}(h0:p 0)(hs:∀ x,V x->x≠0->V (N x)->pl (N x)<pl x->p (N x)->p x):∀ x,V x->p x:=by
 have key:∀ k x,pl x<k->V x->p x:=fun k=>by
  induction k with
  |zero=>exact fun x hx=>absurd hx (Nat.not_lt_zero _)
  |succ k ih=>
   intro x hx hv;by_cases C:x=0
   .rw[C];exact h0
   .obtain⟨a,b⟩:=h.par x hv C;exact hs x hv C a b (ih _ oG a)
 exact fun x hv=>key (pl x+1) x (Nat.lt_succ_self _) hv
theorem kn.low(h:kn V pl N){w x:Nat}(hv:V x)(ha:bL N w x):V w/\(w=x\/pl w<pl x):=by
 induction ha with
 |refl=>exact⟨hv,.inl rfl⟩
 |@up x ha ih=>
  by_cases C:x=0
  .subst C;rw[h.mE] at ih;exact ih hv
  .obtain⟨a,b⟩:=h.par x hv C;obtain⟨c,d⟩:=ih a;refine⟨c,.inr ?_⟩;rcases d with d|d
   .rw[d];exact b
   .omega
theorem kn.aed(h:kn V pl N):∀ x,V x->bL N 0 x:=h.ind (.refl 0) fun _ _ _ _ _ ih=>.up ih
theorem shrink(J:kn V pl O)(C:N 0=0)(rel:∀ x,V x->bL N (N x) (O x)):∀ x,V x->∀ w,bL N w x->bL O w x:=
 J.ind (fun w h=>by rw[h.zero C rfl];exact .refl 0) fun x hv _ _ _ ih w h=>by
  rcases h.inv with e|h
  .rw[e];exact .refl x
  .exact .up (ih w (h.trans (rel x hv)))
theorem aiE(C:kn V pl O)(hN:N 0=0)(rel:∀ x,V x->bL N (N x) (O x)):∀ t,V t->∀ z w,bL O z t->bL O w z->bL N w t->bL N w z:=
 C.ind (fun z w h1 _ h3=>by rw[h1.zero C.mE rfl];exact h3) fun t hv hz hp hl ih z w h1 h2 h3=>by
  rcases h1.inv with e|M
  .rw[e];exact h3
  .rcases h3.inv with e|J
   .obtain⟨X,a⟩:=C.low hv h1;obtain⟨_,b⟩:=C.low X h2;rcases a with a|a
    .rw[a];exact h3
    .rcases b with b|b
     .rw[<- b];exact .refl w
     .rw[e] at b;omega
   .exact ih z w M h2 (J.trans (rel t hv))
theorem aiF(C:kn V pl O):∀ x,V x->∀ w,bL O w x->¬ bL N w x->∃ c,V c/\bL O c x/\bL O w c/\N c≠O c/\¬ bL N w c:=
 C.ind (fun w h1 h2=>by
  rw[h1.zero C.mE rfl] at h2
  exact absurd (bL.refl 0) h2) fun x hv X hp _ ih w h1 h2=>by
  by_cases e:N x=O x
  .rcases h1.inv with J|M
   .rw[J] at h2;exact absurd (bL.refl x) h2
   .obtain⟨c,a1,a2,a3,a4,a5⟩:=ih w M fun h=>h2 (.up (by rw[e];exact h));exact⟨c,a1,.up a2,a3,a4,a5⟩
  .exact⟨x,hv,.refl x,h1,e,h2⟩
def kG(N:Nat->Nat)(c q x:Nat):Nat:=if x=c then q else N x
theorem tK(c q:Nat):kG N c q c=q:=if_pos rfl
theorem pX{c x:Nat}(q:Nat)(h:x≠c):kG N c q x=N x:=if_neg h
theorem acY(h:kn V pl N){c q:Nat}(J:c≠0)(C:V q)(hl:pl q<pl c):kn V pl (kG N c q):=⟨h.root,by rw[pX q oG];exact h.mE,fun x hv hx=>by
 by_cases e:x=c
 .subst e;rw[tK];exact⟨C,hl⟩
 .rw[pX q e];exact h.par x hv hx⟩
theorem K3(h:kn V pl N){c q:Nat}(J:c≠0):∀ x,V x->pl x<pl c->∀ w,(bL (kG N c q) w x↔bL N w x):=
 h.ind (fun _ w=>⟨fun h'=>by rw[h'.zero (by rw[pX q oG];exact h.mE) rfl];exact .refl 0,fun h'=>by rw[h'.zero h.mE rfl];exact .refl 0⟩) fun x hv _ _ hl ih hx w=>by
  have e:kG N c q x=N x:=pX q fun e=>by rw[e] at hx;omega
  have ih:=ih oG w;constructor
  .intro h';rcases h'.inv with C|h'
   .rw[C];exact .refl x
   .rw[e] at h';exact .up (ih.1 h')
  .intro h';rcases h'.inv with C|h'
   .rw[C];exact .refl x
   .exact .up (by rw[e];exact ih.2 h')
theorem aee(h:kn V pl N){c q:Nat}(J:V c)(C:c≠0)(hq:bL N q (N c)):∀ x,V x->bL (kG N c q) (kG N c q x) (N x):=fun x hv=>by
 by_cases e:x=c
 .subst e;rw[tK];obtain⟨a,b⟩:=h.par x J C;exact(K3 h C (N x) a b q).2 hq
 .rw[pX q e];exact .refl _
def vF(pl N:Nat->Nat):Nat->Nat->Nat->Nat
 |0,x,_=>x
 |k+1,x,a=>if x=a then x else if pl a<pl x then vF pl N k (N x) a else vF pl N k x (N a)
theorem Kt(h:kn V pl N)(h0:pl 0=0)(inj:∀ x a,V x->V a->pl x=pl a->x=a):∀ (k x a:Nat),V x->V a->pl x+pl a<k->
 V (vF pl N k x a)/\bL N (vF pl N k x a) x/\bL N (vF pl N k x a) a/\∀ w,bL N w x->bL N w a->bL N w (vF pl N k x a)
 |0,x,a,_,_,hk=>absurd hk (Nat.not_lt_zero _)
 |k+1,x,a,vx,va,hk=>by
  rw[vF];split
  .rename_i e;subst e;exact⟨vx,.refl x,.refl x,fun w h _=>h⟩
  .rename_i e;split
   .rename_i hl;have hz:x≠0:=fun e=>by rw[e,h0] at hl;omega
    obtain⟨p1,p2⟩:=h.par x vx hz;obtain⟨q1,q2,q3,q4⟩:=Kt h h0 inj k (N x) a p1 va oG;refine⟨q1,.up q2,q3,fun w J M=>?_⟩;rcases J.inv with C|X
    .obtain⟨_,b⟩:=h.low va M;rcases b with b|b
     .exact absurd (C.symm.trans b) e
     .rw[C] at b;omega
    .exact q4 w X M
   .rename_i hl;have aE:pl x≠pl a:=fun C=>e (inj x a vx va C);have hz:a≠0:=fun e=>by rw[e,h0] at aE hl;omega
    obtain⟨p1,p2⟩:=h.par a va hz;obtain⟨q1,q2,q3,q4⟩:=Kt h h0 inj k x (N a) vx p1 oG;refine⟨q1,q2,.up q3,fun w J M=>?_⟩;rcases M.inv with C|g2'
    .obtain⟨_,b⟩:=h.low vx J;rcases b with b|b
     .exact absurd (b.symm.trans C) e
     .rw[C] at b;omega
    .exact q4 w J g2'
end
structure zZ(E:Nat->Nat->Prop)(R:Nat->Prop)(pl:Nat->Nat):Prop where
 root:R 0
 next:∀ a c,E a c->R a->R c
 inj:∀ x a,R x->R a->pl x=pl a->x=a
 qE:pl 0=0
 pre:∀ c,c≠0->R c->∃ t,E t c/\R t/\pl t<pl c
inductive Av(E:Nat->Nat->Prop)(w:Nat):Nat->Prop
 |zero:0≠w->Av E w 0
 |step {x c:Nat}:Av E w x->E x c->c≠w->Av E w c
section
variable{E:Nat->Nat->Prop}{R:Nat->Prop}{pl:Nat->Nat}
theorem Av.reach(hg:zZ E R pl){w x:Nat}(h:Av E w x):R x:=by
 induction h with
 |zero=>exact hg.root
 |step _ e _ ih=>exact hg.next _ _ e ih
structure vG(E:Nat->Nat->Prop)(R:Nat->Prop)(pl O:Nat->Nat):Prop where
 tree:kn R pl O
 i1:∀ c,R c->c≠0->∀ w,(∀ a,E a c->R a->bL O w a)->bL O w (O c)
 i2:∀ c,R c->c≠0->∃ t,E t c/\R t/\pl t<pl c/\bL O (O c) t
 i3:∀ x,R x->∀ w,¬ Av E w x->bL O w x
structure AQ(E:Nat->Nat->Prop)(R:Nat->Prop)(pl O N:Nat->Nat)(k:Nat):Prop where
 pG:vG E R pl O
 tree:kn R pl N
 rel:∀ x,R x->bL N (N x) (O x)
 Jj:∀ x,R x->k<=pl x->N x=O x
 m3:∀ c,R c->c≠0->pl c<k->∀ w,(∀ a,E a c->R a->bL N w a)->bL N w (N c)
 m4:∀ c,R c->c≠0->pl c<k->∃ t,E t c/\R t/\pl t<pl c/\bL N (N c) t
 m5:∀ x,R x->pl x<k->∀ w,¬ Av E w x->bL N w x
theorem vG.start(hg:zZ E R pl){O:Nat->Nat}(h:vG E R pl O):AQ E R pl O O 1:=⟨h,h.tree,fun x _=>.refl _,fun _ _ _=>rfl,fun c rc C hl=>absurd (hg.inj c 0 rc hg.root (by rw[hg.qE];omega)) C,
 fun c rc C hl=>absurd (hg.inj c 0 rc hg.root (by rw[hg.qE];omega)) C,fun x M _ w J=>h.i3 x M w J⟩
theorem AQ.fin{O N:Nat->Nat}{k:Nat}(h:AQ E R pl O N k)(hk:∀ x,R x->pl x<k):vG E R pl N:=⟨h.tree,fun c rc C=>h.m3 c rc C (hk c rc),fun c rc C=>h.m4 c rc C (hk c rc),fun x J=>h.m5 x J (hk x J)⟩
theorem vG.down{O:Nat->Nat}(h:vG E R pl O)(hg:zZ E R pl){c w:Nat}(hc:Av E w c)(C:pl w<pl c):∀ k x,pl x<k->R x->bL O c x->Av E w x
 |0,x,hk,_,_=>absurd hk (Nat.not_lt_zero _)
 |k+1,x,hk,rx,ha=>by
  rcases ha.inv with e|M
  .rw[<- e];exact hc
  .by_cases J:x=0
   .subst J;rw[<- ha.zero h.tree.mE rfl];exact hc
   .obtain⟨t,e1,e2,e3,e4⟩:=h.i2 x rx J;refine .step (h.down hg hc C k t oG e2 (M.trans e4)) e1 fun e=>?_;obtain⟨_,b⟩:=h.tree.low rx ha;rw[e] at b;rcases b with b|b
    .rw[b] at C;omega
    .omega
theorem AQ.step(hg:zZ E R pl){O N:Nat->Nat}{k c q:Nat}(h:AQ E R pl O N k)(rc:R c)(hz:c≠0)(hk:pl c=k)(rq:R q)
 (hq:∀ a,E a c->R a->bL N q a) (hm:∀ w,(∀ a,E a c->R a->bL N w a)->bL N w q):
 bL N q (N c)/\AQ E R pl O (kG N c q) (k+1):=by
 have M:=h.pG;have e:=h.Jj c rc oG;have sh:=shrink M.tree h.tree.mE h.rel
 have up:bL N q (N c):=by
  rw[e];obtain⟨t,e1,e2,_,e4⟩:=M.i2 c rc hz;exact aiE M.tree h.tree.mE h.rel t e2 (O c) q e4 (M.i1 c rc hz q fun a X ra=>sh a ra q (hq a X ra)) (hq t e1 e2)
 obtain⟨p1,p2⟩:=h.tree.par c rc hz;obtain⟨_,q2⟩:=h.tree.low p1 up
 have ql:pl q<pl c:=by
  rcases q2 with q2|q2
  .rw[q2];exact p2
  .omega
 have tr:=acY h.tree hz rq ql;have rl:=aee h.tree rc hz up;have YJ:=shrink h.tree tr.mE rl;have o9:=fun x C hl w=>K3 (q:=q) h.tree hz x C hl w;have VJ:∀ w,bL (kG N c q) w q↔bL N w q:=fun w=>o9 q rq ql w;refine⟨up,M,tr,fun x C=>?_,fun x C hx=>?_,fun x C xz hx w hw=>?_,fun x C xz hx=>?_,fun x C hx w hw=>?_⟩
 .by_cases J:x=c
  .subst J;have:=rl x C
   rwa[e] at this
  .rw[pX q J];rcases Nat.lt_or_ge (pl x) (pl c) with g|g
   .by_cases xz:x=0
    .subst xz;rw[M.tree.mE,h.tree.mE];exact .refl 0
    .obtain⟨o1,o2⟩:=M.tree.par x C xz;exact(o9 (O x) o1 oG _).2 (h.rel x C)
   .rw[h.Jj x C oG];exact .refl _
 .rw[pX q fun e'=>by rw[e'] at hx;omega];exact h.Jj x C oG
 .by_cases J:x=c
  .subst J;rw[tK,VJ];exact hm w fun a X ra=>YJ a ra w (hw a X ra)
  .have mA:pl x<k:=by
    rcases Nat.lt_or_ge (pl x) k with g|g
    .exact g
    .exact absurd (hg.inj x c C rc oG) J
   obtain⟨o1,o2⟩:=h.tree.par x C xz;rw[pX q J,o9 (N x) o1 oG];exact h.m3 x C xz mA w fun a X ra=>YJ a ra w (hw a X ra)
 .by_cases J:x=c
  .subst J;obtain⟨t,e1,e2,e3⟩:=hg.pre x hz rc;refine⟨t,e1,e2,e3,?_⟩;rw[tK,o9 t e2 e3];exact hq t e1 e2
  .have mA:pl x<k:=by
    rcases Nat.lt_or_ge (pl x) k with g|g
    .exact g
    .exact absurd (hg.inj x c C rc oG) J
   obtain⟨t,e1,e2,e3,e4⟩:=h.m4 x C xz mA;refine⟨t,e1,e2,e3,?_⟩;rw[pX q J,o9 t e2 oG];exact e4
 .by_cases J:x=c
  .subst J;by_cases ew:w=x
   .subst ew;exact .refl w
   .refine .up ?_;rw[tK,VJ];refine hm w fun a X ra=>?_;have YK:¬ Av E w a:=fun ha=>hw (.step ha X fun e=>ew e.symm);by_cases Bn:bL N w a
    .exact Bn
    .exfalso;obtain⟨d,d1,d2,d3,d4,d5⟩:=aiF (N:=N) M.tree a ra w (M.i3 a ra w YK) Bn
     have hdk:pl d<k:=by
      rcases Nat.lt_or_ge (pl d) k with g|g
      .exact g
      .exact absurd (h.Jj d d1 g) d4
     have OX:Av E w d:=by
      refine Classical.byContradiction fun hn=>?_;exact d5 (h.m5 d d1 hdk w hn)
     have hl:pl w<pl d:=by
      obtain⟨_,b⟩:=M.tree.low d1 d3;rcases b with b|b
      .rw[b] at d5;exact absurd (.refl d) d5
      .exact b
     exact YK (M.down hg OX hl _ a (Nat.lt_succ_self _) ra d2)
  .have mA:pl x<k:=by
    rcases Nat.lt_or_ge (pl x) k with g|g
    .exact g
    .exact absurd (hg.inj x c C rc oG) J
   rw[o9 x C oG];exact h.m5 x C mA w hw
structure zk(E:Nat->Nat->Prop)(R:Nat->Prop)(pl N:Nat->Nat)(k:Nat):Prop where
 tree:kn (fun x=>R x/\pl x<k) pl N
 m3:∀ c,R c->c≠0->pl c<k->∀ w,(∀ a,E a c->R a->pl a<pl c->bL N w a)->bL N w (N c)
 m4:∀ c,R c->c≠0->pl c<k->∃ t,E t c/\R t/\pl t<pl c/\bL N (N c) t
 m5:∀ x,R x->pl x<k->∀ w,¬ Av E w x->bL N w x
theorem zk.start(hg:zZ E R pl){N:Nat->Nat}(h:N 0=0):zk E R pl N 1:=by
 have key:∀ c,R c->pl c<1->c=0:=fun c rc hl=>hg.inj c 0 rc hg.root (by rw[hg.qE];omega);refine⟨⟨⟨hg.root,by rw[hg.qE];omega⟩,h,fun x hx C=>absurd (key x hx.1 hx.2) C⟩,fun c rc C hl=>absurd (key c rc hl) C,fun c rc C hl=>absurd (key c rc hl) C,fun x X hl w M=>?_⟩;have e:=key x X hl;subst e;by_cases J:w=0
 .rw[J];exact .refl 0
 .exact absurd (.zero fun e=>J e.symm) M
theorem zk.fin{N:Nat->Nat}{k:Nat}(h:zk E R pl N k)(hk:∀ x,R x->pl x<k):vG E R pl N:=
 ⟨⟨h.tree.root.1,h.tree.mE,fun x C J=>⟨(h.tree.par x ⟨C,hk x C⟩ J).1.1,(h.tree.par x ⟨C,hk x C⟩ J).2⟩⟩,fun c rc J w X=>h.m3 c rc J (hk c rc) w fun a M ra _=>X a M ra,fun c rc J=>h.m4 c rc J (hk c rc),fun x C=>h.m5 x C (hk x C)⟩
theorem zk.step(hg:zZ E R pl){N:Nat->Nat}{k c q:Nat}(h:zk E R pl N k)(rc:R c)(hz:c≠0)(hk:pl c=k)(rq:R q)
 (hq:∀ a,E a c->R a->pl a<k->bL N q a) (hm:∀ w,(∀ a,E a c->R a->pl a<k->bL N w a)->bL N w q):zk E R pl (kG N c q) (k+1):=by
 obtain⟨t,t1,t2,t3⟩:=hg.pre c hz rc;obtain⟨⟨_,q1⟩,q2⟩:=h.tree.low (w:=q) (x:=t) ⟨t2,oG⟩ (hq t t1 t2 oG);have M:=fun x (J:R x) (hl:pl x<k) w=>K3 (q:=q) h.tree hz x ⟨J,hl⟩ (by omega:pl x<pl c) w
 have pG:∀ x,R x->x≠c->pl x<k+1->pl x<k:=fun x J C hx=>by
  rcases Nat.lt_or_ge (pl x) k with g|g
  .exact g
  .exact absurd (hg.inj x c J rc oG) C
 refine⟨⟨⟨hg.root,by rw[hg.qE];omega⟩,by rw[pX q oG];exact h.tree.mE,fun x hx X=>?_⟩,fun x J X hx w hw=>?_,fun x J X hx=>?_,fun x J hx w hw=>?_⟩
 .by_cases C:x=c
  .subst C;rw[tK];exact⟨⟨rq,oG⟩,oG⟩
  .obtain⟨a,b⟩:=h.tree.par x ⟨hx.1,pG x hx.1 C hx.2⟩ X;rw[pX q C];exact⟨⟨a.1,oG⟩,b⟩
 .by_cases C:x=c
  .subst C;rw[tK,M q rq q1];exact hm w fun a ea ra hl=>(M a ra hl w).1 (hw a ea ra oG)
  .have mA:=pG x J C hx;obtain⟨o1,o2⟩:=h.tree.par x ⟨J,mA⟩ X;rw[pX q C,M (N x) o1.1 o1.2];exact h.m3 x J X mA w fun a ea ra hl=>(M a ra oG w).1 (hw a ea ra hl)
 .by_cases C:x=c
  .subst C;refine⟨t,t1,t2,t3,?_⟩;rw[tK,M t t2 oG];exact hq t t1 t2 oG
  .have mA:=pG x J C hx;obtain⟨t,e1,e2,e3,e4⟩:=h.m4 x J X mA;refine⟨t,e1,e2,e3,?_⟩;rw[pX q C,M t e2 oG];exact e4
 .by_cases C:x=c
  .subst C;by_cases ew:w=x
   .subst ew;exact .refl w
   .refine .up ?_;rw[tK,M q rq q1];exact hm w fun a ea ra hl=>h.m5 a ra hl w fun ha=>hw (.step ha ea fun e=>ew e.symm)
  .rw[M x J (pG x J C hx)];exact h.m5 x J (pG x J C hx) w hw
theorem vG.vJ(hg:zZ E R pl){O:Nat->Nat}(h:vG E R pl O)(hf:∀ c,R c->c≠0->∀ a,E a c->R a->bL O (O c) a){w x:Nat}(M:R x):bL O w x↔¬ Av E w x:=by
 refine⟨fun ha X=>?_,h.i3 x M w⟩
 induction X with
 |zero hw=>exact hw (ha.zero h.tree.mE rfl).symm
 |@step x c hx e hc ih=>
  have J:=hx.reach hg;rcases ha.inv with e'|z1
  .exact hc e'.symm
  .by_cases C:c=0
   .exact hc (C.trans (ha.zero h.tree.mE C).symm)
   .exact ih J (z1.trans (hf c M C x e J))
end
def qh(beh:Nat->List Int)(l J:List Int):Prop:=∀ M x C,l=M++x::C->x∈J\/∃ t∈C,0<=t/\x∈beh t.toNat
theorem qh.nil{beh:Nat->List Int}{C:List Int}:qh beh [] C:=fun J x M h=>by simp at h
theorem qh.mono{beh:Nat->List Int}{l J C:List Int}(h:qh beh l J)(hs:∀ x∈J,x∈C):qh beh l C:=fun M x X e=>(h M x X e).imp (hs x) id
theorem qh.app{beh:Nat->List Int}{l l' C:List Int}(h:qh beh l C)(h':qh beh l' C):qh beh (l++l') C:=fun M x J e=>by
 rcases List.append_eq_append_iff.1 e with⟨a,e1,e2⟩|⟨a,e1,e2⟩
 .exact h' a x J e2
 .cases a with
  |nil=>
   simp only[List.nil_append] at e2;exact h' [] x J e2.symm
  |cons y a=>
   simp only[List.cons_append,List.cons.injEq] at e2;obtain⟨rfl,rfl⟩:=e2;exact(h M x a e1).imp id fun⟨t,ht,r⟩=>⟨t,List.mem_append_left _ ht,r⟩
theorem qh.last{beh:Nat->List Int}{l:List Int}{b:Nat}(h:qh beh l (beh b)):qh beh (l++[(b:Int)]) [(b:Int)]:=fun C x J e=>by
 rcases List.append_eq_append_iff.1 e with⟨a,e1,e2⟩|⟨a,e1,e2⟩
 .cases a with
  |nil=>
   simp only[List.nil_append,List.cons.injEq] at e2;exact .inl (by simp[e2.1])
  |cons y a=>simp at e2
 .cases a with
  |nil=>
   simp only[List.nil_append,List.cons.injEq] at e2;exact .inl (by simp[e2.1])
  |cons y a=>
   simp only[List.cons_append,List.cons.injEq] at e2;obtain⟨rfl,rfl⟩:=e2;rcases h C x a e1 with h|⟨t,ht,r⟩
   .exact .inr ⟨b,oS,oG,by simpa using h⟩
   .exact .inr ⟨t,List.mem_append_left _ ht,r⟩
theorem SG{beh:Nat->List Int}{w:Int}(hb:∀ b,∀ c∈beh b,0<=c):∀ (k:Nat) (s:List Bool×List Int) (b:Nat),∃ l,(eO beh w k s b).2=s.2++l/\qh beh l [(b:Int)]
 |0,s,b=>⟨[],by simp[eO],.nil⟩
 |k+1,s,b=>by
  have hF:∀ cs:List Int,(∀ c∈cs,0<=c)->∀ s:List Bool×List Int,∃ l,(dZ beh w k s cs).2=s.2++l/\qh beh l cs:=fun cs=>by
   induction cs using Hh with
   |h0=>exact fun _ s=>⟨[],by simp[dZ],.nil⟩
   |h1 cs c ih=>
    intro hc s;obtain⟨l,e,h⟩:=ih (fun c h=>hc c (by simp[h])) s;rw[GL];split
    .obtain⟨l',C,h'⟩:=SG hb k (dZ beh w k s cs) c.toNat;refine⟨l++l',by rw[C,e,List.append_assoc],(h.mono fun x hx=>by simp[hx]).app (h'.mono fun x hx=>?_)⟩;have:=hc c oS;simp only[List.mem_singleton] at hx;rw[hx,Int.toNat_of_nonneg this];simp
    .exact⟨l,e,h.mono fun x hx=>by simp[hx]⟩
  rw[wi];obtain⟨l,e,h⟩:=hF (beh b) (hb b) (s.1.set b true,s.2);exact⟨l++[(b:Int)],by simp only;rw[e,List.append_assoc],h.last⟩
section
variable{beh:Nat->List Int}{n:Nat}(hb:∀ b,∀ c∈beh b,0<=c/\c.toNat<n)(hn:0<n)
include hb hn
theorem Bs:∃ t,cS beh n=0::t:=by
 obtain⟨k,rfl⟩:∃ k,n=k+1:=⟨n - 1,oG⟩
 refine⟨_,by unfold cS;rw[wi,List.reverse_append];rfl⟩
omit hn in
theorem abz{i:Nat}{x:Int}(hx:(cS beh n)[i]? =some x)(h0:x≠0):∃ j t,j<i/\(cS beh n)[j]? =some t/\0<=t/\x∈beh t.toNat:=by
 obtain⟨l,e,h⟩:=SG (w:= -1) (fun b c hc=>(hb b c hc).1) n (replicate n false,[]) 0;have C:cS beh n=l.reverse:=by unfold cS;rw[e];rfl
 rw[C] at hx ⊢;obtain⟨hi,hx⟩:=bw.1 hx;rw[List.length_reverse] at hi;rw[List.getElem_reverse] at hx;have hk:l.length - 1 - i<l.length:=by omega
 rcases h (l.take (l.length - 1 - i)) x (l.drop (l.length - 1 - i+1)) (by rw[<- hx, <- List.drop_eq_getElem_cons hk,List.take_append_drop]) with h|⟨t,ht,r⟩
 .simp at h;exact absurd h h0
 .obtain⟨m,hm⟩:=cC ht;rw[List.getElem?_drop] at hm;obtain⟨J,hm⟩:=bw.1 hm;refine⟨l.length - 1 - (l.length - 1 - i+1+m),t,oG,?_,r⟩;rw[aM (by rw[List.length_reverse];omega),List.getElem_reverse];congr 1;rw[<- hm];congr 1;omega
end
def uD(ord:List Int)(n:Nat):Nat->List Int
 |0=>replicate n 0
 |i+1=>(uD ord n i).set (ord.getD i 0).toNat i
def B2(ord:List Int)(n:Nat):List Int:=uD ord n ord.length
theorem Hl{ord:List Int}{n:Nat}:∀ i,(uD ord n i).length=n
 |0=>by simp[uD]
 |i+1=>by simp[uD,Hl i]
theorem SH{ord:List Int}{n:Nat}(nd:ord.Nodup)(C:∀ b∈ord,0<=b/\b.toNat<n):∀ i,i<=ord.length->∀ j b,j<i->ord[j]? =some b->(uD ord n i).getD b.toNat 0=j
 |0,_,j,_,h,_=>absurd h (Nat.not_lt_zero j)
 |i+1,hi,j,b,hj,hb=>by
  have hl:i<ord.length:=hi;have ha:=aM hl;have hd:ord.getD i 0=ord[i]:=by rw[bl,ha];rfl
  rw[uD,hd,bl,List.getElem?_set];have X:=C _ (cy hl);by_cases e:j=i
  .subst e;rw[ha] at hb;cases hb;rw[if_pos rfl,if_pos (by rw[Hl];exact X.2)];rfl
  .have J:¬ ord[i].toNat=b.toNat:=fun e'=>by
    obtain⟨po,e2⟩:=bw.1 hb;have M:=C b (e2▸cy po);have:ord[i]=ord[j]:=by rw[e2];omega
    have:=(List.getElem_inj nd).1 this;omega
   rw[if_neg J, <- List.getD_eq_getElem?_getD];exact SH nd C i oG j b oG hb
theorem Qx{ord:List Int}{n:Nat}(nd:ord.Nodup)(C:∀ b∈ord,0<=b/\b.toNat<n){j:Nat}{b:Int}(h:ord[j]? =some b):(B2 ord n).getD b.toNat 0=j:=by
 obtain⟨hj,_⟩:=bw.1 h;exact SH nd C _ (bF _) j b hj h
theorem Qo{ord:List Int}{n:Nat}:(B2 ord n).length=n:=Hl _
def dC(out:List Int)(x:Int):Int:=out.getD x.toNat (-1)
def mC(pl:List Int)(x:Int):Int:=pl.getD x.toNat 0
def vB(pl out:List Int):Nat->Int->Int->Int
 |0,x,_=>x
 |k+1,x,a=>if x=a then x else if mC pl a<mC pl x then vB pl out k (dC out x) a else vB pl out k x (dC out a)
def l5(pl out:List Int)(nx a:Int):Int:=if dC out a= -1 then nx else if nx= -1 then a else vB pl out (2*pl.length) nx a
def nU(pl out l:List Int):Int:=l.foldl (l5 pl out) (-1)
def kq(pl:List Int)(ahd:Nat->List Int)(s:List Int×Bool)(b:Int):List Int×Bool:=
 if dC s.1 b=nU pl s.1 (ahd b.toNat) then s else(s.1.set b.toNat (nU pl s.1 (ahd b.toNat)),true)
def sd(pl:List Int)(ahd:Nat->List Int)(rest out:List Int):List Int×Bool:=rest.foldl (kq pl ahd) (out,false)
def Hr(pl:List Int)(ahd:Nat->List Int)(rest:List Int):Nat->List Int->List Int
 |0,out=>out
 |k+1,out=>if(sd pl ahd rest out).2=true then Hr pl ahd rest k (sd pl ahd rest out).1 else(sd pl ahd rest out).1
def l0(n:Nat):List Int:=(replicate n (-1)).set 0 0
def dJ(out:List Int)(x:Nat):Nat:=(dC out x).toNat
structure Co(V:Nat->Prop)(n:Nat)(out:List Int):Prop where
 len:out.length=n
 set:∀ x,V x->0<=dC out x
 un:∀ x:Nat,¬ V x->dC out x= -1
theorem Ai{out:List Int}{b x:Nat}{q:Int}(h:b<out.length):dC (out.set b q) x=if x=b then q else dC out x:=by
 unfold dC;simp only[bN,bl,List.getElem?_set];by_cases e:b=x
 .subst e;simp[h]
 .rw[if_neg e,if_neg fun C=>e C.symm]
theorem Ri{out:List Int}{b q:Nat}(h:b<out.length):dJ (out.set b (q:Int))=kG (dJ out) b q:=by
 funext x;unfold dJ kG;rw[Ai h];split<;>simp
section
variable{V:Nat->Prop}{plL out:List Int}{pl:Nat->Nat}{n:Nat}
theorem Ln(hp:∀ x:Nat,V x->mC plL x=pl x)(hg:Co V n out)(ht:kn V pl (dJ out))(h0:pl 0=0)(inj:∀ x a,V x->V a->pl x=pl a->x=a):
 ∀ (k x a:Nat),V x->V a->vB plL out k x a=(vF pl (dJ out) k x a:Nat)
 |0,x,a,_,_=>rfl
 |k+1,x,a,vx,va=>by
  have M:dC out x=(dJ out x:Nat):=by unfold dJ;rw[Int.toNat_of_nonneg (hg.set x vx)]
  have J:dC out a=(dJ out a:Nat):=by unfold dJ;rw[Int.toNat_of_nonneg (hg.set a va)]
  rw[vB,vF,hp x vx,hp a va,M,J];have e1:((x:Int)=a)=(x=a):=propext Int.natCast_inj;have e2:((pl a:Int)<pl x)=(pl a<pl x):=propext Int.ofNat_lt;simp only[e1,e2];split
  .rfl
  .rename_i C;split
   .rename_i hl;exact Ln hp hg ht h0 inj k _ a (ht.par x vx fun e=>by rw[e,h0] at hl;omega).1 va
   .rename_i hl
    exact Ln hp hg ht h0 inj k x _ vx (ht.par a va fun e=>by
     subst e
     exact C (inj x 0 vx va oG)).1
theorem K4(hp:∀ x:Nat,V x->mC plL x=pl x)(hn:∀ x,V x->pl x<plL.length)(hg:Co V n out)(ht:kn V pl (dJ out))(h0:pl 0=0)(inj:∀ x a,V x->V a->pl x=pl a->x=a)
 {l:List Int} (hl:∀ a∈l,0<=a):(nU plL out l= -1/\∀ a∈l,¬ V a.toNat)\/
 ∃ q:Nat,nU plL out l=q/\V q/\(∀ a∈l,V a.toNat->bL (dJ out) q a.toNat)/\∀ w,(∀ a∈l,V a.toNat->bL (dJ out) w a.toNat)->bL (dJ out) w q:=by
 induction l using Hh with
 |h0=>exact .inl ⟨rfl,fun a h=>by simp at h⟩
 |h1 l a ih=>
  have ih:=ih fun a h=>hl a (by simp[h]);have ha:=hl a oS;have e:nU plL out (l++[a])=l5 plL out (nU plL out l) a:=by unfold nU;rw[List.foldl_append];rfl
  rw[e];have M:∀ x∈l++[a],x∈l\/x=a:=fun x hx=>by simpa using hx
  have X:∀ x∈l,x∈l++[a]:=fun x hx=>by simp[hx]
  obtain⟨m,rfl⟩:=cU ha;by_cases hv:V m
  .have hs:¬ dC out (m:Int)= -1:=by have:=hg.set m hv;omega
   rcases ih with⟨h1,h2⟩|⟨q,h1,h2,h3,h4⟩
   .refine .inr ⟨m,by unfold l5;rw[if_neg hs,if_pos h1],hv,fun x hx C=>?_,fun w J=>by simpa using J m oS hv⟩;rcases M x hx with h|h
    .exact absurd C (h2 x h)
    .subst h;exact .refl _
   .have hk:pl q+pl m<2*plL.length:=by have:=hn q h2;have:=hn m hv;omega
    obtain⟨s1,s2,s3,s4⟩:=Kt ht h0 inj (2*plL.length) q m h2 hv hk;refine .inr ⟨vF pl (dJ out) (2*plL.length) q m,?_,s1,fun x hx C=>?_,fun w J=>?_⟩
    .unfold l5;rw[if_neg hs,h1,if_neg oG,Ln hp hg ht h0 inj _ q m h2 hv]
    .rcases M x hx with h|h
     .exact s2.trans (h3 x h C)
     .subst h;exact s3
    .exact s4 w (h4 w fun x hx=>J x (X x hx)) (by simpa using J m oS hv)
  .have hs:dC out (m:Int)= -1:=hg.un m hv;have e':l5 plL out (nU plL out l) (m:Int)=nU plL out l:=by unfold l5;rw[if_pos hs]
   rw[e'];rcases ih with⟨h1,h2⟩|⟨q,h1,h2,h3,h4⟩
   .refine .inl ⟨h1,fun x hx C=>?_⟩;rcases M x hx with h|h
    .exact h2 x h C
    .subst h;exact hv C
   .refine .inr ⟨q,h1,h2,fun x hx C=>?_,fun w J=>h4 w fun x hx=>J x (X x hx)⟩;rcases M x hx with h|h
    .exact h3 x h C
    .subst h;exact absurd C hv
end
structure ua(beh ahd:Nat->List Int)(n:Nat):Prop where
 pos:0<n
 to:∀ b,∀ c∈beh b,0<=c/\c.toNat<n
 rI:∀ (c:Nat) (a:Int),a∈ahd c↔0<=a/\a.toNat<n/\(c:Int)∈beh a.toNat
def iX(beh:Nat->List Int)(a c:Nat):Prop:=(c:Int)∈beh a
def bM(beh:Nat->List Int)(n x:Nat):Prop:=(cO beh n (-1)).getD x false=true
def plL(beh:Nat->List Int)(n:Nat):List Int:=B2 (cS beh n) n
def eF(beh:Nat->List Int)(n x:Nat):Nat:=(mC (plL beh n) x).toNat
section
variable{beh ahd:Nat->List Int}{n:Nat}(h:ua beh ahd n)
include h
theorem K5{x:Nat}:(x:Int)∈cS beh n↔bM beh n x:=by
 rw[JY h.to h.pos];simp[bM]
theorem BM:∀ b∈cS beh n,0<=b/\b.toNat<n:=fun b hb=>by
 have hb:=(JY h.to h.pos).1 hb;refine⟨hb.1,?_⟩;have hl:=wg (w:= -1) h.to h.pos;rcases Nat.lt_or_ge b.toNat n with g|g
 .exact g
 .rw[bl,List.getElem?_eq_none oG] at hb;simp at hb
theorem B4{x:Nat}(hx:bM beh n x):x<n:=by simpa using(BM h x ((K5 h).2 hx)).2
theorem BR{x:Nat}(hx:bM beh n x):∃ i:Nat,(cS beh n)[i]? =some (x:Int)/\mC (plL beh n) x=i/\eF beh n x=i:=by
 obtain⟨i,hi⟩:=cC ((K5 h).2 hx);have:=Qx (JA h.to h.pos) (BM h) hi;exact⟨i,hi,this,by unfold eF mC plL;rw[this];rfl⟩
theorem afi{x:Nat}(hx:bM beh n x):mC (plL beh n) x=eF beh n x:=by
 obtain⟨i,_,a,b⟩:=BR h hx;rw[a,b]
theorem Lp{i:Nat}{x:Int}(hi:(cS beh n)[i]? =some x):∃ m:Nat,x=m/\bM beh n m/\eF beh n m=i:=by
 have hm:=bU hi;obtain⟨m,rfl⟩:=cU (BM h x hm).1;refine⟨m,rfl,(K5 h).1 hm,?_⟩;have:=Qx (JA h.to h.pos) (BM h) hi;unfold eF mC plL;rw[this];rfl
theorem Ey:(cS beh n).length<=n:=by
 have M:(replicate n false).getD 0 false=false:=by rw[bl,List.getElem?_replicate];split<;>rfl
 have nd:=JA h.to h.pos;have hr:=BM h
 have J:((cS beh n).map Int.toNat).Nodup:=by
  rw[List.nodup_iff_pairwise_ne,List.pairwise_map];refine(List.Pairwise.and_mem.1 nd).imp fun {a b} C e=>?_;have:=hr a C.1;have:=hr b C.2.1;exact C.2.2 oG
 have:=List.Nodup.length_le_of_subset J (l₂:=range n) fun x hx=>by
  obtain⟨y,hy,rfl⟩:=List.mem_map.1 hx;exact List.mem_range.2 (hr y hy).2
 simpa using this
theorem EG{x:Nat}(hx:bM beh n x):eF beh n x<(cS beh n).length:=by
 obtain⟨i,a,_,b⟩:=BR h hx;rw[b];exact(bw.1 a).1
theorem we:zZ (iX beh) (bM beh n) (eF beh n):=by
 obtain⟨t,ht⟩:=Bs h.to h.pos;have C:(cS beh n)[0]? =some ((0:Nat):Int):=by rw[ht];rfl
 obtain⟨m,e,hm,hp⟩:=Lp h C;have:m=0:=by omega
 subst this;refine⟨hm,fun a c e ra=>?_,fun x a J ra e=>?_,hp,fun c M rc=>?_⟩
 .have:=Pe h.to h.pos ra c e;simpa[bM] using this
 .obtain⟨i,a1,_,a3⟩:=BR h J;obtain⟨j,b1,_,b3⟩:=BR h ra;have:i=j:=by omega
  subst this;rw[a1] at b1;have:=Option.some.inj b1;omega
 .obtain⟨i,a1,_,a3⟩:=BR h rc;obtain⟨j,t,hj,ht,h0,hc⟩:=abz h.to a1 oG;obtain⟨m,rfl,hm,hp⟩:=Lp h ht;exact⟨m,by simpa[iX] using hc,hm,oG⟩
def y3(beh:Nat->List Int)(n:Nat)(out:List Int):Prop:=vG (iX beh) (bM beh n) (eF beh n) (dJ out)/\Co (bM beh n) n out
theorem EH{x:Nat}(hx:bM beh n x):mC (plL beh n) x=eF beh n x:=afi h hx
theorem Lq{x:Nat}(hx:bM beh n x):eF beh n x<(plL beh n).length:=by
 have:=EG h hx;have:=Ey h;rw[plL,Qo];omega
omit h in
theorem O6{α β:Type}{g:β->α->β}{s:β}{l:List α}{i:Nat}{a:α}(hi:l[i]? =some a):(l.take (i+1)).foldl g s=g ((l.take i).foldl g s) a:=by
 rw[List.take_add_one,hi,List.foldl_append];rfl
theorem Ha{i:Nat}{a:Int}(hi:(cS beh n).tail[i]? =some a):∃ c:Nat,a=c/\bM beh n c/\eF beh n c=i+1/\c≠0:=by
 obtain⟨t,ht⟩:=Bs h.to h.pos;obtain⟨m,e,hm,hp⟩:=Lp h (i:=i+1) (x:=a) (by rw[ht] at hi ⊢;simpa using hi);refine⟨m,e,hm,hp,fun e=>?_⟩;have:=(we h).qE;rw[e] at hp;omega
theorem Rj{c:Nat}(rc:bM beh n c)(C:c≠0):∃ i,(cS beh n).tail[i]? =some (c:Int)/\eF beh n c=i+1:=by
 obtain⟨t,ht⟩:=Bs h.to h.pos;obtain⟨i,hi,_,hp⟩:=BR h rc;cases i with
 |zero=>exact absurd ((we h).inj c 0 rc (we h).root (by rw[hp,(we h).qE])) C
 |succ i=>exact⟨i,by rw[ht] at hi ⊢;simpa using hi,hp⟩
theorem DU(c:Nat):∀ a∈ahd c,0<=a:=fun a ha=>((h.rI c a).1 ha).1
theorem BE{c a:Nat}(ra:bM beh n a):(a:Int)∈ahd c↔iX beh a c:=by
 rw[h.rI];have:=B4 h ra;simp only[bN,iX];exact⟨fun x=>x.2.2,fun x=>⟨oG,this,x⟩⟩
def alK(beh:Nat->List Int)(n k x:Nat):Prop:=bM beh n x/\eF beh n x<k
omit h in
theorem Ku(hn:0<n)(x:Nat):dC (l0 n) x=if x=0 then 0 else -1:=by
 have:=Ai (out:=replicate n (-1)) (b:=0) (x:=x) (q:=0) (by simpa using hn);unfold l0;rw[this]
 have e:dC (replicate n (-1)) (x:Int)= -1:=by
  unfold dC;rw[bl,List.getElem?_replicate];split<;>rfl
 rw[e]
theorem Kv:∀ i,i<=(cS beh n).tail.length->let s:=((cS beh n).tail.take i).foldl (kq (plL beh n) ahd) (l0 n,false)
 zk (iX beh) (bM beh n) (eF beh n) (dJ s.1) (i+1)/\Co (alK beh n (i+1)) n s.1/\(0<i->s.2=true)
 |0,_=>by
  have g:=we h;refine⟨.start g (by show(dC (l0 n) ((0:Nat):Int)).toNat=0;rw[Ku h.pos];rfl),⟨by simp[l0],fun x hx=>?_,fun x hx=>?_⟩,fun h=>absurd h (Nat.lt_irrefl 0)⟩
  .have:x=0:=g.inj x 0 hx.1 g.root (by rw[g.qE];have:=hx.2;omega);show 0<=dC (l0 n) x;rw[Ku h.pos,if_pos this];omega
  .show dC (l0 n) x= -1;rw[Ku h.pos,if_neg fun e=>hx (by subst e;exact⟨g.root,by rw[g.qE];omega⟩)]
 |i+1,hi=>by
  have g:=we h;obtain⟨h1,h2,h3⟩:=Kv i oG;have hx:=aM (show i<(cS beh n).tail.length from hi);obtain⟨c,e,rc,hp,X⟩:=Ha h hx;rw[e] at hx;simp only;rw[O6 hx];generalize ((cS beh n).tail.take i).foldl (kq (plL beh n) ahd) (l0 n,false)=s at h1 h2 h3;obtain⟨out,fl⟩:=s;dsimp only at h1 h2 h3 ⊢;have hc:dC out (c:Int)= -1:=h2.un c fun hv=>by have:=hv.2;omega
  have C:=B4 h rc;rcases K4 (l:=ahd c) (plL:=plL beh n) (pl:=eF beh n) (fun x hx=>EH h hx.1) (fun x hx=>Lq h hx.1) h2 h1.tree g.qE (fun x a rx ra=>g.inj x a rx.1 ra.1) (DU h c) with⟨q1,q2⟩|⟨q,q1,q2,q3,q4⟩
  .obtain⟨t,t1,t2,t3⟩:=g.pre c X rc;exact absurd ⟨t2,by rw[bN];omega⟩ (q2 t ((BE h t2).2 t1))
  .have e':kq (plL beh n) ahd (out,fl) c=(out.set c q,true):=by
    unfold kq;simp only[bN,q1,hc];rw[if_neg oG]
   rw[e'];dsimp only;rw[Ri (by rw[h2.len];exact C)];refine⟨h1.step g rc X oG q2.1 (fun a ea ra hl=>?_) (fun w hw=>q4 w fun a ha J=>?_),⟨by simp[h2.len],fun x hx=>?_,fun x hx=>?_⟩,fun _=>rfl⟩
   .simpa using q3 a ((BE h ra).2 ea) ⟨ra,by rw[bN];omega⟩
   .have z1:=DU h c a ha;obtain⟨m,rfl⟩:=cU z1;exact hw m ((BE h J.1).1 ha) J.1 J.2
   .rw[Ai (by rw[h2.len];exact C)];split
    .omega
    .rename_i aE
     exact h2.set x ⟨hx.1,by
      rcases Nat.lt_or_ge (eF beh n x) (i+1) with M|M
      .exact M
      .exact absurd (g.inj x c hx.1 rc (by have:=hx.2;omega)) aE⟩
   .rw[Ai (by rw[h2.len];exact C),if_neg fun e=>hx (by rw[e];exact⟨rc,oG⟩)];exact h2.un x fun hv=>hx ⟨hv.1,by have:=hv.2;omega⟩
theorem PO:y3 beh n (sd (plL beh n) ahd (cS beh n).tail (l0 n)).1/\((sd (plL beh n) ahd (cS beh n).tail (l0 n)).2=false->(cS beh n).tail=[]):=by
 obtain⟨h1,h2,h3⟩:=Kv h _ (bF _);rw[List.take_length] at h1 h2 h3;unfold sd;obtain⟨t,ht⟩:=Bs h.to h.pos
 have C:∀ x,bM beh n x->eF beh n x<(cS beh n).tail.length+1:=fun x hx=>by
  have:=EG h hx;rw[ht] at this ⊢;simpa using this
 refine⟨⟨h1.fin C,h2.len,fun x hx=>h2.set x ⟨hx,C x hx⟩,fun x hx=>h2.un x fun hv=>hx hv.1⟩,fun e=>?_⟩;cases hl:(cS beh n).tail with
 |nil=>rfl
 |cons a l=>rw[hl] at h3 e;rw[h3 oS] at e;cases e
theorem Kw{out:List Int}(ho:y3 beh n out):∀ i,i<=(cS beh n).tail.length->let s:=((cS beh n).tail.take i).foldl (kq (plL beh n) ahd) (out,false)
 AQ (iX beh) (bM beh n) (eF beh n) (dJ out) (dJ s.1) (i+1)/\Co (bM beh n) n s.1/\(∀ x,bM beh n x->eF beh n (dJ s.1 x)<=eF beh n (dJ out x))/\
 (s.2=true->∃ x,bM beh n x/\x≠0/\eF beh n (dJ s.1 x)<eF beh n (dJ out x))/\
 (s.2=false->s.1=out/\∀ c,bM beh n c->c≠0->eF beh n c<i+1->∀ a,iX beh a c->bM beh n a->bL (dJ out) (dJ out c) a)
 |0,_=>by
  have g:=we h;refine⟨ho.1.start g,ho.2,fun _ _=>bF _,fun e=>by exact Bool.noConfusion e,fun _=>⟨rfl,fun c rc J hl=>absurd (g.inj c 0 rc g.root (by rw[g.qE];omega)) J⟩⟩
 |i+1,hi=>by
  have g:=we h;obtain⟨h1,h2,h3,h4,h5⟩:=Kw ho i oG;have hx:=aM (show i<(cS beh n).tail.length from hi);obtain⟨c,e,rc,hp,J⟩:=Ha h hx;rw[e] at hx;simp only;rw[O6 hx];generalize ((cS beh n).tail.take i).foldl (kq (plL beh n) ahd) (out,false)=s at h1 h2 h3 h4 h5;obtain⟨o,fl⟩:=s;dsimp only at h1 h2 h3 h4 h5 ⊢;have kE:=B4 h rc;rcases K4 (l:=ahd c) (plL:=plL beh n) (pl:=eF beh n) (fun x hx=>EH h hx) (fun x hx=>Lq h hx) h2 h1.tree g.qE g.inj (DU h c) with⟨q1,q2⟩|⟨q,q1,q2,q3,q4⟩
  .obtain⟨t,t1,t2,t3⟩:=g.pre c J rc;exact absurd t2 (q2 t ((BE h t2).2 t1))
  .have hq:∀ a,iX beh a c->bM beh n a->bL (dJ o) q a:=fun a X ra=>by simpa using q3 a ((BE h ra).2 X) ra
   have hm:∀ w,(∀ a,iX beh a c->bM beh n a->bL (dJ o) w a)->bL (dJ o) w q:=fun w hw=>q4 w fun a ha va=>by
    obtain⟨m,rfl⟩:=cU (DU h c a ha);exact hw m ((BE h va).1 ha) va
   obtain⟨up,st⟩:=h1.step g rc J oG q2 hq hm;obtain⟨p1,_⟩:=h1.tree.par c rc J;obtain⟨_,lo⟩:=h1.tree.low p1 up;by_cases hs:dC o (c:Int)=q
   .have e':kq (plL beh n) ahd (o,fl) c=(o,fl):=by
     unfold kq;simp only[bN,q1];rw[if_pos hs]
    have eo:dJ o c=q:=by unfold dJ;rw[hs];simp
    have eu:kG (dJ o) c q=dJ o:=by
     funext x;unfold kG;split
     .rename_i C;rw[C,eo]
     .rfl
    rw[eu] at st;rw[e'];refine⟨st,h2,h3,h4,fun ef=>?_⟩;obtain⟨YN,hf⟩:=h5 ef;refine⟨YN,fun x M xz hl a X ra=>?_⟩;by_cases C:x=c
    .subst C;rw[<- YN,eo];exact hq a X ra
    .exact hf x M xz (by
      rcases Nat.lt_or_ge (eF beh n x) (i+1) with g'|g'
      .exact g'
      .exact absurd (g.inj x c M rc oG) C) a X ra
   .have e':kq (plL beh n) ahd (o,fl) c=(o.set c q,true):=by
     unfold kq;simp only[bN,q1];rw[if_neg hs]
    have ao:eF beh n q<eF beh n (dJ o c):=by
     rcases lo with lo|lo
     .refine absurd ?_ hs;rw[lo];unfold dJ;rw[Int.toNat_of_nonneg (h2.set c rc)]
     .exact lo
    rw[e'];dsimp only;rw[Ri (by rw[h2.len];exact kE)];refine⟨st,⟨by simp[h2.len],fun x hx=>?_,fun x hx=>?_⟩,fun x M=>?_,fun _=>⟨c,rc,J,by rw[tK];exact Nat.lt_of_lt_of_le ao (h3 c rc)⟩,fun e=>by cases e⟩
    .rw[Ai (by rw[h2.len];exact kE)];split
     .omega
     .exact h2.set x hx
    .rw[Ai (by rw[h2.len];exact kE),if_neg fun e=>hx (by rw[e];exact rc)];exact h2.un x hx
    .by_cases C:x=c
     .subst C;rw[tK];exact Nat.le_trans (Nat.le_of_lt ao) (h3 x M)
     .rw[pX q C];exact h3 x M
theorem J3{out:List Int}(J:y3 beh n out):let s:=sd (plL beh n) ahd (cS beh n).tail out
 y3 beh n s.1/\(∀ x,bM beh n x->eF beh n (dJ s.1 x)<=eF beh n (dJ out x))/\
 (s.2=true->∃ x,bM beh n x/\x≠0/\eF beh n (dJ s.1 x)<eF beh n (dJ out x))/\
 (s.2=false->s.1=out/\∀ c,bM beh n c->c≠0->∀ a,iX beh a c->bM beh n a->bL (dJ out) (dJ out c) a):=by
 obtain⟨h1,h2,h3,h4,h5⟩:=Kw h J _ (bF _);rw[List.take_length] at h1 h2 h3 h4 h5;obtain⟨t,ht⟩:=Bs h.to h.pos
 have C:∀ x,bM beh n x->eF beh n x<(cS beh n).tail.length+1:=fun x hx=>by
  have:=EG h hx;rw[ht] at this ⊢;simpa using this
 exact⟨⟨h1.fin C,h2⟩,h3,h4,fun e=>⟨(h5 e).1,fun c rc M=>(h5 e).2 c rc M (C c rc)⟩⟩
end
section
variable{beh ahd:Nat->List Int}{n:Nat}(h:ua beh ahd n)
include h
def Lr(beh:Nat->List Int)(n:Nat)(out:List Int):Prop:=y3 beh n out/\∀ c,bM beh n c->c≠0->∀ a,iX beh a c->bM beh n a->bL (dJ out) (dJ out c) a
def Gg(beh:Nat->List Int)(n:Nat)(out:List Int):Nat:=((cS beh n).tail.map fun b=>eF beh n (dJ out b.toNat)).sum
omit h in
theorem T0{l:List Int}{f g:Int->Nat}(hl:∀ x∈l,f x<=g x):(l.map f).sum<=(l.map g).sum/\((∃ x∈l,f x<g x)->(l.map f).sum<(l.map g).sum):=by
 induction l with
 |nil=>exact⟨bF _,fun⟨x,hx,_⟩=>by simp at hx⟩
 |cons a l ih=>
  obtain⟨i1,i2⟩:=ih fun x hx=>hl x (by simp[hx]);have ha:=hl a oS;simp only[List.map_cons,List.sum_cons];refine⟨oG,fun⟨x,hx,ao⟩=>?_⟩;rcases List.mem_cons.1 hx with e|e
  .subst e;omega
  .have:=i2 ⟨x,e,ao⟩;omega
theorem afj{out:List Int}(C:y3 beh n out):Gg beh n out<=n*n:=by
 have h1:Gg beh n out<=((cS beh n).tail.map fun _=>n).sum:=(T0 fun x hx=>by
  obtain⟨i,hi⟩:=cC hx;obtain⟨c,rfl,rc,_,J⟩:=Ha h hi;have:=EG h (C.1.tree.par c rc J).1;have:=Ey h;simp only[bN]
  omega).1
 have h2:((cS beh n).tail.map fun _=>n).sum=(cS beh n).tail.length*n:=by
  generalize (cS beh n).tail=l;clear h1
  induction l with
  |nil=>simp
  |cons a l ih=>simp only[List.map_cons,List.sum_cons,ih,List.length_cons,Nat.succ_mul];omega
 have h3:(cS beh n).tail.length<=n:=by have:=Ey h;rw[List.length_tail];omega
 have:=Nat.mul_le_mul_right n h3;omega
theorem afk{out:List Int}(C:y3 beh n out)(hc:(sd (plL beh n) ahd (cS beh n).tail out).2=true):Gg beh n (sd (plL beh n) ahd (cS beh n).tail out).1<Gg beh n out:=by
 obtain⟨_,h2,h3,_⟩:=J3 h C;obtain⟨x,J,M,ao⟩:=h3 hc;refine(T0 fun b hb=>?_).2 ?_
 .obtain⟨i,hi⟩:=cC hb;obtain⟨c,rfl,rc,_,X⟩:=Ha h hi;exact h2 _ (by simpa using rc)
 .obtain⟨i,hi,_⟩:=Rj h J M;exact⟨x,bU hi,by simpa using ao⟩
def CF(beh ahd:Nat->List Int)(n:Nat)(F:List Int)(k:Nat)(out:List Int):Prop:=
 Hr (plL beh n) ahd (cS beh n).tail k out=F/\(out=l0 n/\n*n+1<k\/y3 beh n out/\Gg beh n out<k)
theorem J0{F out:List Int}{k:Nat}(hs:CF beh ahd n F k out):let s:=sd (plL beh n) ahd (cS beh n).tail out
 0<k/\(s.2=true->CF beh ahd n F (k - 1) s.1)/\(s.2=false->s.1=F/\Lr beh n F):=by
 obtain⟨e,hs⟩:=hs;have hk:0<k:=by rcases hs with⟨_,hs⟩|⟨_,hs⟩<;>omega
 obtain⟨k,rfl⟩:∃ j,k=j+1:=⟨k - 1,oG⟩
 rw[Hr] at e;refine⟨hk,fun hc=>?_,fun hc=>?_⟩
 .rw[if_pos hc] at e;refine⟨e,.inr ?_⟩;rcases hs with⟨rfl,hs⟩|⟨C,hs⟩
  .have:=(PO h).1;exact⟨this,by have:=afj h this;omega⟩
  .exact⟨(J3 h C).1,by have:=afk h C hc;omega⟩
 .rw[if_neg (by rw[hc];exact Bool.noConfusion)] at e;refine⟨e,?_⟩;rw[<- e];rcases hs with⟨rfl,hs⟩|⟨C,hs⟩
  .obtain⟨J,X⟩:=PO h;refine⟨J,fun c rc M=>?_⟩;obtain⟨i,hi,_⟩:=Rj h rc M;rw[X hc] at hi;simp at hi
  .obtain⟨J,_,_,p4⟩:=J3 h C;obtain⟨q1,q2⟩:=p4 hc;rw[q1];exact⟨C,q2⟩
def VK(C:List Int)(n:Nat)(o:List Int)(V:Nat->Prop)(pl:Nat->Nat):Prop:=
 o.length=n/\(∀ x,V x->x<n/\pl x<n)/\(∀ x:Nat,¬ dC o x= -1->V x)/\
 (∀ l:List Int,(∀ a∈l,0<=a)->nU C o l= -1\/∃ q:Nat,nU C o l=q/\V q)/\
 (∀ x a:Nat,V x->V a->x≠a->if mC C a<mC C x then(∃ y:Nat,dC o x=y/\V y/\pl y<pl x) else(∃ y:Nat,dC o a=y/\V y/\pl y<pl a))
theorem T1{V:Nat->Prop}{o:List Int}(ht:kn V (eF beh n) (dJ o))(hg:Co V n o)(J:∀ x,V x->bM beh n x):VK (plL beh n) n o V (eF beh n):=by
 have g:=we h
 have lt:∀ x,V x->eF beh n x<n:=fun x C=>by
  have:=EG h (J x C);have:=Ey h;omega
 refine⟨hg.len,fun x C=>⟨B4 h (J x C),lt x C⟩,fun x hx=>?_,fun l hl=>?_,fun x a C M X=>?_⟩
 .exact Classical.byContradiction fun hn=>hx (hg.un x hn)
 .rcases K4 (plL:=plL beh n) (pl:=eF beh n) (fun x C=>EH h (J x C)) (fun x C=>Lq h (J x C)) hg ht g.qE (fun x a C M=>g.inj x a (J x C) (J a M)) hl with⟨h1,_⟩|⟨q,h1,h2,_⟩
  .exact .inl h1
  .exact .inr ⟨q,h1,h2⟩
 .rw[EH h (J x C),EH h (J a M)]
  have hs:∀ x,V x->x≠0->∃ y:Nat,dC o x=y/\V y/\eF beh n y<eF beh n x:=fun x C hz=>by
   obtain⟨p1,p2⟩:=ht.par x C hz;exact⟨dJ o x,by unfold dJ;rw[Int.toNat_of_nonneg (hg.set x C)],p1,p2⟩
  have h0:=g.qE;split
  .rename_i hl;exact hs x C fun e=>by rw[e,h0] at hl;omega
  .rename_i hl
   exact hs a M fun e=>by
    subst e;exact X (g.inj x 0 (J x C) (J 0 M) oG)
theorem acD{F out:List Int}{k:Nat}(hs:CF beh ahd n F k out):out.length=n/\∀ j,j<=(cS beh n).tail.length->
 ∃ (V:Nat->Prop) (pl:Nat->Nat),VK (plL beh n) n (((cS beh n).tail.take j).foldl (kq (plL beh n) ahd) (out,false)).1 V pl:=by
 rcases hs.2 with⟨rfl,_⟩|⟨C,_⟩
 .refine⟨by simp[l0],fun j hj=>?_⟩;obtain⟨h1,h2,_⟩:=Kv h j hj;exact⟨_,_,T1 h h1.tree h2 fun x hx=>hx.1⟩
 .refine⟨C.2.len,fun j hj=>?_⟩;obtain⟨h1,h2,_⟩:=Kw h C j hj;exact⟨_,_,T1 h h1.tree h2 fun x hx=>hx⟩
def AK(beh ahd:Nat->List Int)(n:Nat):List Int:=Hr (plL beh n) ahd (cS beh n).tail (n*n+2) (l0 n)
def gg(beh ahd:Nat->List Int)(n:Nat):List Int:=(AK beh ahd n).set 0 (-1)
omit h in
theorem PK:CF beh ahd n (AK beh ahd n) (n*n+2) (l0 n):=⟨rfl,.inl ⟨rfl,oG⟩⟩
theorem Rk{F:List Int}:∀ {k:Nat} {out:List Int},CF beh ahd n F k out->Lr beh n F
 |0,out,hs=>absurd (J0 h hs).1 (Nat.lt_irrefl 0)
 |k+1,out,hs=>by
  obtain⟨_,h2,h3⟩:=J0 h hs;cases e:(sd (plL beh n) ahd (cS beh n).tail out).2 with
  |true=>exact Rk (h2 e)
  |false=>exact(h3 e).2
theorem Aj:Lr beh n (AK beh ahd n):=Rk h PK
theorem z2:(gg beh ahd n).length=n:=by
 unfold gg;rw[List.length_set];exact(Aj h).1.2.len
theorem JB(x:Nat):dC (gg beh ahd n) x=if x=0 then -1 else dC (AK beh ahd n) x:=by
 unfold gg;exact Ai (b:=0) (by rw[(Aj h).1.2.len];exact h.pos)
def vH(beh:Nat->List Int)(a b:Nat):Prop:=¬ Av (iX beh) a b
def fu(beh ahd:Nat->List Int)(n:Nat):Nat->Nat:=dJ (AK beh ahd n)
theorem pS:kn (bM beh n) (eF beh n) (fu beh ahd n):=(Aj h).1.1.tree
theorem sj{a b:Nat}(C:bM beh n b):bL (fu beh ahd n) a b↔vH beh a b:=(Aj h).1.1.vJ (we h) (Aj h).2 C
theorem HB{b:Nat}(J:bM beh n b)(C:b≠0):dC (gg beh ahd n) b=(fu beh ahd n b:Nat)/\bM beh n (fu beh ahd n b)/\eF beh n (fu beh ahd n b)<eF beh n b:=by
 refine⟨?_,(pS h).par b J C⟩;rw[JB h,if_neg C];unfold fu dJ;rw[Int.toNat_of_nonneg ((Aj h).1.2.set b J)]
theorem SJ{b:Nat}(C:¬ bM beh n b):dC (gg beh ahd n) b= -1:=by
 rw[JB h];split
 .rfl
 .exact(Aj h).1.2.un b C
theorem Rm:dC (gg beh ahd n) (0:Nat)= -1:=by
 rw[JB h,if_pos rfl]
end
section
variable{beh ahd:Nat->List Int}{n:Nat}(h:ua beh ahd n)
include h
end
section
variable{cnt:List Bool}{ahd:Nat->List Int}{n:Nat}(xY:∀ b,∀ a∈ahd b,0<=a/\a.toNat<n)
include xY
end
section
variable{beh ahd:Nat->List Int}{n:Nat}(h:ua beh ahd n)
include h
end
end Go.Argus
section
open Go Go.Abs Go.Proofs Go.Argus
namespace Go.Proofs.Tryz.K
theorem R0(n:Nat)(b:Int):replD n [I b]=(replicate n b).map I:=by
 unfold replD
 induction n with
 |zero=>rfl
 |succ n ih=>rw[List.replicate_succ,List.replicate_succ,List.flatten_cons,List.map_cons,ih];rfl
theorem Ow{n:Nat}{x:Int}(X:n<=100000):OCall prog 94 [I n,I x] ((replicate n x).map I) n 3:=by
 refine zH Xd (.cons (Tr.s _) (.cons (Tr.s _) .nil)) (.map fun _=>.s _) ?_;rw[akU];refine ws (SS ?_);refine af (az ?_);have C:((n:Nat):Int).toNat=n:=bN n;refine SS ?_;refine iz (Bz rfl rfl V.h V.h) ak ⟨oG,rfl,oG,by rw[b3];omega,V.h⟩ (SS ?_);refine af (aW (aQ (l:=[(1,I x),(5,.rs 0 0 n)]) (ml:=[(0,.cells ((replicate n (0:Int)).map I) 3)]) ⟨rfl,?_,trivial⟩ ⟨?_,trivial⟩) (aB (az ?_)))
 .exact congrArg (fun k=>D.rs 0 0 k) C
 .exact congrArg (fun c=>some (Row.cells c 3)) ((congrArg (fun k=>replD k [I 0]) C).trans (R0 n 0))
 refine aq ?_
 refine af (bR (fun s=>Ghost prog s ⟨aD [(5,.rs 0 0 n)],bf [(0,.cells ((replicate n x).map I) 3)],1⟩) (dV (α:=Nat)
  (fun k=>⟨aD [(1,I x),(5,.rs 0 0 n),(10,I n),(11,I k)],bf [(0,.cells ((replicate k x++replicate (n - k) 0).map I) 3)],1⟩)
  (fun k=>k<=n) (fun k=>n - k) 0 (aQ eH eH) oG ?_) ?_)
 .intro k hk;refine SS ?_;refine af ⟨_,rfl,fun h=>?_,fun h=>?_⟩
  .have ao:k<n:=by simpa using h
   have J:=Hj (x:=x) (y:=0) ao;have hl:(replicate k x++replicate (n - k) (0:Int)).length=n:=by simp;omega
   refine ws (ag ?_);refine af (ff (aN ?_));refine af (ag ?_);refine af (aK (k+1) (aQ eH ⟨?_,trivial⟩) oG oG);rw[<- J,List.map_set];rfl
  .have M:¬ k<n:=by simpa using h
   have:k=n:=by omega
   subst this;refine aQ eH ⟨?_,trivial⟩;rw[Nat.sub_self,List.replicate_zero,List.append_nil];rfl
 rintro s hg;refine⟨_,hg,aj ?_⟩;refine ag ?_;refine af (av rfl ⟨0,rfl,rfl⟩)
theorem Bc{f:aG}{beh ahd:List (List Int)}{c:D}(hc:Tr c)(fY:c.one=true){n:Nat}(hn:beh.length=n)(qz:ahd.length=n)(pd:f.blocks.length=n)(jd:n<=1200)(hg:ua (aA beh) (aA ahd) n)(cZ:∀ b,(aA beh b).length<=100000)(my:∀ b,(aA ahd b).length<=100000):
 PCall prog 60 [.pt (bA f beh ahd c)] (au (gg (aA beh) (aA ahd) n)):=by
 have jY:=hg.pos;have Dm:=Dm (f:=f) (beh:=beh) (ahd:=ahd) hc fY hn pd jY oG hg.to cZ;refine bg Xe (.cons (z8 hc) .nil) (cL _) ?_;rw[akV];refine ws (SS ?_);refine af (az ?_);have Ox:=PK (beh:=aA beh) (ahd:=aA ahd) (n:=n);have Yo:gg (aA beh) (aA ahd) n=(AK (aA beh) (aA ahd) n).set 0 (-1):=rfl;have F3:=BM hg;have oe:=Ey hg;have iN:plL (aA beh) n=B2 (cS (aA beh) n) n:=rfl;obtain⟨T,hT⟩:=Bs hg.to jY;have CE:=fun F k out=>J0 (beh:=aA beh) (ahd:=aA ahd) (n:=n) hg (F:=F) (k:=k) (out:=out);have vA:=fun F k out=>acD (beh:=aA beh) (ahd:=aA ahd) (n:=n) hg (F:=F) (k:=k) (out:=out);rw[Yo];clear Yo;generalize AK (aA beh) (aA ahd) n=F at Ox ⊢;have CE:=CE F;have vA:=vA F;generalize cS (aA beh) n=O at Dm F3 oe iN hT CE vA;refine SS ?_;refine Ca Dm rfl cv (SS ?_);have dn:((f.blocks.length:Nat):Int).toNat=n:=pd;refine af (aW (lO (i:=0) (e:=3) (cs:=O.map I) (l:=[(0,.pt (bA f beh ahd c)),(3,au O)]) (ml:=[]) rfl ⟨rfl,?_,trivial⟩ trivial) (az ?_))
 .exact nw (by rw[c3];simp)
 refine bB ?_;refine iz (Bz rfl rfl V.h V.h) ak ⟨oG,rfl,oG,by rw[b3];omega,V.h⟩ (SS ?_);refine af (aW (aQ (l:=[(0,.pt (bA f beh ahd c)),(3,au O),(4,.rs 1 0 n)]) (ml:=[(1,.cells ((uD O n 0).map I) 3)]) ⟨rfl,rfl,?_,trivial⟩ ⟨?_,trivial⟩) (aB (az ?_)))
 .exact congrArg (fun k=>D.rs 1 0 k) dn
 .exact congrArg (fun c=>some (Row.cells c 3)) ((congrArg (fun k=>replD k [I 0]) dn).trans (R0 n 0))
 refine aq ?_
 refine af (bR (fun s=>Ghost prog s ⟨aD [(0,.pt (bA f beh ahd c)),(3,au O),(4,.rs 1 0 n)],bf [(1,.cells ((B2 O n).map I) 3)],2⟩) (dV (α:=Nat)
  (fun k=>⟨aD [(0,.pt (bA f beh ahd c)),(3,au O),(4,.rs 1 0 n),(23,au O),(24,I O.length),(25,I k)],bf [(1,.cells ((uD O n k).map I) 3)],2⟩)
  (fun k=>k<=O.length) (fun k=>O.length - k) 0 (aQ eH eH) (Nat.zero_le _) ?_) ?_)
 .intro k hk;clear Dm CE vA;have Yp:=Hl (ord:=O) (n:=n) k;refine SS ?_;refine af ⟨_,rfl,fun h=>?_,fun h=>?_⟩
  .have ao:k<O.length:=by simpa using h
   have hx:O[k]? =some O[k]:=aM ao;have FB:=F3 _ (cy ao);have J:uD O n (k+1)=(uD O n k).set (O.getD k 0).toNat k:=rfl;rw[getD_some hx] at J;generalize O[k]=b at hx FB J;obtain⟨C,rfl⟩:=cU FB.1;have pz:C<n:=FB.2;rw[bN] at J;refine ws (aN ?_);refine af (ff (aN ?_));refine af (ag ?_);refine af (aK (k+1) (aQ eH ⟨?_,trivial⟩) oG oG);rw[J,List.map_set];rfl
  .have a9:¬ k<O.length:=by simpa using h
   have:k=O.length:=by omega
   subst this;exact aQ eH eH
 have Fa:(B2 O n).length=n:=Qo;rw[<- iN] at Fa ⊢;clear iN;generalize plL (aA beh) n=PL at Fa CE vA ⊢;rintro s hg0;refine⟨_,hg0.trans (lO (i:=1) (e:=3) (cs:=PL.map I) (l:=[(0,.pt (bA f beh ahd c)),(3,au O),(4,au PL)]) (ml:=[]) rfl ⟨rfl,rfl,?_,trivial⟩ trivial),az ?_⟩
 .exact(nw (by rw[c3];simp[Fa])).trans (by rw[au,Fa])
 have Ow:OCall prog 94 [I f.blocks.length,I (-1)] ((replicate n (-1)).map I) n 3:=by rw[pd];exact Ow oG
 clear Dm;refine bB ?_;refine Ca Ow rfl cv (SS ?_);refine af (aW (aQ (l:=[(0,.pt (bA f beh ahd c)),(3,au O),(4,au PL),(7,.rs 2 0 n)]) (ml:=[(2,.cells ((replicate n (-1)).map I) 3)]) ⟨rfl,rfl,rfl,?_,trivial⟩ eH) (az ?_))
 .exact congrArg (fun k=>D.rs 2 0 k) oS
 have zE:(replicate n (-1:Int))[0]? =some (-1):=by simp[jY]
 refine aq ?_;refine af (aW (aQ (l:=[(0,.pt (bA f beh ahd c)),(3,au O),(4,au PL),(7,.rs 2 0 n)]) (ml:=[(2,.cells ((l0 n).map I) 3)]) eH ⟨?_,trivial⟩) (aB (az ?_)))
 .unfold l0;rw[List.map_set];rfl
 clear zE;refine SS ?_
 refine af (bR (fun s=>Ghost prog s ⟨aD [(7,.rs 2 0 n)],bf [(2,.cells (F.map I) 3)],3⟩/\F.length=n) (yx (α:=Nat×List Int×Bool)
  (fun s=>⟨aD [(0,.pt (bA f beh ahd c)),(3,au O),(4,au PL),(7,.rs 2 0 n),(8,B s.2.2)],bf [(2,.cells (s.2.1.map I) 3)],3⟩)
  (fun s=>s.2.1.length=n/\(s.2.2=true->CF (aA beh) (aA ahd) n F s.1 s.2.1)/\(s.2.2=false->s.2.1=F)) (fun s=>2*s.1+if s.2.2=true then 1 else 0) (n*n+2,l0 n,true)
  (aQ eH eH) ⟨by simp[l0],fun _=>Ox,fun h=>by cases h⟩ ?_) ?_)
 .clear Ox;rintro⟨k,out,ch⟩ ⟨Xf,qx,zd⟩;dsimp only at Xf qx zd ⊢;refine SS ?_;refine af ⟨_,rfl,fun h0=>?_,fun h=>?_⟩
  .have hS:=qx h0;obtain⟨dT,fN,rS⟩:=CE _ _ hS;obtain⟨_,vA⟩:=vA _ _ hS;subst hT;refine ws (SS ?_);refine af (az ?_);have aoH:T.length+1<=n:=by simpa using oe
   have Xg:(0::T).length=T.length+1:=rfl;refine SS ?_;refine aI (wq rfl V.h V.h rfl rfl rfl) ak ⟨V.h,oG,oG,oG⟩ (ag ?_);simp only[List.tail_cons] at vA
   refine af (dV (α:=Nat)
    (fun j=>⟨aD [(0,.pt (bA f beh ahd c)),(3,au (0::T)),(4,au PL),(7,.rs 2 0 n),(8,B ((T.take j).foldl (kq PL (aA ahd)) (out,false)).2),(46,au T),(47,I T.length),(48,I j)],bf [(2,.cells (((T.take j).foldl (kq PL (aA ahd)) (out,false)).1.map I) 3)],3⟩)
    (fun j=>j<=T.length) (fun j=>T.length - j) 0 (aQ ⟨rfl,rfl,rfl,rfl,rfl,?_,?_,rfl,trivial⟩ eH) (Nat.zero_le _) ?_)
   .have e:((((0:Int)::T).length:Int) - 1).toNat=T.length:=by rw[Xg];omega
    show D.sl (List.take (((((0:Int)::T).length:Int) - 1).toNat*1) (List.map I T)) ((((0:Int)::T).length:Int) - 1).toNat=au T;rw[e,Nat.mul_one,au,df oS]
   .exact congrArg I (by rw[Xg];omega)
   intro j hj;have cg:∀ b,T[j]? =some b->(T.take (j+1)).foldl (kq PL (aA ahd)) (out,false)=kq PL (aA ahd) ((T.take j).foldl (kq PL (aA ahd)) (out,false)) b:=fun b hb=>oB (f:=kq PL (aA ahd)) hb;have fS:j=T.length->(T.take j).foldl (kq PL (aA ahd)) (out,false)=sd PL (aA ahd) T out:=fun e=>by rw[e,List.take_length];rfl
   obtain⟨VV,pl,hV⟩:=vA j hj;generalize (T.take j).foldl (kq PL (aA ahd)) (out,false)=s at cg fS hV;obtain⟨o,fl⟩:=s;dsimp only at hV ⊢;obtain⟨Oy,F4,Yq,Xh,mh⟩:=hV;refine SS ?_;refine af ⟨_,rfl,fun h=>?_,fun h=>?_⟩
   .have ao:j<T.length:=by simpa using h
    have vU:T[j]? =some T[j]:=aM ao;have Oz:=F3 T[j] oS;generalize T[j]=b at vU Oz;obtain⟨C,rfl⟩:=cU Oz.1;have pz:C<n:=Oz.2;have J:=cg _ vU;have F5:kq PL (aA ahd) (o,fl) (C:Int)=if dC o C=nU PL o (aA ahd C) then(o,fl) else(o.set C (nU PL o (aA ahd C)),true):=rfl
    rw[F5] at J;clear F5;refine ws (aq ?_);refine er (SS ?_);have ur:ahd[C]? =some (aA ahd C):=tf oG;have qm:=DU hg C;have bC:=my C;have jZ:=fun a=>(hg.rI C a).1;refine af (aB (az ?_));generalize aA ahd C=l at ur qm jZ J bC
    have fM:∀ i,(l.take i).foldl (l5 PL o) (-1)= -1\/∃ q:Nat,(l.take i).foldl (l5 PL o) (-1)=q/\VV q:=fun i=>by
     exact Xh (l.take i) fun a h=>qm a (List.mem_of_mem_take h)
    refine aJ ?_
    refine af (bR (fun s=>Ghost prog s ⟨aD [(0,.pt (bA f beh ahd c)),(3,au (0::T)),(4,au PL),(7,.rs 2 0 n),(8,B fl),(10,I C),(11,I (nU PL o l)),(46,au T),(47,I T.length),(48,I j)],bf [(2,.cells (o.map I) 3)],3⟩) (dV (α:=Nat)
     (fun i=>⟨aD [(0,.pt (bA f beh ahd c)),(3,au (0::T)),(4,au PL),(7,.rs 2 0 n),(8,B fl),(10,I C),(11,I ((l.take i).foldl (l5 PL o) (-1))),(46,au T),(47,I T.length),(48,I j),(58,au l),(59,I l.length),(60,I i)],bf [(2,.cells (o.map I) 3)],3⟩)
     (fun i=>i<=l.length) (fun i=>l.length - i) 0 (aQ eH eH) (Nat.zero_le _) ?_) ?_)
    .intro i hi;have M:∀ a,l[i]? =some a->(l.take (i+1)).foldl (l5 PL o) (-1)=l5 PL o ((l.take i).foldl (l5 PL o) (-1)) a:=fun a ha=>oB ha;have og:i=l.length->(l.take i).foldl (l5 PL o) (-1)=nU PL o l:=fun e=>by rw[e,List.take_length];rfl
     have fM:=fM i;generalize (l.take i).foldl (l5 PL o) (-1)=nx at fM M og;refine SS ?_;refine af ⟨_,rfl,fun h=>?_,fun h=>?_⟩
     .have fX:i<l.length:=by simpa using h
      have uq:l[i]? =some l[i]:=aM fX;have OA:=cy fX;generalize l[i]=a at uq OA;have xY:=jZ a OA;have M:=M a uq;obtain⟨X,rfl⟩:=cU xY.1;have Yr:X<n:=xY.2.1;refine ws (aq ?_);refine af (aB (aj ?_))
      have jI:o[X]? =some (dC o X):=by
       have:=aM (show X<o.length by omega);rw[this];simp[dC,bl,this]
      have kd:=iE (f:=I) jI;have F5:l5 PL o nx (X:Int)=if dC o X= -1 then nx else if nx= -1 then(X:Int) else vB PL o (2*PL.length) nx X:=rfl
      rw[F5] at M;clear F5;have OB:=Yq X;generalize dC o X=v at jI kd M OB;refine aN ?_;refine af (cx rfl (fun h=>jw (mO ?_)) fun h=>bP (aB (aj ?_)))
      .have hv:v= -1:=by simpa using h
       rw[if_pos hv] at M;refine ag ?_;refine af (aK (i+1) (aQ ⟨rfl,rfl,rfl,rfl,rfl,rfl,?_,rfl,rfl,rfl,rfl,rfl,rfl,trivial⟩ eH) oG oG);rw[M];rfl
      .have hv:¬ v= -1:=by simpa using h
       have va:=OB hv;rw[if_neg hv] at M;clear OB kd jI;refine ag ?_;refine af (cx rfl (fun h=>aB (aj ?_)) fun h=>Zf ?_)
       .have hx:nx= -1:=by simpa using h
        rw[if_pos hx] at M;refine ag ?_;refine af (jw (mO (ag ?_)));refine af (aK (i+1) (aQ ⟨rfl,rfl,rfl,rfl,rfl,rfl,?_,rfl,rfl,rfl,rfl,rfl,rfl,trivial⟩ eH) oG oG);rw[M];rfl
       .have hx:¬ nx= -1:=by simpa using h
        rw[if_neg hx] at M;obtain⟨q,rfl,vq⟩:=fM.resolve_left hx;have M:(l.take (i+1)).foldl (l5 PL o) (-1)=vB PL o (2*n) q X:=by rw[M,Fa]
        have hvq:=F4 q vq;have F6:=F4 X va
        refine yx (α:=Nat×Nat×Nat)
         (fun s=>⟨aD [(0,.pt (bA f beh ahd c)),(3,au (0::T)),(4,au PL),(7,.rs 2 0 n),(8,B fl),(10,I C),(11,I s.2.1),(13,I s.2.2),(46,au T),(47,I T.length),(48,I j),(58,au l),(59,I l.length),(60,I i)],bf [(2,.cells (o.map I) 3)],3⟩)
         (fun s=>VV s.2.1/\VV s.2.2/\pl s.2.1+pl s.2.2<s.1/\(l.take (i+1)).foldl (l5 PL o) (-1)=vB PL o s.1 s.2.1 s.2.2) (fun s=>s.1) (2*n,q,X)
         (aQ eH eH) ⟨vq,va,oM,M⟩ ?_
        clear vq va hvq F6 M hv hx uq OA xY Yr;rintro⟨k,x,a⟩ ⟨vx,va,rM,fC⟩;dsimp only at vx va rM fC ⊢;refine aq ?_;refine af ⟨_,rfl,fun h=>?_,fun h=>?_⟩
        .have aE:¬ (x:Int)=a:=by simpa using h
         obtain⟨k,rfl⟩:∃ k',k=k'+1:=⟨k - 1,oG⟩
         rw[vB,if_neg aE] at fC;have hxn:=F4 x vx;have Yr:=F4 a va;have mh:=mh x a vx va oG
         have hpx:PL[x]? =some (mC PL x):=by
          have:=aM (show x<PL.length by omega);rw[this];simp[mC,bl,this]
         have ug:PL[a]? =some (mC PL a):=by
          have:=aM (show a<PL.length by omega);rw[this];simp[mC,bl,this]
         have mB:o[x]? =some (dC o x):=by
          have:=aM (show x<o.length by omega);rw[this];simp[dC,bl,this]
         have jI:o[a]? =some (dC o a):=by
          have:=aM (show a<o.length by omega);rw[this];simp[dC,bl,this]
         generalize mC PL x=px at hpx fC mh;generalize mC PL a=pa at ug fC mh;generalize dC o x=ox at mB fC mh;generalize dC o a=oa at jI fC mh;refine dE aba (aJ ?_);refine a8 bc (aw rfl (fun h=>ff ?_) fun h=>ff ?_)
         .have rE:pa<px:=by simpa using h
          rw[if_pos rE] at fC mh;obtain⟨y,rfl,vy,hy⟩:=mh;have kd:=iE (f:=I) mB;refine aN ?_;refine af (aK (k,y,a) (aQ eH eH) ⟨vy,va,oM,fC⟩ (Nat.lt_succ_self _))
         .have rE:¬ pa<px:=by simpa using h
          rw[if_neg rE] at fC mh;obtain⟨y,rfl,vy,hy⟩:=mh;have kd:=iE (f:=I) jI;refine aN ?_;refine af (aK (k,x,y) (aQ eH eH) ⟨vx,vy,oM,fC⟩ (Nat.lt_succ_self _))
        .have he:(x:Int)=a:=by simpa using h
         have hr:(l.take (i+1)).foldl (l5 PL o) (-1)=x:=by
          rw[fC];cases k with
          |zero=>rfl
          |succ k=>rw[vB,if_pos he]
         refine ag ?_;refine af (aK (i+1) (aQ ⟨rfl,rfl,rfl,rfl,rfl,rfl,?_,rfl,rfl,rfl,rfl,rfl,rfl,trivial⟩ eH) oG oG);rw[hr];rfl
     .have a9:¬ i<l.length:=by simpa using h
      have:=og oG;subst this;exact ap eH
    rintro s xC;refine⟨_,xC,aj ?_⟩
    have Xi:o[C]? =some (dC o C):=by
     have:=aM (show C<o.length by omega);rw[this];simp[dC,bl,this]
    have kd:=iE (f:=I) Xi;generalize dC o C=v at Xi kd J;generalize nU PL o l=q at J;refine bB ?_;refine af (aw rfl (fun h=>ff ?_) fun h=>bS ?_)
    .have aE:¬ v=q:=by simpa using h
     rw[if_neg aE] at J;refine bB ?_;refine af (ag ?_);refine af (aK (j+1) (aQ ⟨rfl,rfl,rfl,rfl,?_,rfl,rfl,rfl,trivial⟩ ⟨?_,trivial⟩) oG oG)
     .rw[J];rfl
     .rw[J,List.map_set];rfl
    .have aE:v=q:=by simpa using h
     rw[if_pos aE] at J;refine ag ?_;refine af (aK (j+1) (aQ ⟨rfl,rfl,rfl,rfl,?_,rfl,rfl,rfl,trivial⟩ ⟨?_,trivial⟩) oG oG)
     .rw[J];rfl
     .rw[J];rfl
   .have a9:¬ j<T.length:=by simpa using h
    have hl:=fS oG;rw[List.tail_cons, <- hl] at fN rS;dsimp only at fN rS;have hL:True->o.length=n:=fun _=>Oy;clear Xh mh cg fS F4 Yq vA;cases fl with
    |true=>exact aK (k - 1,o,true) (aQ eH eH) ⟨Oy,fun _=>fN rfl,fun h=>by cases h⟩ (by dsimp only;rw[h0];simp;omega)
    |false=>exact aK (0,o,false) (aQ eH eH) ⟨Oy,fun h=>Bool.noConfusion h,fun _=>(rS rfl).1⟩ (by dsimp only;rw[h0];simp)
  .have:=zd h;subst this;exact⟨aQ eH eH,Xf⟩
 rintro s ⟨Ov,Ys⟩;refine⟨_,Ov,az ?_⟩;have zE:F[0]? =some (F[0]'oG):=aM oG;refine aq ?_;refine af (aW (lO (i:=2) (e:=3) (cs:=(F.set 0 (-1)).map I) (l:=[(7,au (F.set 0 (-1)))]) (ml:=[]) ?_ ⟨?_,trivial⟩ trivial) (aj ?_))
 .rw[List.map_set];rfl
 .exact(nw (by rw[c3];simp[Ys])).trans (by rw[au,List.length_set,Ys])
 refine ag ?_;refine af (av rfl rfl)
end Go.Proofs.Tryz.K
namespace Go.Argus
def aT(f:aG):Nat->List Int:=aA (bI f)
def c9(f:aG):Nat->List Int:=aA (cM f.blocks)
theorem KY{f:aG}{c:Nat}(h:c<f.blocks.length):c9 f c=bH f.blocks f.blocks.length c:=by
 unfold c9 aA;rw[bl,JI rfl h];rfl
theorem Re{f:aG}{c:Nat}(h:f.blocks.length<=c):c9 f c=[]:=by
 unfold c9 aA;rw[bl,List.getElem?_eq_none (by simp[cM];omega)];rfl
theorem xf{f:aG}(h:qR f):ua (aT f) (c9 f) f.blocks.length:=by
 refine⟨h.pos,Go.Proofs.Tryz.K.beh_in h,fun c a=>?_⟩;rcases Nat.lt_or_ge c f.blocks.length with g|g
 .rw[KY g,Gu];constructor
  .rintro⟨b,rfl,hb,x,hx,t,ht,e⟩;refine⟨oG,hb,?_⟩;show(c:Int)∈aA (bI f) _;rw[bN,yv hx];have:=Go.Proofs.Tryz.K.beh_in h b t (by rw[yv hx];exact ht);have e2:(c:Int)=t:=by omega
   rw[e2];exact ht
  .rintro⟨h0,hl,hm⟩;obtain⟨b,rfl⟩:=cU h0;rw[bN] at hl hm;have hx:=aM hl;have hm:(c:Int)∈aA (bI f) b:=hm;rw[yv hx] at hm;exact⟨b,rfl,hl,_,hx,c,hm,oG⟩
 .rw[Re g];refine⟨fun x=>by simp at x,fun⟨_,_,hm⟩=>?_⟩;have:=(Go.Proofs.Tryz.K.beh_in h _ _ hm).2;omega
theorem G0{f:aG}(h:qR f)(b:Nat):(c9 f b).length<=100000:=by
 rcases Nat.lt_or_ge b f.blocks.length with g|g
 .rw[KY g];have:=Gv (bs:=f.blocks) (fun b hb=>by have:=(h.ends b hb).wh;omega) f.blocks.length b;have:=h.mz;omega
 .rw[Re g];simp
def KZ(l:List Int):Prop:=∀ (i j:Nat) x y,i<=j->l[i]? =some x->l[j]? =some y->x<=y
end Go.Argus
namespace Go.Proofs.Tryz.K
theorem akh{f:aG}(h:qR f){c:D}(hc:Tr c)(fY:c.one=true):PCall prog 60 [.pt (bA f (bI f) (cM f.blocks) c)] (au (gg (aT f) (c9 f) f.blocks.length)):=
 Bc hc fY (by simp[bI]) (by simp[cM]) rfl h.mz (xf h) (KQ h) (G0 h)
end Go.Proofs.Tryz.K
end
namespace Go.Argus
open Go Go.Abs
def alL(l:List Int)(j k:Nat):Prop:=(∀ p q,p<q->q<=k->p≠j->q≠j->l.getD p 0<=l.getD q 0)/\∀ q,j<q->q<=k->l.getD j 0<=l.getD q 0
def Xw(l:List Int)(k:Nat):Prop:=∀ p q,p<=q->q<=k->l.getD p 0<=l.getD q 0
theorem Qy{l:List Int}{j:Nat}(h:j+1<l.length)(i:Nat):(swapAt l j).getD i 0=if i=j then l.getD (j+1) 0 else if i=j+1 then l.getD j 0 else l.getD i 0:=by
 unfold swapAt;simp only[bl,List.getElem?_set,List.length_set];by_cases e:j=i
 .subst e;rw[if_pos rfl,if_pos rfl,if_pos oG];rfl
 .rw[if_neg e,if_neg (show ¬ i=j from fun h=>e h.symm)];by_cases e2:j+1=i
  .subst e2;rw[if_pos rfl,if_pos rfl,if_pos h];rfl
  .rw[if_neg e2,if_neg (show ¬ i=j+1 from fun h=>e2 h.symm)]
theorem SK{k:Nat}:∀ {j:Nat} {l:List Int},j<=k->k<l.length->alL l j k->Xw (qg l j) k
 |0,l,_,_,h=>fun p q C hq=>by
  rw[qg];rcases Nat.lt_or_ge p q with g|g
  .by_cases hp:p=0
   .subst hp;exact h.2 q g hq
   .exact h.1 p q g hq hp oG
  .have:p=q:=by omega
   subst this;exact Int.le_refl _
 |j+1,l,hj,hk,h=>by
  rw[qg];split
  .rename_i ao;have hs:=Qy (l:=l) (j:=j) oG;refine SK oG (by simpa using hk) ⟨fun p q C hq hp M=>?_,fun q hq J=>?_⟩
   .rw[hs,hs,if_neg hp,if_neg M];by_cases e1:p=j+1
    .rw[if_pos e1,if_neg oG];exact h.1 j q oG hq oG oG
    .rw[if_neg e1];by_cases e2:q=j+1
     .rw[if_pos e2];exact h.1 p j oG oG e1 oG
     .rw[if_neg e2];exact h.1 p q C hq e1 e2
   .rw[hs,hs,if_pos rfl,if_neg oG];by_cases e2:q=j+1
    .rw[if_pos e2];omega
    .rw[if_neg e2];exact h.2 q oG J
  .rename_i X;intro p q C hq;rcases Nat.lt_or_ge p q with g|g
   .by_cases e1:p=j+1
    .subst e1;exact h.2 q g hq
    .by_cases e2:q=j+1
     .subst e2;by_cases e3:p=j
      .subst e3;omega
      .have:=h.1 p j oG oG oG oG;omega
     .exact h.1 p q g hq e1 e2
   .have:p=q:=by omega
    subst this;exact Int.le_refl _
theorem Rn{i:Nat}:∀ {j:Nat} {l:List Int},j<i->j<l.length->(qg l j).getD i 0=l.getD i 0
 |0,l,_,_=>rfl
 |j+1,l,h,hl=>by
  rw[qg];split
  .rw[Rn oG oP,Qy oG,if_neg oG,if_neg oG]
  .rfl
theorem Rp{l:List Int}:∀ k,k<l.length->Xw (nT l k) k/\∀ i,k<i->(nT l k).getD i 0=l.getD i 0
 |0,_=>⟨fun p q C hq=>by
  have:p=q:=by omega
  subst this;exact Int.le_refl _,fun _ _=>rfl⟩
 |k+1,hk=>by
  obtain⟨h1,h2⟩:=Rp (l:=l) k oG;rw[nT];refine⟨SK (bF _) (by simpa using hk) ⟨fun p q C hq hp J=>h1 p q oG oG,fun q hq J=>by omega⟩,fun i hi=>?_⟩;rw[Rn hi oP];exact h2 i oG
theorem Zi(l:List Int):KZ (gB l):=fun i j x y C hx hy=>by
 obtain⟨hj,J⟩:=bw.1 hy;have hl:(gB l).length=l.length:=JS l;have h:=(Rp (l:=l) (l.length - 1) oG).1 i j C oG;have e:nT l (l.length - 1)=gB l:=rfl;rw[e,bl,bl,hx,hy] at h;exact h
theorem T2{d:List Int}(hs:KZ d):∀ t,t<=d.length->(fZ d t).Pairwise (·<·)/\(0<t->∀ x∈fZ d t,x<=d.getD (t - 1) 0)
 |0,_=>⟨by simp[fZ],fun h=>absurd h (Nat.lt_irrefl 0)⟩
 |t+1,ht=>by
  obtain⟨h1,h2⟩:=T2 hs t oG
  have hg:∀ i,i<d.length->d[i]? =some (d.getD i 0):=fun i hi=>by
   have:=aM hi;rw[bl,this];rfl
  have C:∀ x∈fZ d t,x<=d.getD t 0:=fun x hx=>by
   have h0:0<t:=by
    cases t with
    |zero=>simp[fZ] at hx
    |succ t=>omega
   have a:=h2 h0 x hx;have b:=hs (t - 1) t _ _ oG (hg _ oG) (hg _ oG);omega
  rw[fZ];split
  .rw[List.append_nil];exact⟨h1,fun _ x hx=>by rw[Nat.add_sub_cancel];exact C x hx⟩
  .rename_i J;refine⟨?_,fun _ x hx=>?_⟩
   .rw[List.pairwise_append];refine⟨h1,oS,fun x hx y hy=>?_⟩;rw[List.mem_singleton] at hy;subst hy
    have h0:0<t:=by
     cases t with
     |zero=>simp[fZ] at hx
     |succ t=>omega
    have a:=h2 h0 x hx;have b:=hs (t - 1) t _ _ oG (hg _ oG) (hg _ oG);have c:d.getD t 0≠d.getD (t - 1) 0:=fun e=>J ⟨oG,e⟩;omega
   .rw[Nat.add_sub_cancel];rw[List.mem_append,List.mem_singleton] at hx;rcases hx with hx|hx
    .exact C x hx
    .rw[hx];exact Int.le_refl _
theorem Zx{d:List Int}(hs:KZ d):(ld d).Pairwise (·<·):=(T2 hs _ (bF _)).1
theorem JR(x:End):(Go.Proofs.Tryz.K.nextR x).Pairwise (·<·):=Zx (Zi _)
theorem aal{b:Nat}:∀ (l:List Int) (L:Nat->List Int),l.Pairwise (·<·)->(∀ t∈l,0<=t)->(∀ i,(L i).Pairwise (·<·)/\∀ x∈L i,x<(b:Int))->
 ∀ i,(l.foldl (dM b) L i).Pairwise (·<·)/\(∀ x∈l.foldl (dM b) L i,x<(b:Int)+1):=fun l=>by
 have key:∀ (l:List Int) (L:Nat->List Int),l.Pairwise (·<·)->(∀ t∈l,0<=t)->∀ i,l.foldl (dM b) L i=L i++(if(i:Int)∈l then [(b:Int)] else []):=fun l=>by
  induction l with
  |nil=>intro L _ _ i;simp
  |cons t l ih=>
   intro L hp h0 i;rw[List.pairwise_cons] at hp;have ht:=h0 t oS;obtain⟨C,rfl⟩:=cU ht;rw[List.foldl_cons,ih _ hp.2 (fun t h=>h0 t (by simp[h]))];unfold dM;simp only[bN,up];by_cases e:i=C
   .subst e;rw[if_pos rfl,if_neg (fun h=>by have:=hp.1 _ h;omega),if_pos oS,List.append_nil]
   .rw[if_neg e];congr 1;have:¬ (i:Int)=C:=by omega
    simp[this]
 intro L hp h0 J i;rw[key l L hp h0 i];obtain⟨h1,h2⟩:=J i;split
 .refine⟨?_,fun x hx=>?_⟩
  .rw[List.pairwise_append];exact⟨h1,oS,fun x hx y hy=>by rw[List.mem_singleton] at hy;rw[hy];exact h2 x hx⟩
  .rw[List.mem_append,List.mem_singleton] at hx;rcases hx with hx|hx
   .have:=h2 x hx;omega
   .omega
 .rw[List.append_nil];exact⟨h1,fun x hx=>by have:=h2 x hx;omega⟩
theorem JM{bs:List b7}(h0:∀ b∈bs,∀ t∈Go.Proofs.Tryz.K.nextR b.fin,0<=t):∀ k i,(bH bs k i).Pairwise (·<·)/\∀ x∈bH bs k i,x<(k:Int)
 |0,i=>by simp[bH]
 |k+1,i=>by
  have ih:=JM h0 k;have e:bH bs (k+1)=qQ bs (bH bs k) k:=by rw[bH,List.range_succ,List.foldl_append];rfl
  rw[e];unfold qQ;cases hx:bs[k]? with
  |none=>exact⟨(ih i).1,fun x hx=>by have:=(ih i).2 x hx;omega⟩
  |some b=>
   obtain⟨h1,h2⟩:=aal (b:=k) (Go.Proofs.Tryz.K.nextR b.fin) (bH bs k) (JR _) (h0 b (bU hx)) ih i;exact⟨h1,fun x hx=>by have:=h2 x hx;omega⟩
end Go.Argus
section
open Go Go.Abs Go.Proofs Go.Argus
namespace Go.Argus
def adY(p:Int×List Int):List D:=[I p.1,au p.2]
@[simp] theorem an5 (p : Int × List Int) : (adY p).length = 2 := rfl
end Go.Argus
end
namespace Go.Argus
open Go Go.Abs
open Go.Proofs.Tryz.K (nextR)
structure gp(w:List Int):Prop where
 len:w.length=20
 all:gj w
theorem gp.iH{w:List Int}(h:gp w)(n:Int):gp (iH w n):=⟨by simp[h.len],PJ h.all⟩
theorem gj.fK{w v:List Int}(h:gj w)(hv:gj v):∀ k,gj (fK w v k)
 |0=>h
 |k+1=>(gj.fK h hv k).set (Qd ((gj.fK h hv k).get _)).1
theorem Qz{w v:List Int}(h:gj w)(hv:gj v):∀ k,k<=w.length->∀ r,eY (fK w v k) r=(eY w r&&(eY v r|| !decide (r / 64<k)))
 |0,_,r=>by simp[Argus.fK]
 |k+1,hk,r=>by
  have ih:=Qz h hv k oG;rw[Argus.fK,SL oP];split
  .rename_i e;have h1:=ih r;have h2:¬ r / 64<k:=by omega
   simp only[h2,decide_false,Bool.not_false,Bool.or_true,Bool.and_true] at h1;unfold eY at h1;rw[e] at h1;rw[T3 ((gj.fK h hv k).get _) (hv.get _),h1];unfold eY;rw[e];simp
  .rename_i e;rw[ih r];have:decide (r / 64<k)=decide (r / 64<k+1):=decide_eq_decide.2 oG;rw[this]
theorem Kx{w v:List Int}(C:gp w)(hv:gp v)(r:Nat):eY (iI w v) r=(eY w r&&eY v r):=by
 unfold iI;rw[Qz C.all hv.all 20 (by rw[C.len];exact bF _)];by_cases hr:r / 64<20
 .simp[hr]
 .have:eY w r=false:=by
   unfold eY;rw[bl,List.getElem?_eq_none (by rw[C.len];omega)];simp
  simp[this]
theorem gp.Ng{w v:List Int}(C:gp w)(hv:gp v):gp (iI w v):=⟨by simp[C.len],C.all.fK hv.all 20⟩
theorem GO{α:Type}{f:CS->α->CS}(hk:∀ s a,s.ch=true->(f s a).ch=true)(hn:∀ s a,(f s a).ch=false->f s a=s):∀ (l:List α) (s:CS),(l.foldl f s).ch=false->l.foldl f s=s/\∀ a∈l,f s a=s
 |[],s,_=>⟨rfl,fun a ha=>by simp at ha⟩
 |a::l,s,h=>by
  obtain⟨h1,h2⟩:=GO hk hn l (f s a) h;have h3:f s a=s:=hn s a (by rw[<- h1];exact h);rw[h3] at h1 h2;refine⟨by rw[List.foldl_cons,h3];exact h1,fun b hb=>?_⟩;rcases List.mem_cons.1 hb with rfl|hb
  .exact h3
  .exact h2 b hb
theorem Rq{α:Type}{f:CS->α->CS}(hk:∀ s a,s.ch=true->(f s a).ch=true):∀ (l:List α) (s:CS),s.ch=true->(l.foldl f s).ch=true
 |[],_,h=>h
 |a::l,s,h=>Rq hk l (f s a) (hk s a h)
theorem Ls{x:End}{w:List Int}(s:CS)(t:Int)(h:s.ch=true):(cW x w s t).ch=true:=by
 unfold cW;split
 .rfl
 .exact h
theorem T4{x:End}{w:List Int}(s:CS)(t:Int)(h:(cW x w s t).ch=false):cW x w s t=s:=by
 unfold cW at h ⊢;split
 .rename_i hc;rw[if_pos hc] at h;cases h
 .rfl
theorem acZ{bs:List b7}(s:CS)(k:Nat)(h:s.ch=true):(dX bs s k).ch=true:=by
 unfold dX;split
 .exact h
 .split
  .exact Rq Ls _ s h
  .exact h
theorem ac0{bs:List b7}(s:CS)(k:Nat)(h:(dX bs s k).ch=false):dX bs s k=s:=by
 unfold dX at h ⊢;split
 .rfl
 .rename_i x hx;rw[hx] at h;simp only at h;split
  .rename_i hr;rw[if_pos hr] at h;exact(GO Ls T4 _ s h).1
  .rfl
structure Xx(bs:List b7)(s:CS):Prop where
 fix:∀ b x,bs[b]? =some x->s.re.getD b false=true->∀ t∈nextR x.fin,s.re.getD t.toNat false=true/\iI (s.ws.getD t.toNat []) (hD x.fin t (jJ x (s.ws.getD b [])).1)=s.ws.getD t.toNat []
theorem ac1{bs:List b7}{s:CS}(h:(kI bs s).ch=false):kI bs s=⟨s.ws,s.re,false⟩/\Xx bs (kI bs s):=by
 obtain⟨h1,h2⟩:=GO (acZ (bs:=bs)) (ac0 (bs:=bs)) (range bs.length) ⟨s.ws,s.re,false⟩ h;have e:kI bs s=⟨s.ws,s.re,false⟩:=h1;refine⟨e,⟨fun b x hx hr t ht=>?_⟩⟩;rw[e] at hr ⊢;have h3:=h2 b (List.mem_range.2 (bw.1 hx).1);have h4:(dX bs ⟨s.ws,s.re,false⟩ b).ch=false:=by rw[h3]
 unfold dX at h3 h4;rw[hx] at h3 h4;simp only at h3 h4 hr;rw[if_pos hr] at h3 h4;have h5:=(GO Ls T4 _ _ h4).2 t ht;have C:(cW x.fin (jJ x (s.ws.getD b [])).1 ⟨s.ws,s.re,false⟩ t).ch=false:=by rw[h5]
 unfold cW at C;split at C
 .cases C
 .rename_i hc;have hc:=not_or.1 hc;refine⟨by simpa using hc.1,Classical.byContradiction fun J=>hc.2 J⟩
theorem Rr{bs:List b7}{n:Nat}{J:CS->Prop}(hb:∀ b∈bs,tP n b)(C:∀ s,gC n s->J s->J (kI bs s)):∀ (k:Nat) (s:CS),gC n s->J s->rP s<k->gC n (nA bs k s)/\Xx bs (nA bs k s)/\J (nA bs k s)
 |0,s,_,_,h=>absurd h (Nat.not_lt_zero _)
 |k+1,s,hs,hj,h=>by
  obtain⟨M,X⟩:=Dv hb hs;unfold nA;split
  .rename_i hc;refine Rr hb C k _ M (C s hs hj) ?_;unfold pE at X;rw[if_pos hc] at X;omega
  .rename_i hc;exact⟨M,(ac1 (by simpa using hc)).2,C s hs hj⟩
theorem ac2{bs:List b7}{n:Nat}{J:CS->Prop}(hb:∀ b∈bs,tP n b)(h0:∀ s,J s->J ⟨s.ws,s.re,false⟩)(C:∀ s k,gC n s->J s->J (dX bs s k)){s:CS}(hs:gC n s)(h:J s):J (kI bs s):=by
 unfold kI
 have:∀ (l:List Nat) (s:CS),gC n s->J s->J (l.foldl (dX bs) s):=fun l=>by
  induction l with
  |nil=>exact fun s _ h=>h
  |cons a l ih=>exact fun s hs h=>ih _ (Km hb hs).1 (C s a hs h)
 exact this _ _ ⟨hs.lw,hs.lr,hs.kF,hs.rg⟩ (h0 s h)
theorem aef{bs:List b7}{n:Nat}{J:CS->Prop}(hb:∀ b∈bs,tP n b){s:CS}{k:Nat}(hs:gC n s)(h:J s)
 (C:∀ x,bs[k]? =some x->s.re.getD k false=true->∀ u,gC n u->J u->∀ t∈nextR x.fin,J (cW x.fin (jJ x (s.ws.getD k [])).1 u t)):J (dX bs s k):=by
 unfold dX;split
 .exact h
 .rename_i x hx;split
  .rename_i hr;have C:=C x hx hr;have X:=(hb x (bU hx)).to;generalize (jJ x (s.ws.getD k [])).1=w at C
   have:∀ (l:List Int),(∀ t∈l,t∈nextR x.fin)->∀ u,gC n u->J u->J (l.foldl (cW x.fin w) u):=fun l=>by
    induction l with
    |nil=>exact fun _ u _ h=>h
    |cons a l ih=>exact fun hl u M h=>ih (fun t ht=>hl t (by simp[ht])) _ (Gs M (X a (hl a oS))).1 (C u M h a (hl a oS))
   exact this _ (fun _ h=>h) s hs h
  .exact h
theorem gC.ns{n:Nat}{s:CS}(h:gC n s){b:Nat}(hb:b<n):gp (s.ws.getD b []):=by
 have hl:b<s.ws.length:=by rw[h.lw];exact hb
 have hx:s.ws[b]? =some s.ws[b]:=aM hl;rw[getD_some hx];have hm:s.ws[b]∈s.ws:=cy _;exact⟨h.kF _ hm,h.rg _ hm⟩
section
variable{bs:List b7}{args:Nat}(hb:∀ b∈bs,tP bs.length b)
include hb
end
theorem Av.ne{E:Nat->Nat->Prop}{w x:Nat}(h:Av E w x):x≠w:=by
 cases h with
 |zero h=>exact h
 |step _ _ h=>exact h
end Go.Argus
namespace Go.Proofs.Tryz.K
open Go.Abs
theorem abp:drawInfo (Z eT 16)=some [(17,19)]:=kr
theorem abq:drawInfo (Z eT 18)=some [(0,2)]:=kr
theorem abr:drawInfo (Z eT 26)=some [(0,9)]:=kr
theorem abt:drawInfo (Z eT 27)=some []:=kr
theorem abu:drawInfo (Z eT 29)=some [(0,7)]:=kr
theorem ak9:eT=(S1 (G1 eT 0) (S1 (G1 eT 1) (S1 (S1 (G1 eT 2) (C1 17 (S1 (G1 eT 3) .ret) K1)) (S1 (G1 eT 4) (S1 (G1 eT 5) (S1 (S1 (G1 eT 6) (B1 0 (.loop (S1 (S1 (G1 eT 7) (C1 26 K1 (X1 0))) (S1 (B1 1 (S1 (S1 (G1 eT 9) (C1 33 (X1 1) K1)) (S1 (G1 eT 10) (S1 (G1 eT 11) (S1 (S1 (G1 eT 12) (B1 2 (.loop (S1 (S1 (G1 eT 13) (C1 47 K1 (X1 2))) (S1 (B1 3 (S1 (G1 eT 15) (S1 (S1 (G2 eT 16) (C1 76 (S1 (G1 eT 17) .ret) K1)) (S1 (G2 eT 18) (S1 (S1 (G1 eT 19) (C1 83 (G1 eT 20) K1)) (S1 (G1 eT 21) (B1 4 (.loop (S1 (S1 (G1 eT 22) (C1 101 K1 (X1 4))) (S1 (B1 5 (S1 (G1 eT 24) (S1 (S1 (G1 eT 25) (C1 115 (X1 5) K1)) (S1 (G2 eT 26) (S1 (G2 eT 27) (C1 136 (S1 (G1 eT 28) .ret) K1)))))) (G1 eT 23))))))))))) (G1 eT 14)))))) (S1 (G2 eT 29) (C1 146 (S1 (G1 eT 30) .ret) K1))))))) (G1 eT 8)))))) (S1 (G1 eT 31) .ret))))))):=kr
theorem acI:drawInfo (Z pW 9)=some [(3,14),(4,14)]:=kr
theorem ak4:pW=(S1 (G1 pW 0) (S1 (G1 pW 1) (S1 (S1 (G1 pW 2) (B1 0 (.loop (S1 (S1 (G1 pW 3) (C1 15 K1 (X1 0))) (S1 (B1 1 (S1 (G1 pW 5) (S1 (G1 pW 6) (B1 2 (.loop (S1 (S1 (G1 pW 7) (C1 24 K1 (X1 2))) (S1 (B1 3 (G2 pW 9)) (G1 pW 8)))))))) (G1 pW 4)))))) (S1 (G1 pW 10) .ret)))):=kr
theorem ak2:uZ=(S1 (G1 uZ 0) (S1 (G1 uZ 1) (S1 (G1 uZ 2) (S1 (S1 (G1 uZ 3) (B1 0 (.loop (S1 (S1 (G1 uZ 4) (C1 18 K1 (X1 0))) (S1 (B1 1 (G1 uZ 6)) (G1 uZ 5)))))) (S1 (G1 uZ 7) .ret))))):=kr
theorem ak0:u6=(S1 (G1 u6 0) (S1 (G1 u6 1) (S1 (B1 0 (.loop (S1 (S1 (G1 u6 2) (C1 18 K1 (X1 0))) (B1 1 (G1 u6 3))))) (S1 (S1 (G1 u6 4) (C1 32 (S1 (G1 u6 5) .ret) K1)) (S1 (G1 u6 6) (S1 (G1 u6 7) .ret)))))):=kr
theorem Z8:drawInfo (Z eJ 12)=some []:=kr
theorem Z9:drawInfo (Z eJ 26)=some []:=kr
theorem ahP:eJ=(S1 (G1 eJ 0) (S1 (G1 eJ 1) (S1 (S1 (G1 eJ 2) (C1 18 (S1 (G1 eJ 3) .ret) K1)) (S1 (G1 eJ 4) (S1 (S1 (G1 eJ 5) (B1 0 (.loop (S1 (S1 (G1 eJ 6) (C1 25 K1 (X1 0))) (S1 (B1 1 (S1 (G1 eJ 8) (S1 (G1 eJ 9) (B1 2 (.loop (S1 (S1 (G1 eJ 10) (C1 38 K1 (X1 2))) (S1 (B1 3 (S1 (G2 eJ 12) (S1 (G1 eJ 13) (C1 48 (S1 (G1 eJ 14) .ret) K1)))) (G1 eJ 11)))))))) (G1 eJ 7)))))) (S1 (G1 eJ 15) (S1 (G1 eJ 16) (S1 (S1 (G1 eJ 17) (B1 4 (.loop (S1 (S1 (G1 eJ 18) (C1 60 K1 (X1 4))) (S1 (B1 5 (S1 (G1 eJ 20) (S1 (S1 (G1 eJ 21) (C1 71 (S1 (G1 eJ 22) .ret) K1)) (S1 (S1 (G1 eJ 23) (B1 6 (.loop (S1 (S1 (G1 eJ 24) (C1 75 K1 (X1 6))) (S1 (B1 7 (S1 (G2 eJ 26) (C1 106 (S1 (G1 eJ 27) .ret) K1))) (G1 eJ 25)))))) (S1 (G1 eJ 28) (S1 (G1 eJ 29) (S1 (S1 (G1 eJ 30) (C1 117 (S1 (G1 eJ 31) .ret) K1)) (S1 (G1 eJ 32) (C1 120 (S1 (S1 (G1 eJ 33) (C1 125 (S1 (G1 eJ 34) .ret) K1)) (G1 eJ 35)) K1))))))))) (G1 eJ 19)))))) (S1 (G1 eJ 36) .ret))))))))):=kr
theorem aae:drawInfo (Z eK 19)=some []:=kr
theorem aaf:drawInfo (Z eK 25)=some [(0,8)]:=kr
theorem aag:drawInfo (Z eK 30)=some []:=kr
theorem aah:drawInfo (Z eK 32)=some []:=kr
theorem ah0:eK=(S1 (G1 eK 0) (S1 (G1 eK 1) (S1 (G1 eK 2) (S1 (S1 (G1 eK 3) (B1 0 (.loop (S1 (S1 (G1 eK 4) (C1 30 K1 (X1 0))) (S1 (B1 1 (G1 eK 6)) (G1 eK 5)))))) (S1 (G1 eK 7) (S1 (S1 (G1 eK 8) (B1 2 (.loop (S1 (S1 (G1 eK 9) (C1 45 K1 (X1 2))) (S1 (B1 3 (G1 eK 11)) (G1 eK 10)))))) (S1 (S1 (G1 eK 12) (B1 4 (.loop (S1 (S1 (G1 eK 13) (C1 54 K1 (X1 4))) (B1 5 (S1 (G1 eK 14) (S1 (G1 eK 15) (B1 6 (.loop (S1 (S1 (G1 eK 16) (C1 58 K1 (X1 6))) (S1 (B1 7 (S1 (S1 (G1 eK 18) (C1 65 (X1 7) K1)) (S1 (G2 eK 19) (S1 (G1 eK 20) (S1 (G1 eK 21) (B1 8 (.loop (S1 (S1 (G1 eK 22) (C1 79 K1 (X1 8))) (S1 (B1 9 (S1 (G1 eK 24) (S1 (G2 eK 25) (S1 (G1 eK 26) (S1 (S1 (G1 eK 27) (B1 10 (.loop (S1 (S1 (G1 eK 28) (C1 106 K1 (X1 10))) (S1 (B1 11 (G2 eK 30)) (G1 eK 29)))))) (S1 (G1 eK 31) (C1 124 (S1 (G2 eK 32) (G1 eK 33)) K1))))))) (G1 eK 23)))))))))) (G1 eK 17)))))))))))) (S1 (G1 eK 34) .ret)))))))):=kr
theorem abf:drawInfo (Z uQ 4)=some []:=kr
theorem ahq:uQ=(S1 (G1 uQ 0) (S1 (S1 (G1 uQ 1) (B1 0 (.loop (S1 (S1 (G1 uQ 2) (C1 9 K1 (X1 0))) (S1 (B1 1 (S1 (G2 uQ 4) (C1 20 (S1 (G1 uQ 5) .ret) K1))) (G1 uQ 3)))))) (S1 (G1 uQ 6) .ret))):=kr
theorem ahy:fR=(S1 (G1 fR 0) (S1 (S1 (G1 fR 1) (B1 0 (S1 (S1 (G1 fR 2) (C1 5 K1 (S1 (G1 fR 3) (C1 5 K1 (S1 (G1 fR 4) (C1 5 K1 (S1 (G1 fR 5) (C1 5 K1 (S1 (G1 fR 6) (C1 5 K1 (S1 (G1 fR 7) (C1 5 K1 (S1 (G1 fR 8) (C1 5 K1 (S1 (G1 fR 9) (C1 5 K1 (G1 fR 10))))))))))))))))) (C1 5 (S1 (G1 fR 11) .ret) (S1 (S1 (G1 fR 12) (C1 18 K1 (S1 (G1 fR 13) (C1 18 K1 (S1 (G1 fR 14) (C1 18 K1 (S1 (G1 fR 15) (C1 18 K1 (S1 (G1 fR 16) (C1 18 K1 (S1 (G1 fR 17) (C1 18 K1 (S1 (G1 fR 18) (C1 18 K1 (S1 (G1 fR 19) (C1 18 K1 (S1 (G1 fR 20) (C1 18 K1 (S1 (G1 fR 21) (C1 18 K1 (S1 (G1 fR 22) (C1 18 K1 (S1 (G1 fR 23) (C1 18 K1 (G1 fR 24))))))))))))))))))))))))) (C1 18 (S1 (G1 fR 25) .ret) (S1 (G1 fR 26) (C1 37 (S1 (G1 fR 27) .ret) (S1 (G1 fR 28) (C1 43 (S1 (G1 fR 29) .ret) K1)))))))))) (S1 (G1 fR 30) .ret))):=kr
theorem abg:drawInfo (Z wz 3)=some [(2,3),(2,4),(0,5),(1,5)]:=kr
theorem ahs:wz=(S1 (G1 wz 0) (S1 (S1 (G1 wz 1) (C1 7 (S1 (G1 wz 2) .ret) K1)) (S1 (G2 wz 3) (S1 (G1 wz 4) (S1 (G1 wz 5) .ret))))):=kr
theorem ahu:gY=(S1 (G1 gY 0) (S1 (S1 (G1 gY 1) (B1 0 (S1 (S1 (G1 gY 2) (C1 5 K1 (S1 (G1 gY 3) (C1 5 K1 (S1 (G1 gY 4) (C1 5 K1 (S1 (G1 gY 5) (C1 5 K1 (S1 (G1 gY 6) (C1 5 K1 (S1 (G1 gY 7) (C1 5 K1 (S1 (G1 gY 8) (C1 5 K1 (S1 (G1 gY 9) (C1 5 K1 (S1 (G1 gY 10) (C1 5 K1 (S1 (G1 gY 11) (C1 5 K1 (S1 (G1 gY 12) (C1 5 K1 (S1 (G1 gY 13) (C1 5 K1 (S1 (G1 gY 14) (C1 5 K1 (S1 (G1 gY 15) (C1 5 K1 (S1 (G1 gY 16) (C1 5 K1 (S1 (G1 gY 17) (C1 5 K1 (S1 (G1 gY 18) (C1 5 K1 (S1 (G1 gY 19) (C1 5 K1 (S1 (G1 gY 20) (C1 5 K1 (S1 (G1 gY 21) (C1 5 K1 (S1 (G1 gY 22) (C1 5 K1 (G1 gY 23))))))))))))))))))))))))))))))))))))))))))) (C1 5 (S1 (G1 gY 24) .ret) K1)))) (S1 (G1 gY 25) .ret))):=kr
theorem aab:drawInfo (Z pO 10)=some [(0,2)]:=kr
theorem ahY:pO=(S1 (G1 pO 0) (S1 (G1 pO 1) (S1 (G1 pO 2) (S1 (G1 pO 3) (S1 (S1 (G1 pO 4) (B1 0 (.loop (S1 (S1 (G1 pO 5) (C1 24 K1 (X1 0))) (S1 (B1 1 (G1 pO 7)) (G1 pO 6)))))) (S1 (S1 (G1 pO 8) (C1 52 (S1 (G1 pO 9) .ret) K1)) (S1 (G2 pO 10) .ret))))))):=kr
theorem abl:drawInfo (Z qL 5)=some [(0,5)]:=kr
theorem abm:drawInfo (Z qL 7)=some []:=kr
theorem ahW:qL=(S1 (G1 qL 0) (S1 (G1 qL 1) (S1 (S1 (G1 qL 2) (B1 0 (.loop (S1 (S1 (G1 qL 3) (C1 18 K1 (X1 0))) (S1 (B1 1 (S1 (G2 qL 5) (S1 (G1 qL 6) (C1 33 (G2 qL 7) K1)))) (G1 qL 4)))))) (S1 (G1 qL 8) .ret)))):=kr
theorem ahA:lT=(S1 (G1 lT 0) (S1 (S1 (G1 lT 1) (B1 0 (S1 (S1 (G1 lT 2) (C1 5 K1 (S1 (G1 lT 3) (C1 5 K1 (G1 lT 4))))) (C1 5 (S1 (G1 lT 5) .ret) (S1 (G1 lT 6) (C1 12 (S1 (S1 (G1 lT 7) (C1 16 (S1 (G1 lT 8) .ret) K1)) (S1 (G1 lT 9) .ret)) (S1 (G1 lT 10) (C1 20 (S1 (G1 lT 11) .ret) (S1 (S1 (G1 lT 12) (C1 25 K1 (G1 lT 13))) (C1 25 (S1 (G1 lT 14) .ret) K1)))))))))) (S1 (G1 lT 15) .ret))):=kr
theorem ahp:oL=(S1 (G1 oL 0) (S1 (G1 oL 1) (S1 (S1 (G1 oL 2) (C1 12 (G1 oL 3) K1)) (S1 (S1 (G1 oL 4) (C1 25 (G1 oL 5) K1)) (S1 (S1 (G1 oL 6) (B1 0 (.loop (S1 (S1 (G1 oL 7) (C1 35 K1 (X1 0))) (S1 (B1 1 (G1 oL 9)) (G1 oL 8)))))) (S1 (S1 (G1 oL 10) (C1 49 (G1 oL 11) K1)) (S1 (G1 oL 12) .ret))))))):=kr
theorem ahw:se=(S1 (G1 se 0) (S1 (S1 (G1 se 1) (B1 0 (S1 (G1 se 2) (C1 5 (S1 (G1 se 3) .ret) (S1 (S1 (G1 se 4) (C1 10 K1 (G1 se 5))) (C1 10 (S1 (G1 se 6) .ret) (S1 (G1 se 7) (C1 15 (S1 (G1 se 8) .ret) K1)))))))) (S1 (G1 se 9) .ret))):=kr
theorem Z2:drawInfo (Z jL 16)=some []:=kr
theorem ahC:jL=(S1 (G1 jL 0) (S1 (S1 (G1 jL 1) (C1 58 (S1 (G1 jL 2) .ret) K1)) (S1 (S1 (G1 jL 3) (B1 0 (.loop (S1 (S1 (G1 jL 4) (C1 63 K1 (X1 0))) (S1 (B1 1 (S1 (G1 jL 6) (C1 93 (S1 (G1 jL 7) .ret) K1))) (G1 jL 5)))))) (S1 (S1 (G1 jL 8) (B1 2 (.loop (S1 (S1 (G1 jL 9) (C1 98 K1 (X1 2))) (S1 (B1 3 (S1 (G1 jL 11) (C1 114 (S1 (G1 jL 12) .ret) K1))) (G1 jL 10)))))) (S1 (S1 (G1 jL 13) (B1 4 (.loop (S1 (S1 (G1 jL 14) (C1 119 K1 (X1 4))) (S1 (B1 5 (S1 (G2 jL 16) (C1 146 (S1 (G1 jL 17) .ret) K1))) (G1 jL 15)))))) (S1 (G1 jL 18) .ret)))))):=kr
theorem ag':Hp=(S1 (G1 Hp 0) (S1 (G1 Hp 1) .ret)):=kr
theorem Z3:drawInfo (Z dF 35)=some []:=kr
theorem Z4:drawInfo (Z dF 40)=some []:=kr
theorem ahH:dF=(S1 (G1 dF 0) (S1 (S1 (G1 dF 1) (B1 0 (S1 (G1 dF 2) (C1 10 (S1 (G1 dF 3) .ret) (S1 (G1 dF 4) (C1 25 (S1 (G1 dF 5) .ret) (S1 (S1 (G1 dF 6) (C1 37 K1 (S1 (G1 dF 7) (C1 37 K1 (S1 (G1 dF 8) (C1 37 K1 (G1 dF 9))))))) (C1 37 (S1 (G1 dF 10) .ret) (S1 (G1 dF 11) (C1 62 (S1 (G1 dF 12) .ret) (S1 (G1 dF 13) (C1 80 (S1 (G1 dF 14) .ret) (S1 (G1 dF 15) (C1 96 (S1 (G1 dF 16) .ret) (S1 (G1 dF 17) (C1 111 (S1 (G1 dF 18) .ret) (S1 (G1 dF 19) (C1 138 (S1 (G1 dF 20) .ret) (S1 (G1 dF 21) (C1 159 (S1 (G1 dF 22) .ret) (S1 (S1 (G1 dF 23) (C1 180 K1 (G1 dF 24))) (C1 180 (S1 (G1 dF 25) .ret) (S1 (G1 dF 26) (C1 197 (S1 (G1 dF 27) .ret) (S1 (G1 dF 28) (C1 207 (S1 (G1 dF 29) .ret) (S1 (G1 dF 30) (C1 217 (S1 (G1 dF 31) .ret) (S1 (G1 dF 32) (C1 229 (S1 (G1 dF 33) .ret) (S1 (G1 dF 34) (C1 241 (S1 (S1 (G2 dF 35) (C1 268 (S1 (G1 dF 36) .ret) K1)) (S1 (S1 (G1 dF 37) (B1 1 (.loop (S1 (S1 (G1 dF 38) (C1 273 K1 (X1 1))) (S1 (B1 2 (S1 (G2 dF 40) (C1 285 (S1 (G1 dF 41) .ret) K1))) (G1 dF 39)))))) (S1 (G1 dF 42) .ret))) K1)))))))))))))))))))))))))))))))) (S1 (G1 dF 43) .ret))):=kr
theorem Z6:drawInfo (Z gZ 10)=some []:=kr
theorem Z7:drawInfo (Z gZ 22)=some []:=kr
theorem ahN:gZ=(S1 (G1 gZ 0) (S1 (G1 gZ 1) (S1 (S1 (G1 gZ 2) (B1 0 (S1 (G1 gZ 3) (C1 10 (S1 (G1 gZ 4) .ret) (S1 (G1 gZ 5) (C1 20 (S1 (G1 gZ 6) .ret) (S1 (G1 gZ 7) (C1 42 (S1 (S1 (G1 gZ 8) (C1 50 (S1 (G1 gZ 9) .ret) K1)) (S1 (G2 gZ 10) .ret)) (S1 (G1 gZ 11) (C1 77 (S1 (G1 gZ 12) .ret) (S1 (G1 gZ 13) (C1 86 (S1 (G1 gZ 14) .ret) (S1 (G1 gZ 15) (C1 107 (S1 (G1 gZ 16) .ret) (S1 (G1 gZ 17) (C1 150 (S1 (G1 gZ 18) .ret) (S1 (G1 gZ 19) (C1 183 (S1 (G1 gZ 20) .ret) (S1 (G1 gZ 21) (C1 216 (S1 (G2 gZ 22) .ret) K1)))))))))))))))))))) (S1 (G1 gZ 23) .ret)))):=kr
theorem abk:drawInfo (Z pP 9)=some []:=kr
theorem ahU:pP=(S1 (G1 pP 0) (S1 (S1 (G1 pP 1) (C1 8 (S1 (G1 pP 2) .ret) K1)) (S1 (S1 (G1 pP 3) (C1 11 (S1 (G1 pP 4) .ret) K1)) (S1 (G1 pP 5) (S1 (S1 (G1 pP 6) (B1 0 (.loop (S1 (S1 (G1 pP 7) (C1 22 K1 (X1 0))) (S1 (B1 1 (G2 pP 9)) (G1 pP 8)))))) (S1 (G1 pP 10) .ret)))))):=kr
theorem ag6:wA=(S1 (G1 wA 0) (S1 (S1 (G1 wA 1) (B1 0 (.loop (S1 (S1 (G1 wA 2) (C1 7 K1 (X1 0))) (S1 (B1 1 (S1 (G1 wA 4) (C1 19 (S1 (G1 wA 5) .ret) K1))) (G1 wA 3)))))) (S1 (G1 wA 6) .ret))):=kr
theorem ag4:Hq=(S1 (G1 Hq 0) (S1 (G1 Hq 1) .ret)):=kr
theorem ag8:wB=(S1 (G1 wB 0) (S1 (S1 (G1 wB 1) (B1 0 (.loop (S1 (S1 (G1 wB 2) (C1 7 K1 (X1 0))) (S1 (B1 1 (S1 (G1 wB 4) (C1 31 (S1 (G1 wB 5) .ret) K1))) (G1 wB 3)))))) (S1 (G1 wB 6) .ret))):=kr
theorem ahl:lV=(S1 (G1 lV 0) (S1 (S1 (G1 lV 1) (B1 0 (.loop (S1 (S1 (G1 lV 2) (C1 9 K1 (X1 0))) (S1 (B1 1 (S1 (G1 lV 4) (B1 2 (S1 (G1 lV 5) (C1 15 (G1 lV 6) (S1 (G1 lV 7) (C1 18 (G1 lV 8) (S1 (G1 lV 9) (C1 21 (G1 lV 10) (S1 (G1 lV 11) (C1 24 (G1 lV 12) (S1 (G1 lV 13) (C1 27 (G1 lV 14) K1))))))))))))) (G1 lV 3)))))) (S1 (G1 lV 15) .ret))):=kr
theorem ahb:pQ=(S1 (G1 pQ 0) (S1 (S1 (G1 pQ 1) (C1 17 (S1 (G1 pQ 2) .ret) K1)) (S1 (G1 pQ 3) (S1 (S1 (G1 pQ 4) (B1 0 (S1 (G1 pQ 5) (C1 25 (S1 (G1 pQ 6) .ret) (S1 (G1 pQ 7) (C1 29 (S1 (G1 pQ 8) .ret) (S1 (G1 pQ 9) (C1 33 (S1 (G1 pQ 10) .ret) K1)))))))) (S1 (G1 pQ 11) .ret))))):=kr
theorem abb:drawInfo (Z D8 1)=some []:=kr
theorem ahe:D8=(S1 (G1 D8 0) (S1 (G2 D8 1) .ret)):=kr
theorem abc:drawInfo (Z tw 4)=some []:=kr
theorem ahf:tw=(S1 (G1 tw 0) (S1 (S1 (G1 tw 1) (B1 0 (.loop (S1 (S1 (G1 tw 2) (C1 10 K1 (X1 0))) (S1 (B1 1 (S1 (G2 tw 4) (S1 (G1 tw 5) (C1 20 (S1 (G1 tw 6) .ret) K1)))) (G1 tw 3)))))) (S1 (G1 tw 7) .ret))):=kr
theorem abd:drawInfo (Z D9 1)=some []:=kr
theorem ahh:D9=(S1 (G1 D9 0) (S1 (G2 D9 1) .ret)):=kr
theorem ahn:iu=(S1 (G1 iu 0) (S1 (G1 iu 1) (S1 (S1 (G1 iu 2) (B1 0 (.loop (S1 (S1 (G1 iu 3) (C1 10 K1 (X1 0))) (S1 (B1 1 (S1 (G1 iu 5) (B1 2 (S1 (G1 iu 6) (C1 16 (G1 iu 7) (S1 (G1 iu 8) (C1 19 (G1 iu 9) (S1 (G1 iu 10) (C1 22 (G1 iu 11) (S1 (G1 iu 12) (C1 25 (G1 iu 13) (S1 (G1 iu 14) (C1 28 (G1 iu 15) (S1 (G1 iu 16) (C1 31 (G1 iu 17) (S1 (G1 iu 18) (C1 35 (G1 iu 19) (S1 (G1 iu 20) (C1 38 (G1 iu 21) K1))))))))))))))))))) (G1 iu 4)))))) (S1 (S1 (G1 iu 22) (C1 52 (S1 (G1 iu 23) .ret) K1)) (S1 (G1 iu 24) .ret))))):=kr
theorem ahG:lk=(S1 (G1 lk 0) (S1 (S1 (G1 lk 1) (B1 0 (S1 (S1 (G1 lk 2) (C1 7 K1 (S1 (G1 lk 3) (C1 7 K1 (S1 (G1 lk 4) (C1 7 K1 (S1 (G1 lk 5) (C1 7 K1 (G1 lk 6))))))))) (C1 7 (S1 (G1 lk 7) .ret) (S1 (G1 lk 8) (C1 33 (S1 (G1 lk 9) .ret) (S1 (G1 lk 10) (C1 49 (S1 (G1 lk 11) .ret) (S1 (G1 lk 12) (C1 65 (S1 (G1 lk 13) .ret) (S1 (G1 lk 14) (C1 87 (S1 (G1 lk 15) .ret) K1)))))))))))) (S1 (G1 lk 16) .ret))):=kr
theorem abh:drawInfo (Z lW 6)=some []:=kr
theorem Z5:drawInfo (Z lW 11)=some []:=kr
theorem ahK:lW=(S1 (G1 lW 0) (S1 (S1 (G1 lW 1) (C1 22 (S1 (G1 lW 2) .ret) K1)) (S1 (S1 (G1 lW 3) (B1 0 (.loop (S1 (S1 (G1 lW 4) (C1 27 K1 (X1 0))) (S1 (B1 1 (S1 (S1 (G2 lW 6) (C1 48 (S1 (G1 lW 7) .ret) K1)) (S1 (G1 lW 8) (B1 2 (.loop (S1 (S1 (G1 lW 9) (C1 51 K1 (X1 2))) (S1 (B1 3 (S1 (G2 lW 11) (C1 66 (S1 (G1 lW 12) .ret) K1))) (G1 lW 10)))))))) (G1 lW 5)))))) (S1 (G1 lW 13) .ret)))):=kr
theorem alh:EB=(S1 (G1 EB 0) (S1 (G1 EB 1) .ret)):=kr
theorem acO:drawInfo (Z qS 6)=some []:=kr
theorem alg:qS=(S1 (G1 qS 0) (S1 (S1 (G1 qS 1) (C1 10 (S1 (G1 qS 2) .ret) K1)) (S1 (S1 (G1 qS 3) (B1 0 (.loop (S1 (S1 (G1 qS 4) (C1 14 K1 (X1 0))) (S1 (B1 1 (S1 (G2 qS 6) (C1 25 (S1 (G1 qS 7) .ret) K1))) (G1 qS 5)))))) (S1 (G1 qS 8) .ret)))):=kr
theorem ale:jP=(S1 (G1 jP 0) (S1 (G1 jP 1) (S1 (S1 (G1 jP 2) (C1 15 (S1 (G1 jP 3) .ret) K1)) (S1 (G1 jP 4) (S1 (G1 jP 5) (S1 (B1 0 (.loop (S1 (S1 (G1 jP 6) (C1 19 K1 (X1 0))) (B1 1 (S1 (G1 jP 7) (S1 (G1 jP 8) (B1 2 (.loop (S1 (S1 (G1 jP 9) (C1 24 K1 (X1 2))) (S1 (B1 3 (S1 (S1 (G1 jP 11) (C1 31 (X1 3) K1)) (S1 (G1 jP 12) (S1 (G1 jP 13) (B1 4 (.loop (S1 (S1 (G1 jP 14) (C1 38 K1 (X1 4))) (S1 (B1 5 (S1 (G1 jP 16) (C1 56 (S1 (G1 jP 17) (G1 jP 18)) K1))) (G1 jP 15))))))))) (G1 jP 10))))))))))) (S1 (G1 jP 19) .ret))))))):=kr
theorem alo:Ao=(S1 (G1 Ao 0) (S1 (G1 Ao 1) (S1 (S1 (G1 Ao 2) (C1 8 (S1 (G1 Ao 3) .ret) K1)) (S1 (G1 Ao 4) .ret)))):=kr
theorem alm:nN=(S1 (G1 nN 0) (S1 (G1 nN 1) (S1 (G1 nN 2) (S1 (S1 (G1 nN 3) (B1 0 (.loop (S1 (S1 (G1 nN 4) (C1 14 K1 (X1 0))) (S1 (B1 1 (S1 (G1 nN 6) (S1 (S1 (G1 nN 7) (B1 2 (.loop (S1 (S1 (G1 nN 8) (C1 21 K1 (X1 2))) (S1 (B1 3 (S1 (G1 nN 10) (C1 48 (G1 nN 11) K1))) (G1 nN 9)))))) (G1 nN 12)))) (G1 nN 5)))))) (S1 (G1 nN 13) .ret))))):=kr
theorem abw:drawInfo (Z ln 14)=some []:=kr
theorem alj:ln=(S1 (G1 ln 0) (S1 (G1 ln 1) (S1 (G1 ln 2) (S1 (S1 (G1 ln 3) (B1 0 (.loop (S1 (S1 (G1 ln 4) (C1 15 K1 (X1 0))) (S1 (B1 1 (G1 ln 6)) (G1 ln 5)))))) (S1 (S1 (G1 ln 7) (B1 2 (.loop (S1 (S1 (G1 ln 8) (C1 29 K1 (X1 2))) (S1 (B1 3 (S1 (G1 ln 10) (S1 (G1 ln 11) (B1 4 (.loop (S1 (S1 (G1 ln 12) (C1 39 K1 (X1 4))) (S1 (B1 5 (G2 ln 14)) (G1 ln 13)))))))) (G1 ln 9)))))) (S1 (G1 ln 15) .ret)))))):=kr
end Go.Proofs.Tryz.K
section
open Go Go.Abs Go.Proofs Go.Argus
namespace Go.Argus
def bW(f:aG)(h:D):List D:=[S f.name,B f.iter,I f.args,U8 f.result,la f.al,la f.aZ,r7 f.signals,gv f.blocks,h]
@[simp] theorem aoj (f : aG) (h : D) : (bW f h).length = 9 := rfl
theorem wS{h:D}(ht:Tr h)(f:aG):∀ d∈bW f h,Tr d:=.cons (.s _) (.cons (.s _) (.cons (.s _) (.cons (.s _) (.cons (rZ _) (.cons (rZ _) (.cons (Ac _) (.cons (GK _) (.cons ht .nil))))))))
def bp(f:aG)(r k:Int):Bool:=if k=119 then cG f.al r==1 else if k=114 then cG f.al r==2 else if k=105 then cG f.al r==3 else eX f.al r
theorem Hm{s:ByteArray}{k:Nat}(h:k<s.size):((s.data.toList.getD (k:Int).toNat 0).toNat:Int)∈c7 s/\(c7 s)[k]? =some ((s.data.toList.getD (k:Int).toNat 0).toNat:Int):=by
 have h1:k<s.data.toList.length:=by simpa using h
 have h2:(c7 s)[k]? =some ((s.data.toList.getD (k:Int).toNat 0).toNat:Int):=by
  simp[c7,aM h1,bl]
 exact⟨bU h2,h2⟩
def kL(f:aG)(a b:Int):Bool:=eX f.al a&&(eX f.al b&&cG f.al a==cG f.al b)
def Ax(y:bE)(d:D):List D:=[U8 y.op,I y.to,I y.a,I y.b,I y.n,d]
theorem HQ:Tr .z:=fun F β w v h=>by
 obtain⟨x,rfl⟩:=h.z_inv;exact .z x
def vD(d:D)(l:List Int):Prop:=d=au l\/d=.z/\l=[]
theorem adZ{d:D}{l:List Int}(h:vD d l):Tr d:=by
 rcases h with rfl|⟨rfl,_⟩
 .exact cL _
 .exact HQ
theorem acF{y:bE}{d:D}(h:vD d y.args):∀ a∈Ax y d,Tr a:=.cons (.s _) (.cons (.s _) (.cons (.s _) (.cons (.s _) (.cons (.s _) (.cons (adZ h) .nil)))))
theorem acG{y:bE}{d:D}(h:vD d y.args):(Ax y d).all D.one=true:=by
 rcases h with rfl|⟨rfl,_⟩<;>rfl
def Vu(y:End)(C J:D):List D:=[U8 y.kind,I y.a,I y.b,I y.to,I y.gD,S y.name,U8 y.ins.op,I y.ins.to,I y.ins.a,I y.ins.b,I y.ins.n,C,J,qH y.aL,I y.cX]
end Go.Argus
namespace Go.Proofs.Tryz.K
theorem hZ{n a b:Int}:PCall prog 212 [I n,I a,I b] (B (dg n a b)):=by
 refine bg ag3 (.cons (.s _) (.cons (.s _) (.cons (.s _) .nil))) (Tr.s _) ?_;rw[ag4];refine ws (SS ?_);refine er (aJ ?_);refine af (av (d:=.s (.bool _)) rfl ?_);unfold dg;by_cases h:a<=n<;>simp[h]
theorem AM{s:ByteArray}(hs:s.size<=maxLen):PCall prog 211 [S s] (B (lX s)):=by
 unfold maxLen at hs;refine bg ag5 (.cons (.s _) .nil) (Tr.s _) ?_;rw[ag6];refine ws (SS ?_);refine af (aB (az (SS ?_)))
 refine af (bR (fun st=>Ghost prog st ⟨aD [(0,S s)],fun _=>none,0⟩/\∀ (j:Nat) y,(c7 s)[j]? =some y->uK y=false) (cQ (α:=Nat) (fun k=>⟨aD [(0,S s),(3,I k)],fun _=>none,0⟩)
  (fun k=>k<=s.size/\∀ j y,j<k->(c7 s)[j]? =some y->uK y=false) (fun k=>s.size - k) 0 (ap eH) ⟨oG,fun j y hj=>by omega⟩ ?_) ?_)
 .rintro k ⟨hk,hinv⟩;refine aP ?_;refine af ⟨_,rfl,fun h=>?_,fun h=>?_⟩
  .have ao:k<s.size:=by simpa using h
   obtain⟨hm,hx⟩:=Hm ao;generalize C:s.data.toList.getD (k:Int).toNat 0=z at hm hx;refine ws (bK ?_);refine ag ?_;refine af (aw rfl (fun hp=>?_) fun hp=>?_)
   .refine ws (SS ?_);refine af (aY (br (aR (av (d:=B false) rfl ?_))));have h1:(c7 s).any uK=true:=List.any_eq_true.2 ⟨_,hm,by rw[C] at hp;revert hp;simp[uK]⟩;unfold lX;rw[h1];simp
   .refine bS (aq ?_);refine af (aK (k+1) (ap eH) ⟨oG,fun j y hj hy=>?_⟩ oG);by_cases e:j=k
    .subst e;rw[hx] at hy;cases hy;rw[C] at hp;revert hp;simp[uK]
    .exact hinv j y oG hy
  .have M:¬ k<s.size:=by simpa using h
   exact⟨ap eH,fun j y hy=>hinv j y (by have:=(bw.1 hy).1;simp[c7] at this;omega) hy⟩
 .rintro st ⟨hg,J⟩;refine⟨_,hg,aj ?_⟩;have hZ:=hZ (n:=s.size) (a:=1) (b:=120);refine ag ?_;refine cl hZ (SS ?_);refine af (av (d:=.s (.bool _)) rfl ?_)
  have h1:(c7 s).any uK=false:=List.any_eq_false.2 fun x hx=>by
   obtain⟨j,hj⟩:=cC hx;rw[J j x hj];simp
  unfold lX;rw[h1];simp
theorem o8{s:ByteArray}(hs:s.size<=maxLen):PCall prog 213 [S s] (B (isName s)):=by
 unfold maxLen at hs;refine bg ag7 (.cons (.s _) .nil) (Tr.s _) ?_;rw[ag8];refine ws (SS ?_);refine af (aB (az (SS ?_)))
 refine af (bR (fun st=>Ghost prog st ⟨aD [(0,S s)],fun _=>none,0⟩/\∀ (j:Nat) y,(c7 s)[j]? =some y->uL y=false) (cQ (α:=Nat) (fun k=>⟨aD [(0,S s),(3,I k)],fun _=>none,0⟩)
  (fun k=>k<=s.size/\∀ j y,j<k->(c7 s)[j]? =some y->uL y=false) (fun k=>s.size - k) 0 (ap eH) ⟨oG,fun j y hj=>by omega⟩ ?_) ?_)
 .rintro k ⟨hk,hinv⟩;refine aP ?_;refine af ⟨_,rfl,fun h=>?_,fun h=>?_⟩
  .have ao:k<s.size:=by simpa using h
   obtain⟨hm,hx⟩:=Hm ao;generalize C:s.data.toList.getD (k:Int).toNat 0=z at hm hx;refine ws (aJ ?_);refine aJ ?_;refine aP ?_;refine af (aw rfl (fun hp=>?_) fun hp=>?_)
   .refine ws (SS ?_);refine af (aY (br (aR (av (d:=B false) rfl ?_))));have h1:(c7 s).any uL=true:=List.any_eq_true.2 ⟨_,hm,by rw[C] at hp;revert hp;simp[uL]⟩;unfold isName;rw[h1];simp
   .refine bS (aq ?_);refine af (aK (k+1) (ap eH) ⟨oG,fun j y hj hy=>?_⟩ oG);by_cases e:j=k
    .subst e;rw[hx] at hy;cases hy;rw[C] at hp;revert hp;simp[uL]
    .exact hinv j y oG hy
  .have M:¬ k<s.size:=by simpa using h
   exact⟨ap eH,fun j y hy=>hinv j y (by have:=(bw.1 hy).1;simp[c7] at this;omega) hy⟩
 .rintro st ⟨hg,J⟩;refine⟨_,hg,aj ?_⟩;have hZ:=hZ (n:=s.size) (a:=1) (b:=12);refine ag ?_;refine cl hZ (SS ?_);refine af (av (d:=.s (.bool _)) rfl ?_)
  have h1:(c7 s).any uL=false:=List.any_eq_false.2 fun x hx=>by
   obtain⟨j,hj⟩:=cC hx;rw[J j x hj];simp
  unfold isName;rw[h1];simp
theorem wL{f:aG}{hd:D}(h:hd.one=true):(bW f hd).all D.one=true:=by
 simp only[bW,List.all_cons,List.all_nil,h,Bool.and_true];rfl
section
variable{f:aG}{hd:D}(ht:Tr hd)(dP:hd.one=true)
include ht dP
theorem iC{b:Int}(hn:f.blocks.length<=1200):PCall prog 170 [.agg (bW f hd),I b] (B (cu f b)):=by
 refine bg ag9 (.cons (.agg (wS ht f)) (.cons (.s _) .nil)) (Tr.s _) ?_;rw[ag'];refine az (ag ?_);refine af (aW (bG [(0,bW f hd,208)] eH (l:=[(1,I b),(2,.pt (bW f hd))]) eH) (aj ?_));have hZ:=hZ (n:=b) (a:=0) (b:=(f.blocks.length:Int) - 1);refine bB ?_;refine cl hZ (SS ?_);exact af (av rfl rfl)
theorem bT{r k:Int}:PCall prog 215 [.agg (bW f hd),I r,U8 k] (B (bp f r k)):=by
 refine bg aha (.cons (.agg (wS ht f)) (.cons (.s _) (.cons (.s _) .nil))) (Tr.s _) ?_;rw[ahb];refine az (ag ?_);refine af (aW (bG [(0,bW f hd,208)] eH (l:=[(1,I r),(2,U8 k),(3,.pt (bW f hd))]) eH) (aB (aj (bK ?_))));refine akX ?_;refine SS ?_;refine af (cx rfl (fun h=>?_) fun h=>bP (aj ?_))
 .refine aB (aj (SS ?_));refine af (bX (av (d:=.s (.bool _)) rfl ?_))
  have h0:cG f.al r=0:=JU fun C=>by
   by_cases h1:r<0<;>simp[h1] at h<;>omega
  simp[bp,eX,h0]
 .have hr:0<=r/\r<f.al.length:=by
   by_cases h1:r<0<;>simp[h1] at h;omega
  obtain⟨n,rfl⟩:=cU hr.1;have hx:f.al[n]? =some f.al[n]:=aM oG;have hk:=uN hx;have hi:bp f n k=if k=119 then f.al[n]==1 else if k=114 then f.al[n]==2 else if k=105 then f.al[n]==3 else f.al[n]==1||f.al[n]==2:=by simp only[bp,eX,hk]
  rw[hi];generalize f.al[n]=v at hx;clear h hi hk;refine dz ?_;refine af (aB (aj (SS ?_)));refine af (oD (aj (ag ?_)));refine af (aw rfl (fun h0=>?_) fun h0=>?_)
  .have h0:k=119:=by simpa using h0
   refine ws (aq ?_);refine af (aY (bO (aR (av (d:=.s (.bool _)) rfl ?_))));simp[h0]
  have h0:¬ k=119:=by simpa using h0
  refine ws (ag ?_);refine af (aw rfl (fun h1=>?_) fun h1=>?_)
  .have h1:k=114:=by simpa using h1
   refine ws (aq ?_);refine af (aY (bO (aR (av (d:=.s (.bool _)) rfl ?_))));simp[h1]
  have h1:¬ k=114:=by simpa using h1
  refine ws (ag ?_);refine af (aw rfl (fun h2=>?_) fun h2=>?_)
  .have h2:k=105:=by simpa using h2
   refine ws (aq ?_);refine af (aY (bO (aR (av (d:=.s (.bool _)) rfl ?_))));simp[h2]
  have h2:¬ k=105:=by simpa using h2
  refine nI (aj (dz ?_));refine af (av (d:=.s (.bool _)) rfl ?_);rw[if_neg h0,if_neg h1,if_neg h2];by_cases h3:v=1<;>simp[h3]
end
section
variable{f:aG}{hd:D}(ht:Tr hd)(dP:hd.one=true)
include ht dP
theorem AN{a b:Int}:PCall prog 216 [.agg (bW f hd),I a,I b] (B (kL f a b)):=by
 have hi:∀ r,bp f r 118=eX f.al r:=fun r=>rfl;have C:=bT (f:=f) ht dP (r:=a) (k:=118);have J:=bT (f:=f) ht dP (r:=b) (k:=118);rw[hi] at C J;refine bg ahc (.cons (.agg (wS ht f)) (.cons (.s _) (.cons (.s _) .nil))) (Tr.s _) ?_;rw[ahe];refine az (ag ?_);refine af (aW (bG [(0,bW f hd,208)] eH (l:=[(1,I a),(2,I b),(3,.pt (bW f hd))]) eH) (dE abb ?_))
 have vi:∀ r,eX f.al r=true->∃ (n:Nat) (x:Int),r=n/\f.al[n]? =some x/\cG f.al r=x:=fun r h=>by
  obtain⟨h1,h2⟩:=pJ h;obtain⟨n,rfl⟩:=cU h1;have hx:f.al[n]? =some f.al[n]:=aM oG;exact⟨n,_,rfl,hx,uN hx⟩
 unfold kL;cases M:eX f.al a with
 |false=>
  rw[M] at C;have bT:=C;refine ag ?_;refine cl bT (SS ?_);refine z fun _ _=>?_;have bT:=J
  (iterate 2 refine z fun _ _=>?_);refine ag ?_;(iterate 13 refine z fun _ _=>?_);refine ag ?_
  exact a8 bc (av rfl rfl)
 |true=>
  rw[M] at C;cases X:eX f.al b with
  |false=>
   rw[X] at J;have bT:=C;refine ag ?_;refine cl bT (ag ?_);have bT:=J;refine SS ?_;refine gc bT (ag ?_);(iterate 13 refine z fun _ _=>?_);refine ag ?_;exact a8 bc (av rfl rfl)
  |true=>
   rw[X] at J;obtain⟨n,x,rfl,hx,e1⟩:=vi a M;obtain⟨m,y,rfl,hy,e2⟩:=vi b X;rw[e1,e2];have bT:=C;refine ag ?_;refine cl bT (ag ?_);have bT:=J;refine SS ?_;refine gc bT (aJ ?_);refine bK ?_;exact a8 bc (av rfl rfl)
theorem vC{l:List Int}:PCall prog 217 [.agg (bW f hd),au l] (B (gX f.al l)):=by
 have C:∀ a∈[D.agg (bW f hd),au l],Tr a:=.cons (.agg (wS ht f)) (.cons (cL _) .nil);refine mG Vq.he C fun M=>?_;have hlen:=(M (au l) oS).sl.1;unfold maxLen at hlen;refine bg Vq C (Tr.s _) ?_;rw[ahf];refine az (ag ?_);refine af (aW (bG [(0,bW f hd,208)] eH (l:=[(1,au l),(2,.pt (bW f hd))]) eH) (aB (az (SS ?_))))
 refine af (bR (fun s=>Ghost prog s ⟨aD [],fun _=>none,1⟩/\∀ (j:Nat) y,l[j]? =some y->eX f.al y=true) (cQ (α:=Nat) (fun k=>⟨aD [(1,au l),(2,.pt (bW f hd)),(5,I k)],fun _=>none,1⟩)
  (fun k=>k<=l.length/\∀ j y,j<k->l[j]? =some y->eX f.al y=true) (fun k=>l.length - k) 0 (ap eH) ⟨oG,fun j y hj=>by omega⟩ ?_) ?_)
 .rintro k ⟨hk,hinv⟩;refine aP ?_;refine af ⟨_,rfl,fun h=>?_,fun h=>?_⟩
  .have ao:k<l.length:=by simpa using h
   have hx:l[k]? =some l[k]:=by simp[ao]
   generalize l[k]=x at hx;have bT:PCall prog 215 [.agg (bW f hd),I x,U8 118] (B (eX f.al x)):=bT (f:=f) ht dP (r:=x) (k:=118);refine dE abc (aN ?_);refine cl bT (SS ?_);refine a8 bc (aj (ag ?_));refine af (aw rfl (fun hp=>?_) fun hp=>?_)
   .refine ws (SS ?_);refine af (aY (br (aR (av (d:=B false) rfl ?_))));have:gX f.al l=false:=List.all_eq_false.2 ⟨x,bU hx,by simpa using hp⟩;rw[this]
   .refine bS (aq ?_);refine af (aK (k+1) (ap eH) ⟨oG,fun j y hj hy=>?_⟩ oG);by_cases e:j=k
    .subst e;rw[hx] at hy;cases hy;simpa using hp
    .exact hinv j y oG hy
  .have X:¬ k<l.length:=by simpa using h
   exact⟨.forget _ _ _ _ fun _=>.inr rfl,fun j y hy=>hinv j y (by have:=(bw.1 hy).1;omega) hy⟩
 .rintro s ⟨hg,J⟩;refine⟨_,hg,aj ?_⟩;refine SS ?_;refine af (av (d:=B true) rfl ?_)
  have:gX f.al l=true:=bj.2 fun x hx=>by
   obtain⟨j,hj⟩:=cC hx;exact J j x hj
  rw[this]
theorem Ir{n r:Int}(hl:f.aZ.length<=60)(hs:∀ k∈f.aZ,k=1\/k=2):PCall prog 218 [.agg (bW f hd),I n,I r] (B (mT f.al f.aZ r n)):=by
 have hZ:=hZ (n:=n) (a:=0) (b:=(f.aZ.length:Int) - 1);have kv:PCall prog 215 [.agg (bW f hd),I r,U8 118] (B (eX f.al r)):=bT (f:=f) ht dP (r:=r) (k:=118);refine bg ahg (.cons (.agg (wS ht f)) (.cons (.s _) (.cons (.s _) .nil))) (Tr.s _) ?_;rw[ahh];refine az (ag ?_);refine af (aW (bG [(0,bW f hd,208)] eH (l:=[(1,I n),(2,I r),(3,.pt (bW f hd))]) eH) (dE abd ?_));unfold mT;have bT:=kv;cases C:dg n 0 (f.aZ.length - 1) with
 |false=>
  rw[C] at hZ;refine bB ?_;refine cl hZ (SS ?_);(iterate 3 refine z fun _ _=>?_);refine ag ?_;(iterate 13 refine z fun _ _=>?_);refine ag ?_;exact a8 bc (av rfl rfl)
 |true=>
  rw[C] at hZ;have h0:=lh.1 C;obtain⟨m,rfl⟩:=cU h0.1;have hx:f.aZ[m]? =some f.aZ[m]:=aM oG;have X:=uN hx;have M:=hs _ (bU hx);rw[X];generalize f.aZ[m]=x at hx M;cases hv:eX f.al r with
  |false=>
   rw[hv] at bT;refine bB ?_;refine cl hZ (aq ?_);refine gc bT (ag ?_);(iterate 13 refine z fun _ _=>?_);refine ag ?_;refine a8 bc (av (d:=.s (.bool _)) rfl ?_)
   have:(cG f.al r==x)=false:=by
    unfold eX at hv;rcases M with rfl|rfl<;>simp at hv ⊢<;>simp[hv]
   rw[this];rfl
  |true=>
   rw[hv] at bT;obtain⟨h1,h2⟩:=pJ hv;obtain⟨i,rfl⟩:=cU h1;have hy:f.al[i]? =some f.al[i]:=aM oG;have J:=uN hy;rw[J];generalize f.al[i]=y at hy;refine bB ?_;refine cl hZ (aq ?_);refine gc bT (aJ ?_);refine bK ?_;refine a8 bc (av (d:=.s (.bool _)) rfl ?_);show B (x==y)=B (y==x);rw[Bool.beq_comm]
end
end Go.Proofs.Tryz.K
namespace Go.Argus
open Go.Proofs.Tryz.K (nextR)
def kz:List Int->Int->List Int
 |[],n=>[n]
 |x::l,n=>if x<n then x::kz l n else if x=n then x::l else n::x::l
theorem TF{n:Int}:∀ {l:List Int} {k:Nat},k<=l.length->(∀ j y,j<k->l[j]? =some y->y<n)->(∀ y,l[k]? =some y->¬ y<n)->
 kz l n=if l[k]? =some n then l else l.take k++n::l.drop k
 |[],k,hk,_,_=>by
  have:k=0:=by simpa using hk
  subst this;simp[kz]
 |x::l,0,_,_,h=>by
  have h0:¬ x<n:=h x rfl;by_cases e:x=n
  .subst e;simp[kz]
  .simp[kz,h0,e]
 |x::l,k+1,hk,h1,h2=>by
  have h0:x<n:=h1 0 x oG rfl;have ih:=TF (n:=n) (l:=l) (k:=k) (by simpa using hk) (fun j y hj hy=>h1 (j+1) y oG (by simpa using hy)) (fun y hy=>h2 y (by simpa using hy));simp only[kz,if_pos h0,ih,List.getElem?_cons_succ];split<;>simp
theorem Ky{n x:Int}:∀ {l:List Int},x∈kz l n↔x∈l\/x=n
 |[]=>by simp[kz]
 |y::l=>by
  unfold kz;split
  .rw[List.mem_cons,Ky (l:=l),List.mem_cons];exact or_assoc.symm
  .split
   .rename_i e;subst e;simp only[List.mem_cons];constructor
    .exact .inl
    .rintro(h|h)
     .exact h
     .exact .inl h
   .simp only[List.mem_cons];constructor
    .rintro(h|h)
     .exact .inr h
     .exact .inl h
    .rintro(h|h)
     .exact .inr h
     .exact .inl h
theorem Rt{n:Int}:∀ {l:List Int},l.Pairwise (·<·)->(kz l n).Pairwise (·<·)
 |[],_=>by simp[kz]
 |y::l,h=>by
  rw[List.pairwise_cons] at h;unfold kz;split
  .rename_i hy;refine List.pairwise_cons.2 ⟨fun z C=>?_,Rt h.2⟩;rcases Ky.1 C with C|rfl
   .exact h.1 z C
   .exact hy
  .split
   .exact List.pairwise_cons.2 h
   .refine List.pairwise_cons.2 ⟨fun z C=>?_,List.pairwise_cons.2 h⟩;rcases List.mem_cons.1 C with rfl|C
    .omega
    .have:=h.1 z C;omega
theorem Ru{n:Int}:∀ {l:List Int},(kz l n).length<=l.length+1
 |[]=>by simp[kz]
 |y::l=>by
  have:=Ru (n:=n) (l:=l);unfold kz;split
  .simp;omega
  .split<;>simp
def tR(l:List Int):List Int:=l.foldl kz []
theorem DE:∀ {l z:List Int},z.Pairwise (·<·)->(l.foldl kz z).Pairwise (·<·)/\(∀ x,x∈l.foldl kz z↔x∈z\/x∈l)/\(l.foldl kz z).length<=z.length+l.length
 |[],z,h=>⟨h,fun x=>by simp,oS⟩
 |y::l,z,h=>by
  obtain⟨h1,h2,h3⟩:=DE (l:=l) (Rt (n:=y) h);have:=Ru (n:=y) (l:=z);refine⟨h1,fun x=>?_,by simp only[List.length_cons,List.foldl_cons];omega⟩;rw[List.foldl_cons,h2,Ky,List.mem_cons,or_assoc]
theorem SM:∀ {l z:List Int},l.Pairwise (·<·)->z.Pairwise (·<·)->(∀ x,x∈l↔x∈z)->l=z
 |[],[],_,_,_=>rfl
 |[],y::z,_,_,h=>by have:=(h y).2 oS;simp at this
 |y::l,[],_,_,h=>by have:=(h y).1 oS;simp at this
 |x::l,y::z,hl,hz,h=>by
  rw[List.pairwise_cons] at hl hz
  have e:x=y:=by
   have h1:=(h x).1 oS;have h2:=(h y).2 oS;rcases List.mem_cons.1 h1 with h1|h1
   .exact h1
   .rcases List.mem_cons.1 h2 with h2|h2
    .exact h2.symm
    .have:=hl.1 y h2;have:=hz.1 x h1;omega
  subst e;rw[SM hl.2 hz.2 fun w=>⟨fun C=>?_,fun C=>?_⟩]
  .rcases List.mem_cons.1 ((h w).1 (by simp[C])) with e|e
   .have:=hl.1 w C;omega
   .exact e
  .rcases List.mem_cons.1 ((h w).2 (by simp[C])) with e|e
   .have:=hz.1 w C;omega
   .exact e
def qV(x:End):List Int:=tR (dW x)
theorem Qq{x:End}{t:Int}:t∈qV x↔t∈dW x:=by
 unfold qV tR;rw[(DE (l:=dW x) (z:=[]) .nil).2.1];simp
theorem abi(x:End):(qV x).length<=x.aL.length+3:=by
 have:=(DE (l:=dW x) (z:=[]) .nil).2.2;have:=DB x;unfold qV tR;simp at*;omega
def DV(bs:List b7)(L:Nat->List Int)(b:Nat):Nat->List Int:=match bs[b]? with
 |none=>L
 |some x=>(qV x.fin).foldl (dM b) L
def lY(bs:List b7)(k:Nat):Nat->List Int:=(range k).foldl (DV bs) fun _=>[]
def ku(x:bE)(c:Int):bE:=if c=116 then { x with to:=0 } else if c=97 then { x with a:=0 } else if c=98 then { x with b:=0 } else if c=110 then { x with n:=0 } else if c=108 then { x with args:=[] } else x
def lz(x:bE):Bool:=aX x.to 0&&(aX x.a 0&&(aX x.b 0&&(aX x.n 0&&ke x)))
def bV(x:bE)(fs:List Int):Bool:=lz (fs.foldl ku x)
def lG(f:aG)(x:bE):Bool:=
 if aU [30,31,32,33,34] x.op then bV x [116,97,98]&&(bp f x.to 119&&(bp f x.a 119&&bp f x.b 119))
 else if x.op=35 then bV x [97,98]&&(bp f x.a 114&&bp f x.b 118)
 else if x.op=36 then bV x [116,97]&&(bp f x.to 118&&bp f x.a 114)
 else if x.op=37 then bV x [116,97,98]&&(bp f x.to 118&&(bp f x.a 114&&bp f x.b 119))
 else if x.op=38 then bV x [97,98,108]&&(bp f x.a 114&&(bp f x.b 119&&(aX x.args.length 1&&gX f.al x.args)))
 else false
def eD(f:aG)(b C:Int)(x:bE):Bool:=
 if x.op=1 then bV x [116,110]&&(bp f x.to 119&&dg x.n (-1000000000) 1000000000)
 else if x.op=2 then bV x [116,97]&&kL f x.to x.a
 else if aU [3,4,6,7] x.op then bV x [116,97,98]&&(bp f x.to 119&&(bp f x.a 119&&bp f x.b 119))
 else if x.op=5 then bV x [116,97,98]&&(bp f x.to 119&&kL f x.a x.b)
 else if x.op=8 then bV x [116,97]&&(bp f x.to 119&&bp f x.a 119)
 else if x.op=9 then bV x [116,110]&&(bp f x.to 114&&dg x.n 0 1)
 else if x.op=10 then bV x [116,110,108]&&(bp f x.to 114&&(dg x.n 0 5&&(dg x.args.length 1 6&&gX f.al x.args)))
 else if x.op=11 then bV x [116,97,110]&&(bp f x.to 118&&(bp f x.a 114&&dg x.n 0 5))
 else if x.op=12 then bV x [97,98,110]&&(bp f x.a 114&&(bp f x.b 118&&dg x.n 0 5))
 else if aU [13,14] x.op then bV x [116,97]&&(bp f x.to 119&&bp f x.a 114)
 else if x.op=15 then bV x [97]&&bp f x.a 119
 else if x.op=16 then bV x [97]&&bp f x.a 105
 else if x.op=17 then bV x [116,110]&&mT f.al f.aZ x.to x.n
 else if x.op=18 then bV x [97,110]&&mT f.al f.aZ x.a x.n
 else if x.op=19 then !aX b 0&&(bV x [116,108]&&(bp f x.to 118&&(aX x.args.length C&&x.args.all (kL f x.to))))
 else false
def ia(x:End)(c:Int):End:=
 if c=97 then { x with a:=0 } else if c=98 then { x with b:=0 } else if c=116 then { x with to:=0 } else if c=101 then { x with gD:=0 }
 else if c=110 then { x with name:=.empty } else if c=105 then { x with ins:=eB } else if c=108 then { x with args:=[] } else x
def qU(x:End):Bool:=aX x.a 0&&(aX x.b 0&&(aX x.to 0&&(aX x.gD 0&&(x.name.toList==[]&&(aX x.args.length 0&&(aX x.ins.op 0&&lz x.ins))))))
def ei(x:End)(fs:List Int):Bool:=(fs.any (·==104)||(aX x.aL.length 0&&aX x.cX (-1)))&&qU (fs.foldl ia x)
def ic(f:aG)(x:End):Bool:=
 if x.kind=1 then ei x [116]&&cu f x.to
 else if x.kind=2 then ei x [97,116,101]&&(bp f x.a 119&&(cu f x.to&&cu f x.gD))
 else if x.kind=3 then(if f.iter=true\/f.result=0 then ei x [97]&&aX x.a (-1) else ei x [97]&&(bp f x.a 118&&aX (cG f.al x.a) f.result))
 else if x.kind=4 then ei x [110]&&isName x.name
 else if x.kind=5 then ei x [116,105,104]&&(lG f x.ins&&(cu f x.to&&nD f x))
 else if x.kind=6 then ei x [97,116,110,108,104]&&(lX x.name&&(decide ((x.args.length:Int)<=6)&&(gX f.al x.args&&((aX x.a (-1)||bp f x.a 118)&&(cu f x.to&&nD f x)))))
 else if x.kind=7 then ei x [97,116,110,108]&&(lX x.name&&(decide ((x.args.length:Int)<=6)&&(gX f.al x.args&&(bp f x.a 105&&cu f x.to))))
 else if x.kind=8 then ei x [97,98,116,101,104]&&(bp f x.a 105&&(bp f x.b 118&&(cu f x.to&&(cu f x.gD&&nD f x))))
 else if x.kind=9 then ei x [97,116]&&(f.iter&&(bp f x.a 118&&(aX (cG f.al x.a) f.result&&cu f x.to)))
 else false
theorem ve(f:aG)(r:Int):bp f r 119=aX (cG f.al r) 1:=rfl
theorem Ay(f:aG)(r:Int):bp f r 114=aX (cG f.al r) 2:=rfl
theorem ER(f:aG)(r:Int):bp f r 105=aX (cG f.al r) 3:=rfl
theorem tT(f:aG)(r:Int):bp f r 118=eX f.al r:=rfl
theorem aam{f:aG}{r n:Int}(hs:∀ k∈f.aZ,k=1\/k=2)(h:mT f.al f.aZ r n=true):eX f.al r=true:=by
 unfold mT at h;rw[aO,lh] at h;obtain⟨⟨h1,h2⟩,h3⟩:=h;obtain⟨k,rfl⟩:=cU h1;have hk:k<f.aZ.length:=by omega
 rw[uN (aM hk)] at h3;have h3:cG f.al r=f.aZ[k]:=by simpa using h3
 have:=hs _ (cy hk);unfold eX;rw[h3];rcases this with e|e<;>simp[e]
theorem aeg(f:aG)(x:bE):lG f x=((gz j9 x.op).isSome&&qJ f.al x ((gz j9 x.op).getD Ad)):=by
 obtain⟨op,to,a,b,n,args⟩:=x;unfold lG;dsimp only;by_cases h0:op=30\/op=31\/op=32\/op=33\/op=34
 .rcases h0 with rfl|rfl|rfl|rfl|rfl<;>
   (simp[aU,gz,j9,List.find?,qJ,mP,r6,rX,bV,ku,lz,ve,aX,ke,dg];grind)
 by_cases h5:op=35
 .subst h5;simp[aU,gz,j9,List.find?,qJ,mP,r6,rX,bV,ku,lz,ve,Ay,tT,aX,ke,dg];grind
 by_cases C:op=36
 .subst C;simp[aU,gz,j9,List.find?,qJ,mP,r6,rX,bV,ku,lz,ve,Ay,tT,aX,ke,dg];grind
 by_cases J:op=37
 .subst J;simp[aU,gz,j9,List.find?,qJ,mP,r6,rX,bV,ku,lz,ve,Ay,tT,aX,ke,dg];grind
 by_cases h8:op=38
 .subst h8;simp[aU,gz,j9,List.find?,qJ,mP,r6,rX,bV,ku,lz,ve,Ay,tT,aX,ke,dg];grind
 have hn:gz j9 op=none:=by
  simp only[gz,j9,Option.map_eq_none_iff,List.find?_eq_none];simp;omega
 rw[hn,if_neg (by simp[aU];omega),if_neg h5,if_neg C,if_neg J,if_neg h8];rfl
theorem aeh(f:aG)(to:Int)(l:List Int)(h:eX f.al to=true):l.all (kL f to)= !l.any fun r=> !aX (cG f.al r) (cG f.al to):=by
 have hk:cG f.al to=1\/cG f.al to=2:=by simpa[eX] using h
 rw[List.not_any_eq_all_not];congr 1;funext r;simp only[kL,h,Bool.true_and,aX,Bool.not_not,eX];grind
theorem SN{f:aG}{b ah:Nat}{x:bE}(hs:∀ k∈f.aZ,k=1\/k=2):eD f b ah x=jN f b x true ah:=by
 have hsv:= @aam f;obtain⟨op,to,a,b',n,args⟩:=x;unfold eD jN;dsimp only;by_cases X:op=16
 .subst X;simp[aU,bV,ku,lz,ER,aX,ke];grind
 by_cases M:op=17
 .subst M;simp[aU,bV,ku,lz,aX,ke];grind
 by_cases C:op=18
 .subst C;simp[aU,bV,ku,lz,aX,ke];grind
 by_cases J:op=19
 .subst J;cases hv:eX f.al to with
  |false=>simp[aU,tT,hv]
  |true=>
   rw[aeh f to args hv]
   have hb:decide (0<(b:Int))= !decide ((b:Int)=0):=by
    by_cases h:b=0<;>simp[h];omega
   simp[aU,tT,hv,hb,bV,ku,lz,aX,ke];grind
 rw[if_neg X,if_neg M,if_neg C,if_neg J,if_neg X,if_neg M,if_neg C,if_neg J];by_cases hm:op∈[1,2,3,4,5,6,7,8,9,10,11,12,13,14,15]
 .simp only[List.mem_cons,List.not_mem_nil,or_false] at hm
  rcases hm with rfl|rfl|rfl|rfl|rfl|rfl|rfl|rfl|rfl|rfl|rfl|rfl|rfl|rfl|rfl<;>
   (simp[aU,gz,pU,List.find?,qJ,mP,r6,rX,bV,ku,lz,ve,Ay,tT,aX,ke,dg,kL,eX];grind)
 .have hn:gz pU op=none:=by
   simp only[gz,pU,Option.map_eq_none_iff,List.find?_eq_none];simp at hm ⊢;omega
  simp only[List.mem_cons,List.not_mem_nil,or_false,not_or] at hm;rw[hn];simp[aU];grind
theorem K6{f:aG}{x:End}(hr:r5 f=true):ic f x=j8 f x:=by
 have ht:=aeg f x.ins
 have X:(f.result=1\/f.result=2)\/f.result=0/\f.iter=false:=by
  simp[r5] at hr;grind
 obtain⟨kind,a,b,to,gD,name,ins,args,aL,cX⟩:=x;dsimp only at ht;have M:∀ y:bE,Ex y=(aX y.op 0&&lz y):=fun y=>by simp[Ex,lz,aX,ke]
 have h0:lz eB=true:=rfl;have he:ByteArray.toList .empty=[]:=by simp
 unfold ic j8 gI Aw;simp only[M];by_cases h1:kind=1
 .subst h1;simp[ei,ia,qU,aX];grind
 by_cases h2:kind=2
 .subst h2;simp[ei,ia,qU,aX,ve];grind
 by_cases h3:kind=3
 .subst h3;simp[ei,ia,qU,aX,tT,eX];grind
 by_cases h4:kind=4
 .subst h4;simp[ei,ia,qU,aX];grind
 by_cases h5:kind=5
 .subst h5;simp[ei,ia,qU,aX,ht,h0,eB];grind
 by_cases C:kind=6
 .subst C;simp[ei,ia,qU,aX,tT,he];grind
 by_cases J:kind=7
 .subst J;simp[ei,ia,qU,aX,ER,he];grind
 by_cases h8:kind=8
 .subst h8;simp[ei,ia,qU,aX,ER,tT];grind
 by_cases h9:kind=9
 .subst h9;simp[ei,ia,qU,aX,tT,eX];grind
 simp[h1,h2,h3,h4,h5,C,J,h8,h9]
end Go.Argus
namespace Go.Proofs.Tryz.K
theorem Vt{x:bE}{d0:D}{s:ByteArray}(M:vD d0 x.args)(hs:s.size<=8):PCall prog 214 [.agg (Ax x d0),S s] (B (bV x (c7 s))):=by
 refine bg ahk (.cons (.agg (acF M)) (.cons (.s _) .nil)) (Tr.s _) ?_;rw[ahl];refine az (iz (uU (cs:=Ax x d0) rfl) cv (acG M) (SS ?_));refine af (aW (aQ (l:=[(1,S s),(2,.rp 0 0)]) (ml:=[(0,.cells (Ax x d0) 66)]) eH eH) (aB (az (SS ?_))))
 refine af (bR (fun st=>∃ y d,Ghost prog st ⟨aD [(2,.rp 0 0)],bf [(0,.cells (Ax y d) 66)],1⟩/\(c7 s).foldl ku x=y/\vD d y.args) (cQ (α:=Nat×bE×D) (fun q=>⟨aD [(1,S s),(2,.rp 0 0),(5,I q.1)],bf [(0,.cells (Ax q.2.1 q.2.2) 66)],1⟩)
  (fun q=>q.1<=s.size/\((c7 s).take q.1).foldl ku x=q.2.1/\vD q.2.2 q.2.1.args) (fun q=>s.size - q.1) (0,x,d0) (aQ eH eH) ⟨Nat.zero_le _,rfl,M⟩ ?_) ?_)
 .rintro⟨k,y,d⟩ ⟨hk,hy,hd⟩;dsimp only at hk hy hd ⊢;refine aP ?_;refine af ⟨_,rfl,fun h=>?_,fun h=>?_⟩
  .have ao:k<s.size:=by simpa using h
   obtain⟨hm,hx⟩:=Hm ao;generalize C:s.data.toList.getD (k:Int).toNat 0=z at hm hx;have J:((c7 s).take (k+1)).foldl ku x=ku y z.toNat:=by rw[oB hx,hy]
   refine ws (aq ?_);refine af (oI (aj (ag ?_)));refine af (aw rfl (fun h1=>gA ?_) fun h1=>aj ?_)
   .refine ag ?_;refine af ?_;show AOps _ _ _ _ _ _ _ _ _;refine aq ?_;refine af (aK (k+1,{ y with to:=0 },d) (aQ eH eH) ⟨oM,?_,hd⟩ oM);rw[C] at h1;rw[J,ku,if_pos (by simpa using h1)]
   rw[C] at h1;have h1:¬ (z.toNat:Int)=116:=by simpa using h1
   refine ag ?_;refine af (aw rfl (fun h2=>gA ?_) fun h2=>aj ?_)
   .refine ag ?_;refine af ?_;show AOps _ _ _ _ _ _ _ _ _;refine aq ?_;refine af (aK (k+1,{ y with a:=0 },d) (aQ eH eH) ⟨oM,?_,hd⟩ oM);rw[C] at h2;rw[J,ku,if_neg h1,if_pos (by simpa using h2)]
   rw[C] at h2;have h2:¬ (z.toNat:Int)=97:=by simpa using h2
   refine ag ?_;refine af (aw rfl (fun h3=>gA ?_) fun h3=>aj ?_)
   .refine ag ?_;refine af ?_;show AOps _ _ _ _ _ _ _ _ _;refine aq ?_;refine af (aK (k+1,{ y with b:=0 },d) (aQ eH eH) ⟨oM,?_,hd⟩ oM);rw[C] at h3;rw[J,ku,if_neg h1,if_neg h2,if_pos (by simpa using h3)]
   rw[C] at h3;have h3:¬ (z.toNat:Int)=98:=by simpa using h3
   refine ag ?_;refine af (aw rfl (fun h4=>gA ?_) fun h4=>aj ?_)
   .refine ag ?_;refine af ?_;show AOps _ _ _ _ _ _ _ _ _;refine aq ?_;refine af (aK (k+1,{ y with n:=0 },d) (aQ eH eH) ⟨oM,?_,hd⟩ oM);rw[C] at h4;rw[J,ku,if_neg h1,if_neg h2,if_neg h3,if_pos (by simpa using h4)]
   rw[C] at h4;have h4:¬ (z.toNat:Int)=110:=by simpa using h4
   refine ag ?_;refine af (aw rfl (fun h5=>gA ?_) fun h5=>?_)
   .refine ag ?_;refine af ?_;show AOps _ _ _ _ _ _ _ _ _;refine aq ?_;refine af (aK (k+1,{ y with args:=[] },.z) (aQ eH eH) ⟨oM,?_,.inr ⟨rfl,rfl⟩⟩ oM);rw[C] at h5;rw[J,ku,if_neg h1,if_neg h2,if_neg h3,if_neg h4,if_pos (by simpa using h5)]
   rw[C] at h5;have h5:¬ (z.toNat:Int)=108:=by simpa using h5
   refine bS ?_;show AOps _ _ _ _ _ _ _ _ _;refine aq ?_;refine af (aK (k+1,y,d) (aQ eH eH) ⟨oM,?_,hd⟩ oM);rw[J,ku,if_neg h1,if_neg h2,if_neg h3,if_neg h4,if_neg h5]
  .have a9:¬ k<s.size:=by simpa using h
   rw[df (by simp[c7];omega)] at hy;exact⟨y,d,aQ eH eH,hy,hd⟩
 .rintro st ⟨y,d,hg,hy,hd⟩;refine⟨_,hg,aj ?_⟩;have hl:bV x (c7 s)=lz y:=by rw[bV,hy]
  rw[hl];have X:((y.args.length:Int)=0)↔y.args=[]:=⟨fun h=>List.length_eq_zero_iff.1 oG,fun h=>by rw[h];rfl⟩
  rcases hd with rfl|⟨rfl,hd⟩
  .refine aJ ?_;refine aJ ?_;refine dz ?_;refine af (av (d:=.s (.bool _)) rfl ?_);simp[lz,aX,ke];grind
  .refine aJ ?_;refine aJ ?_;refine dz ?_;refine af (av (d:=.s (.bool _)) rfl ?_);simp[lz,aX,ke,hd];grind
theorem cw{x:bE}{s:ByteArray}(hs:s.size<=8):PCall prog 214 [.agg (bu x),S s] (B (bV x (c7 s))):=Vt (d0:=au x.args) (.inl rfl) hs
theorem fq{x:Argus.End}{s:ByteArray}(hs:s.size<=8):PCall prog 219 [.agg (bh x),S s] (B (ei x (c7 s))):=by
 refine bg ahm (.cons (.agg (lR x)) (.cons (.s _) .nil)) (Tr.s _) ?_;rw[ahn];refine az (ag ?_);refine af (aW (aQ (l:=[(1,S s),(2,.rp 0 0)]) (ml:=[(0,.cells (bh x) 69)]) eH eH) (aj (SS ?_)));refine af (aB (az (SS ?_)))
 refine af (bR (fun st=>∃ y J X,Ghost prog st ⟨aD [(2,.rp 0 0),(5,B ((c7 s).any (·==104)))],bf [(0,.cells (Vu y J X) 69)],1⟩/\(c7 s).foldl ia x=y/\vD J y.ins.args/\vD X y.args) (cQ (α:=Nat×Argus.End×D×D) (fun q=>⟨aD [(1,S s),(2,.rp 0 0),(5,B (((c7 s).take q.1).any (·==104))),(6,I q.1)],bf [(0,.cells (Vu q.2.1 q.2.2.1 q.2.2.2) 69)],1⟩)
  (fun q=>q.1<=s.size/\((c7 s).take q.1).foldl ia x=q.2.1/\vD q.2.2.1 q.2.1.ins.args/\vD q.2.2.2 q.2.1.args) (fun q=>s.size - q.1) (0,x,au x.ins.args,au x.args) (aQ eH eH) ⟨Nat.zero_le _,rfl,.inl rfl,.inl rfl⟩ ?_) ?_)
 .rintro⟨k,y,J,X⟩ ⟨hk,hy,dP,M⟩;dsimp only at hk hy dP M ⊢;refine aP ?_;refine af ⟨_,rfl,fun h=>?_,fun h=>?_⟩
  .have ao:k<s.size:=by simpa using h
   obtain⟨hm,hx⟩:=Hm ao;generalize C:s.data.toList.getD (k:Int).toNat 0=z at hm hx;have cg:((c7 s).take (k+1)).foldl ia x=ia y z.toNat:=by rw[oB hx,hy]
   have vE:((c7 s).take (k+1)).any (·==104)=(((c7 s).take k).any (·==104)||(z.toNat:Int)==104):=by rw[List.take_add_one,hx,List.any_append];simp
   generalize ((c7 s).take k).any (·==104)=hb at vE;refine ws (aq ?_);refine af (oI (aj (ag ?_)));refine af (aw rfl (fun h0=>gA ?_) fun h0=>aj ?_)
   .refine ag ?_;refine af ?_;show AOps _ _ _ _ _ _ _ _ _;refine aq ?_;rw[C] at h0;have h0:(z.toNat:Int)=97:=by simpa using h0
    refine af (aK (k+1,{ y with a:=0 },J,X) (aQ ⟨rfl,rfl,?_,rfl,trivial⟩ eH) ⟨oM,?_,dP,M⟩ oM)
    .show B hb=B (((c7 s).take (k+1)).any (·==104));rw[vE,h0];simp
    .rw[cg,ia,if_pos h0]
   rw[C] at h0;have h0:¬ (z.toNat:Int)=97:=by simpa using h0
   refine ag ?_;refine af (aw rfl (fun h1=>gA ?_) fun h1=>aj ?_)
   .refine ag ?_;refine af ?_;show AOps _ _ _ _ _ _ _ _ _;refine aq ?_;rw[C] at h1;have h1:(z.toNat:Int)=98:=by simpa using h1
    refine af (aK (k+1,{ y with b:=0 },J,X) (aQ ⟨rfl,rfl,?_,rfl,trivial⟩ eH) ⟨oM,?_,dP,M⟩ oM)
    .show B hb=B (((c7 s).take (k+1)).any (·==104));rw[vE,h1];simp
    .rw[cg,ia,if_neg h0,if_pos h1]
   rw[C] at h1;have h1:¬ (z.toNat:Int)=98:=by simpa using h1
   refine ag ?_;refine af (aw rfl (fun h2=>gA ?_) fun h2=>aj ?_)
   .refine ag ?_;refine af ?_;show AOps _ _ _ _ _ _ _ _ _;refine aq ?_;rw[C] at h2;have h2:(z.toNat:Int)=116:=by simpa using h2
    refine af (aK (k+1,{ y with to:=0 },J,X) (aQ ⟨rfl,rfl,?_,rfl,trivial⟩ eH) ⟨oM,?_,dP,M⟩ oM)
    .show B hb=B (((c7 s).take (k+1)).any (·==104));rw[vE,h2];simp
    .rw[cg,ia,if_neg h0,if_neg h1,if_pos h2]
   rw[C] at h2;have h2:¬ (z.toNat:Int)=116:=by simpa using h2
   refine ag ?_;refine af (aw rfl (fun h3=>gA ?_) fun h3=>aj ?_)
   .refine ag ?_;refine af ?_;show AOps _ _ _ _ _ _ _ _ _;refine aq ?_;rw[C] at h3;have h3:(z.toNat:Int)=101:=by simpa using h3
    refine af (aK (k+1,{ y with gD:=0 },J,X) (aQ ⟨rfl,rfl,?_,rfl,trivial⟩ eH) ⟨oM,?_,dP,M⟩ oM)
    .show B hb=B (((c7 s).take (k+1)).any (·==104));rw[vE,h3];simp
    .rw[cg,ia,if_neg h0,if_neg h1,if_neg h2,if_pos h3]
   rw[C] at h3;have h3:¬ (z.toNat:Int)=101:=by simpa using h3
   refine ag ?_;refine af (aw rfl (fun h4=>gA ?_) fun h4=>aj ?_)
   .refine ag ?_;refine af ?_;show AOps _ _ _ _ _ _ _ _ _;refine aq ?_;rw[C] at h4;have h4:(z.toNat:Int)=110:=by simpa using h4
    refine af (aK (k+1,{ y with name:=.empty },J,X) (aQ ⟨rfl,rfl,?_,rfl,trivial⟩ eH) ⟨oM,?_,dP,M⟩ oM)
    .show B hb=B (((c7 s).take (k+1)).any (·==104));rw[vE,h4];simp
    .rw[cg,ia,if_neg h0,if_neg h1,if_neg h2,if_neg h3,if_pos h4]
   rw[C] at h4;have h4:¬ (z.toNat:Int)=110:=by simpa using h4
   refine ag ?_;refine af (aw rfl (fun h5=>gA ?_) fun h5=>aj ?_)
   .refine aq ?_;refine af ?_;show AOps _ _ _ _ _ _ _ _ _;refine aq ?_;rw[C] at h5;have h5:(z.toNat:Int)=105:=by simpa using h5
    refine af (aK (k+1,{ y with ins:=eB },.z,X) (aQ ⟨rfl,rfl,?_,rfl,trivial⟩ eH) ⟨oM,?_,.inr ⟨rfl,rfl⟩,M⟩ oM)
    .show B hb=B (((c7 s).take (k+1)).any (·==104));rw[vE,h5];simp
    .rw[cg,ia,if_neg h0,if_neg h1,if_neg h2,if_neg h3,if_neg h4,if_pos h5]
   rw[C] at h5;have h5:¬ (z.toNat:Int)=105:=by simpa using h5
   refine ag ?_;refine af (aw rfl (fun h6=>gA ?_) fun h6=>aj ?_)
   .refine ag ?_;refine af ?_;show AOps _ _ _ _ _ _ _ _ _;refine aq ?_;rw[C] at h6;have h6:(z.toNat:Int)=108:=by simpa using h6
    refine af (aK (k+1,{ y with args:=[] },J,.z) (aQ ⟨rfl,rfl,?_,rfl,trivial⟩ eH) ⟨oM,?_,dP,.inr ⟨rfl,rfl⟩⟩ oM)
    .show B hb=B (((c7 s).take (k+1)).any (·==104));rw[vE,h6];simp
    .rw[cg,ia,if_neg h0,if_neg h1,if_neg h2,if_neg h3,if_neg h4,if_neg h5,if_pos h6]
   rw[C] at h6;have h6:¬ (z.toNat:Int)=108:=by simpa using h6
   refine ag ?_;refine af (aw rfl (fun h8=>gA ?_) fun h8=>?_)
   .refine SS ?_;refine af ?_;show AOps _ _ _ _ _ _ _ _ _;refine aq ?_;rw[C] at h8;refine af (aK (k+1,y,J,X) (aQ ⟨rfl,rfl,?_,rfl,trivial⟩ eH) ⟨oM,?_,dP,M⟩ oM)
    .show B true=B (((c7 s).take (k+1)).any (·==104));rw[vE,h8];simp
    .rw[cg,ia,if_neg h0,if_neg h1,if_neg h2,if_neg h3,if_neg h4,if_neg h5,if_neg h6]
   rw[C] at h8;refine bS ?_;show AOps _ _ _ _ _ _ _ _ _;refine aq ?_;refine af (aK (k+1,y,J,X) (aQ ⟨rfl,rfl,?_,rfl,trivial⟩ eH) ⟨oM,?_,dP,M⟩ oM)
   .show B hb=B (((c7 s).take (k+1)).any (·==104));rw[vE,h8];simp
   .rw[cg,ia,if_neg h0,if_neg h1,if_neg h2,if_neg h3,if_neg h4,if_neg h5,if_neg h6]
  .have a9:¬ k<s.size:=by simpa using h
   rw[df (by simp[c7];omega)] at hy ⊢;exact⟨y,J,X,aQ eH eH,hy,dP,M⟩
 .rintro st ⟨y,J,X,hg,hy,dP,M⟩;refine⟨_,hg,aB (aj ?_)⟩
  have hl:ei x (c7 s)=(((c7 s).any (·==104)||(aX y.aL.length 0&&aX y.cX (-1)))&&qU y):=by
   have hw:∀ (l:List Int) (x:Argus.End),(l.foldl ia x).aL=x.aL/\(l.foldl ia x).cX=x.cX:=fun l=>by
    induction l with
    |nil=>exact fun _=>⟨rfl,rfl⟩
    |cons a l ih=>
     intro x
     have:(ia x a).aL=x.aL/\(ia x a).cX=x.cX:=by
      unfold ia
      repeat' split
      all_goals exact⟨rfl,rfl⟩
     rw[List.foldl_cons,(ih _).1,(ih _).2,this.1,this.2];exact⟨rfl,rfl⟩
   obtain⟨h1,h2⟩:=hw (c7 s) x;rw[hy] at h1 h2;rw[ei,hy,h1,h2]
  rw[hl];clear hl hy;generalize (c7 s).any (·==104)=hb;have cw:PCall prog 214 [.agg [U8 y.ins.op,I y.ins.to,I y.ins.a,I y.ins.b,I y.ins.n,J],S ⟨#[]⟩] (B (lz y.ins)):=Vt (x:=y.ins) dP oC;refine aJ ?_;refine aP ?_;refine af (cx rfl (fun h=>?_) fun h=>bP (aj ?_))
  .refine aB (aj (SS ?_));refine af (bX (av (d:=.s (.bool _)) rfl ?_));revert h;simp[aX];grind
  rcases M with rfl|⟨rfl,M⟩
  .refine aJ ?_;refine aJ ?_;refine aJ ?_;refine aJ ?_;refine ag ?_;refine gc cw (ag ?_);refine af (av (d:=.s (.bool _)) rfl ?_);revert h;simp[qU,aX];grind
  .refine aJ ?_;refine aJ ?_;refine aJ ?_;refine aJ ?_;refine ag ?_;refine gc cw (ag ?_);refine af (av (d:=.s (.bool _)) rfl ?_);revert h;simp[qU,aX,M];grind
theorem sM{x:Argus.End}(hlen:x.aL.length<=100000):PCall prog 145 [.agg (bh x)] (au (dW x)):=by
 have a7:∀ a∈[D.agg (bh x)],Tr a:=.cons (.agg (lR x)) .nil;refine bg aho a7 (cL _) ?_;rw[ahp];refine az (ag ?_);refine af (aW (bG [(0,bh x,69)] eH (l:=[(1,.pt (bh x))]) eH) (az (SS ?_)));refine af ⟨_,.nilrow _ _ _ 3 3 rfl,(eI (zT x (gn x)) (aj ?_) fun s hs=>?_)⟩
 .have yes:x.kind≠3/\x.kind≠4->gn x=[x.to]:=fun h=>by rw[gn,if_pos h]
  have no:¬ (x.kind≠3/\x.kind≠4)->gn x=[]:=fun h=>by rw[gn,if_neg h]
  have ax:up (fun _=>(none:Option Row)) 1 (some (.cells [] 3)) 1=some (.cells [] 3):=up_same _ _ _;by_cases h3:x.kind=3
  .have du:(x.kind !=3)=false:=by simp[h3]
   refine aP ?_;(iterate 3 refine z fun _ _=>?_);refine SS ?_;refine af (aw rfl (fun h=>oH) fun h=>bd ?_);rw[no (by simp[h3])];exact⟨_,_,_,Nat.lt_succ_self _,up_same _ _ _,ap eH⟩
  .by_cases h4:x.kind=4
   .have du:(x.kind !=3)=true:=by simp[h4]
    have Md:(x.kind !=4)=false:=by simp[h4]
    refine bK ?_;refine af (aw rfl (fun h=>(by simp[h4] at h)) fun h=>bd ?_);rw[no (by simp[h4])];exact⟨_,_,_,Nat.lt_succ_self _,up_same _ _ _,ap eH⟩
   .have du:(x.kind !=3)=true:=by simp[h3]
    have Md:(x.kind !=4)=true:=by simp[h4]
    refine bK ?_;refine af (aw rfl (fun h=>?_) fun h=>(by simp[h4] at h));refine gA (bB ?_);refine af ?_;rw[yes ⟨h3,h4⟩];exact⟨_,_,_,Nat.lt_succ_self _,up_same _ _ _,ap eH⟩
 obtain⟨r,m,nx,hr,ax,hg⟩:=hs;refine⟨_,hg,eI (zT x (ow x)) (aj ?_) fun s hs=>?_⟩
 .have C:ow x=if x.kind=2\/x.kind=8 then gn x++[x.gD] else gn x:=rfl
  have J:(gn x).length<=1:=by unfold gn;split<;>simp
  generalize gn x=l at ax C J;have X:(l.map I).length=l.length:=by simp
  by_cases h2:x.kind=2\/x.kind=8
  .rw[if_pos h2] at C;refine bK ?_;refine af (aw rfl (fun h=>gA ?_) fun h=>(by rcases h2 with h2|h2<;>simp[h2] at h));refine bB ?_;refine af ?_;rw[C];refine⟨_,_,_,Nat.lt_succ_self _,(up_same _ _ _).trans (by rw[List.map_append];rfl),ap ⟨rfl,?_,trivial⟩⟩;show D.rs _ 0 _=D.rs _ 0 _;rw[List.length_append];rfl
  .rw[if_neg h2] at C;refine bK ?_;refine af (aw rfl (fun h=>(by exfalso;apply h2;revert h;by_cases e2:x.kind=2<;>by_cases e8:x.kind=8<;>simp[e2,e8])) fun h=>bd ?_);rw[C];exact⟨r,m,nx,hr,ax,ap eH⟩
 clear hg hr ax;obtain⟨r,m,nx,hr,ax,hg⟩:=hs;refine⟨_,hg,eI (zT x (dA x x.aL.length)) (az ?_) fun s hs=>?_⟩
 .refine SS ?_
  refine af (cQ (α:=Nat×Nat×Mem×Nat) (fun s=>⟨aD [(1,.pt (bh x)),(3,.rs s.2.1 0 (dA x s.1).length),(4,I s.1)],s.2.2.1,s.2.2.2⟩)
   (fun s=>s.1<=x.aL.length/\s.2.1<s.2.2.2/\s.2.2.1 s.2.1=some (.cells ((dA x s.1).map I) 3)) (fun s=>x.aL.length - s.1) (0,r,m,nx) (ap ⟨rfl,?_,rfl,trivial⟩) ⟨Nat.zero_le _,hr,?_⟩ ?_)
  .show D.rs r 0 _=D.rs r 0 _;simp[dA]
  .show m r=_;rw[ax];simp[dA]
  clear hg hr ax;rintro⟨j,r,m,nx⟩ ⟨hj,hr,ax⟩;dsimp only at hj hr ax ⊢;refine aN ?_;refine af ⟨_,rfl,fun h=>?_,fun h=>?_⟩
  .have cV:j<x.aL.length:=by simpa using h
   have hy:x.aL[j]? =some x.aL[j]:=aM cV;generalize x.aL[j]=w at hy;have M:=Q8 hy;have xN:(dA x (j+1)).length=(dA x j).length+1:=by rw[M];simp
   have X:((dA x j).map I).length=(dA x j).length:=by simp
   have J:(dA x j).length<=2+j:=by have:=DT x;unfold dA;simp;omega
   generalize dA x j=l at ax M X xN J;refine ff (bK ?_);refine ag ?_;refine af (aq ?_);refine af (aK (j+1,nx+1,_,_) (ap ⟨rfl,?_,rfl,trivial⟩) ⟨oM,oM,?_⟩ oM)
   .show D.rs _ 0 _=D.rs _ 0 _;rw[xN]
   .dsimp only;rw[M,List.map_append];exact up_same _ _ _
  .have a9:¬ j<x.aL.length:=by simpa using h
   have:j=x.aL.length:=by omega
   subst this;exact⟨r,m,nx,hr,ax,ap eH⟩
 clear hg hr ax;obtain⟨r,m,nx,hr,ax,hg⟩:=hs;refine⟨_,hg,eI (zT x (dW x)) (aj ?_) fun s hs=>?_⟩
 .have hd:dW x=if 0<=x.cX then dA x x.aL.length++[x.cX] else dA x x.aL.length:=rfl
  have J:(dA x x.aL.length).length<=2+x.aL.length:=by have:=DT x;unfold dA;simp;omega
  generalize dA x x.aL.length=l at ax hd J;have X:(l.map I).length=l.length:=by simp
  refine aq ?_;refine af (aw rfl (fun h=>gA ?_) fun h=>bd ?_)
  .rw[if_pos (by simpa using h)] at hd;refine bB ?_;refine af ?_;rw[hd];refine⟨_,_,_,Nat.lt_succ_self _,(up_same _ _ _).trans (by rw[List.map_append];rfl),ap ⟨rfl,?_,trivial⟩⟩;show D.rs _ 0 _=D.rs _ 0 _;rw[List.length_append];rfl
  .rw[if_neg (by simpa using h)] at hd;rw[hd];exact⟨r,m,nx,hr,ax,ap eH⟩
 clear hg hr ax;obtain⟨r,m,nx,hr,ax,hg⟩:=hs;refine⟨_,hg,az ?_⟩;refine ag ?_;refine af (aW (bG [(r,(dW x).map I,3)] ⟨ax,trivial⟩ (l:=[(2,au (dW x))]) ⟨ly (sz:=1) c3 (by rw[List.drop_zero,df oS]),trivial⟩) (av rfl rfl))
theorem OE{l:List Int}{n:Int}(hl:l.length<=100000):PCall prog 92 [au l,I n] (au (kz l n)):=by
 refine bg akZ (.cons (cL _) (.cons (.s _) .nil)) (cL _) ?_;rw[ak0];refine ws (SS ?_);refine af (az (SS ?_))
 refine af (bR (fun st=>∃ k:Nat,Ghost prog st ⟨aD [(0,au l),(1,I n),(5,I k)],fun _=>none,0⟩/\k<=l.length/\(∀ (j:Nat) y,j<k->l[j]? =some y->y<n)/\∀ y,l[k]? =some y->¬ y<n) (yx (α:=Nat) (fun k=>⟨aD [(0,au l),(1,I n),(5,I k)],fun _=>none,0⟩)
  (fun k=>k<=l.length/\∀ (j:Nat) y,j<k->l[j]? =some y->y<n) (fun k=>l.length - k) 0 (ap eH) ⟨Nat.zero_le _,fun j y hj=>by omega⟩ ?_) ?_)
 .rintro k ⟨hk,hinv⟩;by_cases ao:k<l.length
  .have hx:l[k]? =some l[k]:=aM ao;generalize l[k]=y at hx;have jT:decide ((k:Int)<(l.length:Int))=true:=decide_eq_true oG;refine aJ ?_;refine aq ?_;refine af ⟨_,rfl,fun h=>?_,fun h=>?_⟩
   .have hy:y<n:=by simpa using h
    refine ff (aq ?_);refine af (aK (k+1) (ap eH) ⟨oG,fun j J hj M=>?_⟩ oG);by_cases e:j=k
    .subst e;rw[hx] at M;cases M;exact hy
    .exact hinv j J oG M
   .have hy:¬ y<n:=by simpa using h
    exact⟨k,ap eH,hk,hinv,fun J M=>by rw[hx] at M;cases M;exact hy⟩
  .have jT:decide ((k:Int)<(l.length:Int))=false:=decide_eq_false oG;refine aN ?_;(iterate 6 refine z fun _ _=>?_);refine SS ?_;refine af ⟨_,rfl,fun h=>oH,fun h=>?_⟩;exact⟨k,ap eH,hk,hinv,fun J M=>by have:=(bw.1 M).1;omega⟩
 .rintro st ⟨k,hg,hk,hinv,aF⟩;have rm:=TF hk hinv aF;refine⟨_,hg,aB (aj ?_)⟩;by_cases bm:l[k]? =some n
  .rw[if_pos bm] at rm;have jT:decide ((k:Int)<(l.length:Int))=true:=decide_eq_true (by have:=(bw.1 bm).1;omega);refine aJ ?_;refine aq ?_;refine af (cx rfl (fun h=>?_) fun h=>(by simp at h));refine aB (aj (ag ?_));refine af (bX (av rfl ?_));rw[rm];rfl
  rw[if_neg bm] at rm
  have qj:((l.map I).drop ((0:Int).toNat*1)).take (((k:Int) - 0).toNat*1)=(l.take k).map I:=by
   rw[show(0:Int).toNat*1=0 by simp,show((k:Int) - 0).toNat*1=k by omega,List.drop_zero,List.map_take]
  have A7:((l.map I).drop ((k:Int).toNat*1)).take (((l.length:Int) - k).toNat*1)=(l.drop k).map I:=by
   rw[show(k:Int).toNat*1=k by omega, <- List.map_drop,df (by simp;try omega)]
  have OF:((l.take k).map I).take (((k:Int) - 0).toNat*1)=(l.take k).map I:=df (by simp;try omega);have OG:((l.drop k).map I).take (((l.length:Int) - k).toNat*1)=(l.drop k).map I:=df (by simp;try omega);have v9:((l.take k).map I).length=k:=by simp;omega
  have rJ:((l.drop k).map I).length=l.length - k:=by simp
  have X:((l.take k).map I++[I n])++(l.drop k).map I=(l.take k++n::l.drop k).map I:=by simp
  have hlen:(l.take k++n::l.drop k).length=l.length+1:=by simp;omega
  rw[rm];generalize l.take k++n::l.drop k=J at X hlen;generalize (l.take k).map I=A at qj OF v9 X;generalize (l.drop k).map I=C at A7 OG rJ X;by_cases ao:k<l.length
  .have hx:l[k]? =some l[k]:=aM ao;have aE:l[k]≠n:=fun e=>bm (by rw[hx,e]);generalize l[k]=y at hx aE;have jT:decide ((k:Int)<(l.length:Int))=true:=decide_eq_true oG;have dY:(y==n)=false:=by simpa using aE
   refine aJ ?_;refine aq ?_;refine af (cx rfl (fun h=>oH) fun h=>bP (aj (aq ?_)));refine aI (wq (es':=A) rfl vS c3 rfl rfl qj) cv ⟨vn,oG,oG,oG⟩ ?_;have tV:=OF;refine aN ?_;refine af (az (aq ?_));refine aI (wq (es':=C) rfl vS c3 rfl rfl A7) cv ⟨vn,oG,oG,oG⟩ ?_;have tV:=OG;refine ag ?_;refine af (aW (bG [(4,J.map I,3)] ⟨by rw[<- X];rfl,trivial⟩ (l:=[(4,au J)]) ⟨?_,trivial⟩) (aY (av rfl rfl)));show uh _ [(4,_,3)] (.rs 4 0 (0+((k:Int) - 0).toNat+1+((l.length:Int) - k).toNat))=_;rw[show 0+((k:Int) - 0).toNat+1+((l.length:Int) - k).toNat=J.length by omega];exact ly (sz:=1) c3 (by rw[List.drop_zero,df oS])
  .have jT:decide ((k:Int)<(l.length:Int))=false:=decide_eq_false oG;refine aN ?_;(iterate 6 refine z fun _ _=>?_);refine SS ?_;refine af (cx rfl (fun h=>oH) fun h=>bP (aj (aq ?_)));refine aI (wq (es':=A) rfl vS c3 rfl rfl qj) cv ⟨vn,oG,oG,oG⟩ ?_;have tV:=OF;refine aN ?_;refine af (az (aq ?_));refine aI (wq (es':=C) rfl vS c3 rfl rfl A7) cv ⟨vn,oG,oG,oG⟩ ?_;have tV:=OG;refine ag ?_;refine af (aW (bG [(4,J.map I,3)] ⟨by rw[<- X];rfl,trivial⟩ (l:=[(4,au J)]) ⟨?_,trivial⟩) (aY (av rfl rfl)));show uh _ [(4,_,3)] (.rs 4 0 (0+((k:Int) - 0).toNat+1+((l.length:Int) - k).toNat))=_;rw[show 0+((k:Int) - 0).toNat+1+((l.length:Int) - k).toNat=J.length by omega];exact ly (sz:=1) c3 (by rw[List.drop_zero,df oS])
end Go.Proofs.Tryz.K
end
namespace Go.Argus
open Go Go.Abs
open Go.Proofs.Tryz.K (nextR)
theorem z7{α:Type}{l:List α}{k i:Nat}{x d:α}(hk:k<l.length):(l.set k x).getD i d=if i=k then x else l.getD i d:=by
 rw[bl,List.getElem?_set,bl];by_cases h:k=i
 .subst h;rw[if_pos rfl,if_pos rfl,if_pos hk];rfl
 .rw[if_neg h,if_neg fun e=>h e.symm]
theorem gC.Xp{n:Nat}{s:CS}(h:gC n s){b:Nat}(hb:b<n):gp (s.ws.getD b []):=by
 have hl:b<s.ws.length:=by rw[h.lw];exact hb
 have hx:s.ws[b]? =some s.ws[b]:=aM hl;rw[getD_some hx];have hm:s.ws[b]∈s.ws:=cy _;exact⟨h.kF _ hm,h.rg _ hm⟩
structure Cert where
 any:Bool
 is:List Bool
def gN(R i:Nat):Nat:=if i<R then i else 1200+(i - R)
def cD(R n:Nat)(w:List Int):List Bool:=(range n).map fun i=>eY w (gN R i)
def mX(R n:Nat)(w:List Int):Prop:=∀ r,eY w r=true->∃ i,i<n/\r=gN R i
def jR(c:Cert)(r:Int):Cert:=if r= -1 then c else⟨c.any,c.is.set r.toNat true⟩
def xq(R:Nat)(c:Cert)(x:bE):Cert:=if x.op=18 then jR (jR c (dL x)) ((R:Int)+x.n) else jR c (dL x)
def fB(R:Nat)(l:List bE)(c:Cert):Cert:=l.foldl (xq R) c
def nV(x:End)(to:Int)(c:Cert):Cert:=if x.to≠to\/(dW x).tail.any (·==to)=true\/x.kind=3\/x.kind=4 then c else jR c (eS x)
def qW(a b:Cert):Cert:=if a.any=true then b else if b.any=true then a else⟨false,List.zipWith (fun x y=>x&&y) a.is b.is⟩
def ta(c:Cert)(rs:List Int):Bool:=rs.all fun r=>c.is.getD r.toNat false
theorem DL(R n:Nat)(w:List Int):(cD R n w).length=n:=by simp[cD]
theorem uT{R n i:Nat}{w:List Int}(h:i<n):(cD R n w)[i]? =some (eY w (gN R i)):=by simp[cD,h]
theorem BS{R n i:Nat}{w:List Int}(h:¬ i<n):(cD R n w)[i]? =none:=by simp[cD];omega
theorem aei{R i j:Nat}(hR:R<=1200)(h:gN R i=gN R j):i=j:=by
 unfold gN at h;split at h<;>split at h<;>omega
theorem aej{w:List Int}(h:w.length=20){r:Nat}(hr:¬ r<1280):eY w r=false:=by
 unfold eY;rw[bl,List.getElem?_eq_none (by rw[h];omega)];simp
section
variable{R n:Nat}(hR:R<=1200)(hn:n<=R+60)
include hR hn
theorem afl{i:Nat}(h:i<n):gN R i<1280:=by unfold gN;split<;>omega
theorem QA{w:List Int}(C:gp w){i:Nat}(h:i<n)(r:Nat):eY (iH w (gN R i:Nat)) r=(eY w r||decide (r=gN R i)):=by
 have:=afl hR hn h;unfold iH;rw[if_pos oG,bN,ac3 C.all (by rw[C.len];omega)]
theorem Hb{w:List Int}(C:gp w){i:Nat}(h:i<n):(cD R n w).set i true=cD R n (iH w (gN R i:Nat)):=by
 apply List.ext_getElem?;intro j;rw[List.getElem?_set];by_cases hj:j<n
 .rw[uT hj,uT hj,QA hR hn C h];by_cases e:i=j
  .subst e;simp[DL,h]
  .rw[if_neg e];have:¬ gN R j=gN R i:=fun h=>e (aei hR h).symm;simp[this]
 .rw[BS hj,BS hj];split
  .rw[DL,if_neg oG]
  .rfl
theorem GP{w:List Int}(J:gp w)(C:mX R n w){i:Nat}(h:i<n):mX R n (iH w (gN R i:Nat)):=fun r hr=>by
 rw[QA hR hn J h,Bool.or_eq_true] at hr;rcases hr with hr|hr
 .exact C r hr
 .exact⟨i,h,by simpa using hr⟩
omit hR hn in
theorem ac4{w v:List Int}(C:gp w)(hv:gp v):List.zipWith (fun x y=>x&&y) (cD R n w) (cD R n v)=cD R n (iI w v):=by
 apply List.ext_getElem?;intro j;rw[List.getElem?_zipWith];by_cases hj:j<n
 .rw[uT hj,uT hj,uT hj,Kx C hv]
 .rw[BS hj,BS hj,BS hj]
omit hR hn in
theorem QB{w v:List Int}(J:gp w)(hv:gp v)(C:mX R n v):mX R n (iI w v):=fun r hr=>by
 rw[Kx J hv,aO] at hr;exact C r hr.2
omit hR hn in
theorem aek{w v:List Int}(J:gp w)(hv:gp v)(C:mX R n w)(M:mX R n v)(h:cD R n w=cD R n v):w=v:=by
 refine QC J.all hv.all (by rw[J.len,hv.len]) fun r=>?_
 have hb:∀ i,i<n->eY w (gN R i)=eY v (gN R i):=fun i hi=>by
  have:=congrArg (fun l:List Bool=>l[i]?) h;simpa only[uT hi,aV] using this
 cases e1:eY w r with
 |true=>
  obtain⟨i,hi,rfl⟩:=C r e1;rw[<- hb i hi,e1]
 |false=>
  cases e2:eY v r with
  |false=>rfl
  |true=>
   obtain⟨i,hi,rfl⟩:=M r e2;rw[hb i hi,e2] at e1;cases e1
end
def vf:List Int:=replicate 20 lE
theorem Kz:gp vf:=⟨by simp[vf],fun u C=>by rw[List.eq_of_mem_replicate C];simp[eN,lE]⟩
theorem ac5{r:Nat}(h:r<1280):eY vf r=true:=by
 have h1:vf.getD (r / 64) 0=lE:=by
  unfold vf;rw[bl,List.getElem?_replicate,if_pos oG];rfl
 unfold eY;rw[h1];have h2:r % 64<64:=Nat.mod_lt _ oC;have h3:lE.toNat=2 ^ 64 - 1:=rfl;rw[h3,Nat.testBit_two_pow_sub_one];simpa using h2
theorem abA{w:List Int}(C:gp w):iI vf w=w:=by
 refine QC (Kz.Ng C).all C.all (by rw[(Kz.Ng C).len,C.len]) fun r=>?_;rw[Kx Kz C];by_cases h:r<1280
 .rw[ac5 h,Bool.true_and]
 .rw[aej C.len h,Bool.and_false]
structure AO(R n:Nat)(x:bE):Prop where
 w:dL x= -1\/∃ i:Nat,i<R/\dL x=i
 s:x.op=18->∃ i:Nat,R+i<n/\x.n=i
theorem Rv{R n:Nat}(hR:R<=1200)(hn:n<=R+60)(rW:R<=n){w:List Int}{x:bE}(h:AO R n x)(C:gp w)(M:mX R n w):
 xq R ⟨false,cD R n w⟩ x=⟨false,cD R n (yL w x)⟩/\gp (yL w x)/\mX R n (yL w x):=by
 have aE:∀ {v:List Int},iH v (-1)=v:=fun {v}=>by unfold iH;rw[if_neg oG]
 have X:∀ {i:Nat},i<R->((i:Nat):Int)=(gN R i:Nat):=fun {i} hi=>by unfold gN;rw[if_pos hi]
 unfold xq yL;by_cases J:x.op=18
 .obtain⟨i,hi,e⟩:=h.s J;have oh:dL x= -1:=by simp[dL,aU,nC,pK,J]
  have hp:k8 x.n=(gN R (R+i):Nat):=by rw[e];unfold k8 gN;rw[if_neg oG];omega
  rw[if_pos J,if_pos J,oh,hp];refine⟨?_,C.iH _,GP hR hn C M hi⟩;unfold jR;rw[if_pos rfl,if_neg oG,e, <- Hb hR hn C hi];congr 2
 .rw[if_neg J,if_neg J];rcases h.w with e|⟨i,hi,e⟩
  .rw[e,aE];exact⟨if_pos rfl,C,M⟩
  .rw[e,X hi];refine⟨?_,C.iH _,GP hR hn C M oG⟩;unfold jR;rw[if_neg oG, <- Hb hR hn C oG, <- X hi,bN]
theorem DM{R n:Nat}(hR:R<=1200)(hn:n<=R+60)(C:R<=n):∀ {l:List bE} (_:∀ x∈l,AO R n x) {w:List Int} {ok:Bool} (_:gp w) (_:mX R n w),
 fB R l ⟨false,cD R n w⟩=⟨false,cD R n (l.foldl oW (w,ok)).1⟩/\gp (l.foldl oW (w,ok)).1/\mX R n (l.foldl oW (w,ok)).1
 |[],_,w,ok,hw,ho=>⟨rfl,hw,ho⟩
 |x::l,h,w,ok,hw,ho=>by
  obtain⟨h1,h2,h3⟩:=Rv hR hn C (h x oS) hw ho;unfold fB;rw[List.foldl_cons,List.foldl_cons,h1];exact DM hR hn C (fun y hy=>h y (by simp[hy])) h2 h3
theorem count_tail{l:List Int}{a b:Int}(h:a=b):((a::l).count b=1)↔l.any (·==b)=false:=by
 subst h;rw[List.count_cons_self,List.any_eq_false];constructor
 .intro h x hx;have h0:l.count a=0:=by omega
  rw[List.count_eq_zero] at h0;intro e;have:x=a:=by simpa using e
  subst this;exact h0 hx
 .intro h;have:l.count a=0:=List.count_eq_zero.2 fun hm=>h a hm oS;omega
theorem Rw{R n:Nat}(hR:R<=1200)(hn:n<=R+60)(rW:R<=n){x:End}(he:dW x=dp x)(rU:eS x= -1\/∃ i:Nat,i<R/\eS x=i){to:Int}{w:List Int}(C:gp w)(M:mX R n w):
 nV x to ⟨false,cD R n w⟩=⟨false,cD R n (hD x to w)⟩/\gp (hD x to w)/\mX R n (hD x to w):=by
 have aE:∀ {v:List Int},iH v (-1)=v:=fun {v}=>by unfold iH;rw[if_neg oG]
 have my:BZ x to=true↔¬ (x.to≠to\/(dW x).tail.any (·==to)=true\/x.kind=3\/x.kind=4):=by
  unfold BZ;rw[aO,oF,oF,he];unfold dp;by_cases J:x.kind=3\/x.kind=4
  .rw[if_pos (by simpa[aU] using J)];simp[J]
  .rw[if_neg (by simpa[aU] using J),List.tail_cons];generalize ((if aU [2,8] x.kind=true then [x.gD] else [])++(x.aL.map (·.to)++if iO x=true then [x.cX] else []))=l;constructor
   .rintro⟨h1,h2⟩ h;rcases h with h|h|h|h
    .exact h h1
    .have:=(count_tail (l:=l) h1).1 oG;rw[this] at h;cases h
    .exact J (.inl h)
    .exact J (.inr h)
   .intro h;have h1:x.to=to:=Classical.byContradiction fun e=>h (.inl e);refine⟨h1,?_⟩;have:=(count_tail (l:=l) h1).2 (Bool.eq_false_iff.2 fun e=>h (.inr (.inl e)));omega
 unfold nV hD;by_cases ha:BZ x to=true
 .rw[if_pos ha,if_neg (my.1 ha)];rcases rU with e|⟨i,hi,e⟩
  .rw[e,aE];exact⟨if_pos rfl,C,M⟩
  .have X:((i:Nat):Int)=(gN R i:Nat):=by unfold gN;rw[if_pos hi]
   rw[e,X];refine⟨?_,C.iH _,GP hR hn C M oG⟩;unfold jR;rw[if_neg oG, <- Hb hR hn C oG, <- X,bN]
 .rw[if_neg ha,if_pos (Classical.byContradiction fun h=>ha (my.2 h))];exact⟨rfl,C,M⟩
structure qY(R n N:Nat)(s:CS):Prop where
 ok:gC N s
 yes:∀ k,k<N->s.re.getD k false=true->mX R n (s.ws.getD k [])
 no:∀ k,k<N->s.re.getD k false=false->s.ws.getD k []=vf
def cF(R n:Nat)(s:CS)(k:Nat):Cert:=if s.re.getD k false=true then⟨false,cD R n (s.ws.getD k [])⟩ else⟨true,replicate n false⟩
def CK(x:End)(R n:Nat)(w:List Int)(s:CS)(t:Nat):Cert:=qW (cF R n s t) (nV x t ⟨false,cD R n w⟩)
theorem R7{R n N:Nat}(hR:R<=1200)(hn:n<=R+60)(rW:R<=n){s:CS}(hs:qY R n N s){x:End}(he:dW x=dp x)(rU:eS x= -1\/∃ i:Nat,i<R/\eS x=i){t:Nat}(ht:t<N)
 {w:List Int} (hw:gp w) (ho:mX R n w):
 qY R n N (cW x w s t)/\((CK x R n w s t=cF R n s t/\cW x w s t=s)\/((CK x R n w s t).any≠(cF R n s t).any\/(CK x R n w s t).is≠(cF R n s t).is)/\(cW x w s t).ch=true/\
  ∀ k,cF R n (cW x w s t) k=if k=t then CK x R n w s t else cF R n s k):=by
 obtain⟨o1,C,M⟩:=Rw hR hn rW he rU (to:=(t:Int)) hw ho;have hlw:s.ws.length=N:=hs.ok.lw;have hlr:s.re.length=N:=hs.ok.lr;have ns:=hs.ok.Xp ht;have YO:=(Gs (x:=x) (w:=w) (t:=(t:Int)) hs.ok ⟨oG,oG⟩).1;unfold CK;rw[o1];generalize hv:hD x t w=v at C M
 have key:∀ u:List Int,(s.re.getD t false=true->u≠s.ws.getD t [])->iI (s.ws.getD t []) v=u->mX R n u->qW (cF R n s t) ⟨false,cD R n v⟩=⟨false,cD R n u⟩->(⟨false,cD R n u⟩:Cert).any≠(cF R n s t).any\/cD R n u≠(cF R n s t).is->
  qY R n N (cW x w s t)/\((qW (cF R n s t) ⟨false,cD R n v⟩=cF R n s t/\cW x w s t=s)\/((qW (cF R n s t) ⟨false,cD R n v⟩).any≠(cF R n s t).any\/(qW (cF R n s t) ⟨false,cD R n v⟩).is≠(cF R n s t).is)/\(cW x w s t).ch=true/\
  ∀ k,cF R n (cW x w s t) k=if k=t then qW (cF R n s t) ⟨false,cD R n v⟩ else cF R n s k):=fun u hu hm hou hb aE=>by
  have j4:cW x w s t=⟨s.ws.set t u,s.re.set t true,true⟩:=by
   unfold cW;rw[bN,hv,hm,if_pos];cases e:s.re.getD t false with
   |false=>exact .inl rfl
   |true=>exact .inr (hu e)
  rw[j4] at YO ⊢;have X:∀ k,(s.ws.set t u).getD k []=if k=t then u else s.ws.getD k []:=fun k=>z7 oG
  have xR:∀ k,(s.re.set t true).getD k false=if k=t then true else s.re.getD k false:=fun k=>z7 oG
  refine⟨⟨YO,fun k hk h=>?_,fun k hk h=>?_⟩,.inr ⟨?_,rfl,fun k=>?_⟩⟩
  .rw[X];rw[xR] at h;by_cases e:k=t
   .rw[if_pos e];exact hou
   .rw[if_neg e] at h ⊢;exact hs.yes k hk h
  .rw[X];rw[xR] at h;by_cases e:k=t
   .rw[if_pos e] at h;cases h
   .rw[if_neg e] at h ⊢;exact hs.no k hk h
  .rw[hb];exact aE
  .rw[hb];unfold cF;rw[X,xR];by_cases e:k=t
   .rw[if_pos e,if_pos e,if_pos e,if_pos rfl]
   .rw[if_neg e,if_neg e,if_neg e]
 cases J:s.re.getD t false with
 |false=>
  have hc:cF R n s t=⟨true,replicate n false⟩:=by unfold cF;rw[J];rfl
  refine key v (fun h=>by rw[J] at h;cases h) (by rw[hs.no t ht J,abA C]) M ?_ (.inl ?_)
  .rw[hc];rfl
  .rw[hc];simp
 |true=>
  have hc:cF R n s t=⟨false,cD R n (s.ws.getD t [])⟩:=by unfold cF;rw[J];rfl
  have hb:qW (cF R n s t) ⟨false,cD R n v⟩=⟨false,cD R n (iI (s.ws.getD t []) v)⟩:=by
   rw[hc];unfold qW;rw[if_neg oS,if_neg oS,ac4 ns C]
  by_cases hm:iI (s.ws.getD t []) v=s.ws.getD t []
  .have j4:cW x w s t=s:=by
    unfold cW;rw[bN,hv,hm,J,if_neg oS]
   rw[j4,hb,hm,hc];exact⟨hs,.inl ⟨rfl,rfl⟩⟩
  .refine key _ (fun _=>hm) rfl (QB ns C M) hb (.inr fun e=>hm ?_);rw[hc] at e;exact aek (ns.Ng C) ns (QB ns C M) (hs.yes t ht J) e
theorem R6{R n N:Nat}{s:CS}(h:qY R n N s)(c:Bool):qY R n N ⟨s.ws,s.re,c⟩:=⟨⟨h.ok.lw,h.ok.lr,h.ok.kF,h.ok.rg⟩,h.yes,h.no⟩
theorem Qs{R n N args:Nat}(hR:R<=1200)(hn:n<=R+60)(rW:R<=n)(M:0<N)(ha:args<=R):qY R n N (kJ N args)/\cF R n (kJ N args) 0=⟨false,replicate args true++replicate (n - args) false⟩/\
 ∀ k,0<k->k<N->cF R n (kJ N args) k=⟨true,replicate n false⟩:=by
 have hA:∀ k,k<=R->gp (jl k)/\mX R n (jl k)/\cD R n (jl k)=replicate k true++replicate (n - k) false:=fun k=>by
  induction k with
  |zero=>
   intro _;have X:∀ r,eY (jl 0) r=false:=ac6 20;refine⟨⟨oS,Gw 0⟩,(fun r hr=>by rw[X r] at hr;cases hr),?_⟩;apply List.ext_getElem?;intro j;by_cases hj:j<n
   .rw[uT hj,X];simp[hj]
   .rw[BS hj];simp;omega
  |succ k ih=>
   intro hk;obtain⟨h1,h2,h3⟩:=ih oG;have lF:((k:Nat):Int)=(gN R k:Nat):=by unfold gN;rw[if_pos oG]
   have he:jl (k+1)=iH (jl k) (gN R k:Nat):=by rw[<- lF];rfl
   rw[he];refine⟨h1.iH _,GP hR hn h1 h2 oG,?_⟩;rw[<- Hb hR hn h1 oG,h3,Hj oG]
 obtain⟨h1,h2,h3⟩:=hA args ha;have J:∀ k,(kJ N args).ws.getD k []=if k=0 then jl args else(replicate N vf).getD k []:=fun k=>z7 (by simpa using M)
 have C:∀ k,(kJ N args).re.getD k false=if k=0 then true else(replicate N false).getD k false:=fun k=>z7 (by simpa using M)
 have Jk:∀ k,k<N->(replicate N vf).getD k []=vf:=fun k hk=>by rw[bl,List.getElem?_replicate,if_pos hk];rfl
 have rr:∀ k,(replicate N false).getD k false=false:=fun k=>by
  rw[bl,List.getElem?_replicate];split<;>rfl
 refine⟨⟨Jw (Gw args),fun k hk h=>?_,fun k hk h=>?_⟩,?_,fun k h0 hk=>?_⟩
 .rw[C] at h;rw[J];by_cases e:k=0
  .rw[if_pos e];exact h2
  .rw[if_neg e,rr] at h;cases h
 .rw[C] at h;rw[J];by_cases e:k=0
  .rw[if_pos e] at h;cases h
  .rw[if_neg e];exact Jk k hk
 .unfold cF;rw[C,J,if_pos rfl,if_pos rfl,if_pos rfl,h3]
 .unfold cF;rw[C,if_neg (show ¬ k=0 by omega),rr];rfl
end Go.Argus
section
open Go Go.Abs Go.Proofs Go.Argus
namespace Go.Abs
theorem R2{P:Program}{st:St}{a n:Nat}{ty:TypeId}{cs vs:List D}(ha:st.env a=.pt cs)(hg:aggP P ty=true)(hc:P.cellsOf ty=n)(hv:cs.take n=vs)(ht:tyOk P ty=true)(hl:n<=cs.length):
 ∃ p,resD P st (.cell a ty)=some (p,.agg vs)/\p:=⟨tyOk P ty=true/\n<=cs.length,by simp only[resD,ha,takeV,hg,if_true,hc,hv],ht,hl⟩
end Go.Abs
namespace Go.Argus
def cH(c:Cert):List D:=[B c.any,dv c.is]
@[simp] theorem aoe (c : Cert) : (cH c).length = 2 := rfl
theorem uW(c:Cert):∀ a∈cH c,Tr a:=.cons (.s _) (.cons (.sl (.map fun _=>.s _)) .nil)
theorem GN(c:Cert)(r:Int):(jR c r).is.length=c.is.length:=by unfold jR;split<;>simp
theorem acH(R:Nat)(c:Cert)(x:bE):(xq R c x).is.length=c.is.length:=by unfold xq;split<;>simp[GN]
theorem DD(R:Nat):∀ (l:List bE) (c:Cert),(fB R l c).is.length=c.is.length
 |[],_=>rfl
 |x::l,c=>by
  unfold fB;rw[List.foldl_cons];exact(DD R l _).trans (acH R c x)
theorem Qp(x:End)(to:Int)(c:Cert):(nV x to c).is.length=c.is.length:=by unfold nV;split<;>simp[GN]
def Fb(n:Nat)(r:Int):Prop:=r= -1\/∃ i:Nat,i<n/\r=i
theorem dc{l:List Int}{n c:Int}(h:(n==c)=true)(hm:c∈l):B (n==c)=B (aU l n):=by
 have:aU l n=true:=List.any_eq_true.2 ⟨c,hm,h⟩;rw[h,this]
end Go.Argus
namespace Go.Proofs.Tryz.K
theorem uc{c:Cert}{rs:List Int}(M:∀ r∈rs,∃ i:Nat,i<c.is.length/\r=i):PCall prog 122 [.agg (cH c),au rs] (B (ta c rs)):=by
 have C:∀ a∈[D.agg (cH c),au rs],Tr a:=.cons (.agg (uW c)) (.cons (cL _) .nil);refine mG alU.he C fun X=>?_;have hlen:=(X (au rs) oS).sl.1;unfold maxLen at hlen;refine bg alU C (Tr.s _) ?_;rw[ahq];refine az (ag ?_);refine af (aW (bG [(0,cH c,158)] eH (l:=[(1,au rs),(2,.pt (cH c))]) eH) (aB (az (SS ?_))))
 refine af (bR (fun s=>Ghost prog s ⟨aD [],fun _=>none,1⟩/\∀ (j:Nat) y,rs[j]? =some y->c.is.getD y.toNat false=true) (cQ (α:=Nat) (fun k=>⟨aD [(1,au rs),(2,.pt (cH c)),(5,I k)],fun _=>none,1⟩)
  (fun k=>k<=rs.length/\∀ j y,j<k->rs[j]? =some y->c.is.getD y.toNat false=true) (fun k=>rs.length - k) 0 (ap eH) ⟨oG,fun j y hj=>by omega⟩ ?_) ?_)
 .rintro k ⟨hk,hinv⟩;refine aP ?_;refine af ⟨_,rfl,fun h=>?_,fun h=>?_⟩
  .have ao:k<rs.length:=by simpa using h
   have hx:rs[k]? =some rs[k]:=aM ao;obtain⟨i,hi,e⟩:=M _ (cy ao);have hy:c.is[i]? =some c.is[i]:=aM hi;rw[e] at hx;clear e
   have hg:∀ y,rs[k]? =some y->c.is.getD y.toNat false=c.is[i]:=fun y h=>by
    rw[hx] at h;cases h;rw[bN,getD_some hy]
   generalize c.is[i]=b at hy hg;refine dE abf (aJ ?_);refine a8 bc (aw rfl (fun hp=>?_) fun hp=>?_)
   .refine ws (SS ?_);refine af (aY (br (aR (av (d:=B false) rfl ?_))));have:ta c rs=false:=List.all_eq_false.2 ⟨_,bU hx,by rw[hg _ hx];simpa using hp⟩;rw[this]
   .refine bS (aq ?_);refine af (aK (k+1) (ap eH) ⟨oG,fun j y hj hy=>?_⟩ oG);by_cases e:j=k
    .subst e;rw[hg y hy];simpa using hp
    .exact hinv j y oG hy
  .have a9:¬ k<rs.length:=by simpa using h
   exact⟨.forget _ _ _ _ fun _=>.inr rfl,fun j y hy=>hinv j y (by have:=(bw.1 hy).1;omega) hy⟩
 .rintro s ⟨hg,J⟩;refine⟨_,hg,aj ?_⟩;refine SS ?_;refine af (av (d:=B true) rfl ?_)
  have:ta c rs=true:=bj.2 fun x hx=>by
   obtain⟨j,hj⟩:=cC hx;exact J j x hj
  rw[this]
theorem kA{c:Cert}{r:Int}(hl:c.is.length<=100000)(hr:Fb c.is.length r):PCall prog 124 [.agg (cH c),I r] (.agg (cH (jR c r))):=by
 refine bg ahr (.cons (.agg (uW c)) (.cons (.s _) .nil)) (.agg (uW _)) ?_;rw[ahs];refine ws (ag ?_);refine af (aB (aj ?_));rcases hr with rfl|⟨i,hi,rfl⟩
 .refine ag ?_;refine af (dN (aB (aj (ag ?_))));refine af (bX (nH (mF rfl rfl ud nh rfl t158 (bD rfl)) ?_));rfl
 .have dY:((i:Int)== -1)=false:=by simp
  refine ag ?_;refine af (gS (bP (dE abg ?_)));have C:(c.is.map B).length=c.is.length:=by simp
  have tV:(c.is.map B).take (c.is.length*1)=c.is.map B:=df oS;refine aN ?_;refine vm (uV rfl rfl rfl V.h V.h (QJ tV) rfl) ak ⟨V.h,rfl,(by first|omega|exact bD rfl|(simp;done)|(simp;omega)),oC,(by first|rfl|(simp;done)|(simp;omega)),(by unfold maxLen;first|omega|(simp;omega)),(by rw[b4];first|omega|(simp;omega)),(by first|(simp;done)|(simp;omega))⟩ ?_;refine aq ?_;refine a8 bc (aj (aN ?_));refine af (az (ag ?_))
  have e:sub (fz0 3 ((c.is.set i true).map B) (prog.cellsOf 4)) (.rs 3 0 (0+c.is.length))=.sl ((c.is.set i true).map B) c.is.length:=by
   rw[c4,Nat.zero_add,Cj,List.drop_zero,df oS]
  refine af (aW (bG [(3,(c.is.set i true).map B,4),(1,[B c.any,.sl ((c.is.set i true).map B) c.is.length],158)] ⟨?_,?_,trivial⟩ (l:=[(4,.pt [B c.any,.sl ((c.is.set i true).map B) c.is.length])]) eH) (aY (nH (R2 rfl ud nh rfl t158 (bF _)) ?_)))
  .rw[List.map_set];rfl
  .exact congrArg (fun d=>some (Row.cells [B c.any,d] 158)) e
  unfold jR;rw[if_neg oG,bN];show _=D.agg [B c.any,.sl _ (c.is.set i true).length];rw[List.length_set];rfl
theorem sN{x:bE}:PCall prog 125 [.agg (bu x)] (I (dL x)):=by
 refine bg aht (.cons (.agg (r8 x)) .nil) (Tr.s _) ?_;rw[ahu];refine az (ag ?_);refine af (aW (bG [(0,bu x,66)] eH (l:=[(1,.pt (bu x))]) eH) (aB (aj (ag ?_))));refine af (oD ?_)
 have J:dL x=if aU (nC++pK) x.op=true then x.to else -1:=by
  unfold dL;have:aU (nC++pK) x.op=(aU nC x.op||aU pK x.op):=List.any_append;rw[this];cases aU nC x.op<;>cases aU pK x.op<;>rfl
 refine eI (fun s=>Ghost prog s ⟨aD [(1,.pt (bu x)),(4,U8 x.op),(5,B (aU (nC++pK) x.op))],fun _=>none,1⟩) (aj ?_) fun s hg=>⟨_,hg,?_⟩
 .refine ag ?_;refine af (aw rfl (fun h=>bd (ap ⟨rfl,rfl,dc h oC,trivial⟩)) fun e1=>aj (ag ?_));refine af (aw rfl (fun h=>bd (ap ⟨rfl,rfl,dc h oC,trivial⟩)) fun e2=>aj (ag ?_));refine af (aw rfl (fun h=>bd (ap ⟨rfl,rfl,dc h oC,trivial⟩)) fun e3=>aj (ag ?_));refine af (aw rfl (fun h=>bd (ap ⟨rfl,rfl,dc h oC,trivial⟩)) fun e4=>aj (ag ?_));refine af (aw rfl (fun h=>bd (ap ⟨rfl,rfl,dc h oC,trivial⟩)) fun e5=>aj (ag ?_));refine af (aw rfl (fun h=>bd (ap ⟨rfl,rfl,dc h oC,trivial⟩)) fun e6=>aj (ag ?_));refine af (aw rfl (fun h=>bd (ap ⟨rfl,rfl,dc h oC,trivial⟩)) fun e7=>aj (ag ?_));refine af (aw rfl (fun h=>bd (ap ⟨rfl,rfl,dc h oC,trivial⟩)) fun e8=>aj (ag ?_));refine af (aw rfl (fun h=>bd (ap ⟨rfl,rfl,dc h oC,trivial⟩)) fun e9=>aj (ag ?_));refine af (aw rfl (fun h=>bd (ap ⟨rfl,rfl,dc h oC,trivial⟩)) fun OH=>aj (ag ?_));refine af (aw rfl (fun h=>bd (ap ⟨rfl,rfl,dc h oC,trivial⟩)) fun sX=>aj (ag ?_));refine af (aw rfl (fun h=>bd (ap ⟨rfl,rfl,dc h oC,trivial⟩)) fun yc=>aj (ag ?_));refine af (aw rfl (fun h=>bd (ap ⟨rfl,rfl,dc h oC,trivial⟩)) fun M=>aj (ag ?_));refine af (aw rfl (fun h=>bd (ap ⟨rfl,rfl,dc h oC,trivial⟩)) fun F8=>aj (ag ?_));refine af (aw rfl (fun h=>bd (ap ⟨rfl,rfl,dc h oC,trivial⟩)) fun C=>aj (ag ?_));refine af (aw rfl (fun h=>bd (ap ⟨rfl,rfl,dc h oC,trivial⟩)) fun ye=>aj (ag ?_));refine af (aw rfl (fun h=>bd (ap ⟨rfl,rfl,dc h oC,trivial⟩)) fun yf=>aj (ag ?_));refine af (aw rfl (fun h=>bd (ap ⟨rfl,rfl,dc h oC,trivial⟩)) fun yg=>aj (ag ?_));refine af (aw rfl (fun h=>bd (ap ⟨rfl,rfl,dc h oC,trivial⟩)) fun yh=>aj (ag ?_));refine af (aw rfl (fun h=>bd (ap ⟨rfl,rfl,dc h oC,trivial⟩)) fun X=>aj (ag ?_));refine af (aw rfl (fun h=>bd (ap ⟨rfl,rfl,dc h oC,trivial⟩)) fun OI=>lm (ag ?_));refine af (ap ⟨rfl,rfl,?_,trivial⟩);show D.s (.bool (x.op==37))=_;simp only[aU,nC,pK,List.cons_append,List.nil_append,List.any_cons,List.any_nil,e1,e2,e3,e4,e5,e6,e7,e8,e9,OH,sX,yc,M,F8,C,ye,yf,yg,yh,X,OI,Bool.false_or,Bool.or_false]
 refine aw rfl (fun h1=>aj ?_) fun h1=>nI (aj ?_)
 .refine aq ?_;refine af (aY (bO (aR (av rfl ?_))));rw[J,if_pos h1];rfl
 .refine SS ?_;refine af (av rfl ?_);rw[J,if_neg (by simp[h1])];rfl
theorem Is{x:Argus.End}:PCall prog 146 [.agg (bh x)] (I (eS x)):=by
 have C:∀ a∈[D.agg (bh x)],Tr a:=.cons (.agg (lR x)) .nil;have sN:=sN (x:=x.ins);refine bg ahv C (Tr.s _) ?_;rw[ahw];refine az (ag ?_);refine af (aW (bG [(0,bh x,69)] eH (l:=[(1,.pt (bh x))]) eH) (aB (aj (ag ?_))));refine af (oD (aj (ag ?_)));refine af (aw rfl (fun h1=>?_) fun h1=>?_)
 .have h1:x.kind=5:=by simpa using h1
  refine ws (ag ?_);refine cl sN (SS ?_);refine af (aY (bO (aR (av (d:=I (dL x.ins)) rfl ?_))));simp[eS,h1]
 have h1:¬ x.kind=5:=by simpa using h1
 refine eI (fun s=>Ghost prog s ⟨aD [(1,.pt (bh x)),(4,U8 x.kind),(10,B (aU [6,7] x.kind))],fun _=>none,1⟩) (aj ?_) fun s hg=>⟨_,hg,?_⟩
 .refine ag ?_;refine af (aw rfl (fun h=>bd (ap ⟨rfl,rfl,dc h oC,trivial⟩)) fun e6=>lm (ag ?_));refine af (ap ⟨rfl,rfl,?_,trivial⟩);show D.s (.bool (x.kind==7))=_;simp[aU,e6]
 refine aw rfl (fun h2=>?_) fun h2=>?_
 .refine ws (aq ?_);refine af (aY (bO (aR (av (d:=I x.a) rfl ?_))));simp[eS,h1,h2]
 refine ws (ag ?_);refine af (aw rfl (fun h3=>?_) fun h3=>?_)
 .have h3:x.kind=8:=by simpa using h3
  refine ws (aq ?_);refine af (aY (bO (aR (av (d:=I x.b) rfl ?_))));simp[eS,h2,h3];simp[aU]
 have h3:¬ x.kind=8:=by simpa using h3
 refine nI (aj (SS ?_));refine af (av (d:=I (-1)) rfl ?_);simp[eS,h1,h2,h3]
theorem zh{x:bE}(hx:x.op=10\/x.op=38->x.args.length<=1000):PCall prog 123 [.agg (bu x)] (au (cP x)):=by
 have a7:∀ a∈[D.agg (bu x)],Tr a:=.cons (.agg (r8 x)) .nil;refine bg ahx a7 (cL _) ?_;rw[ahy];refine az (ag ?_);refine af (aW (bG [(0,bu x,66)] eH (l:=[(1,.pt (bu x))]) eH) (aB (aj (ag ?_))));refine af (oD (eI (fun s=>Ghost prog s ⟨aD [(1,.pt (bu x)),(4,U8 x.op),(5,B (aU pN x.op))],fun _=>none,1⟩) (aj ?_) fun s hg=>⟨_,hg,?_⟩))
 .refine ag ?_;refine af (aw rfl (fun h=>bd (ap ⟨rfl,rfl,dc h oC,trivial⟩)) fun e2=>aj (ag ?_));refine af (aw rfl (fun h=>bd (ap ⟨rfl,rfl,dc h oC,trivial⟩)) fun e8=>aj (ag ?_));refine af (aw rfl (fun h=>bd (ap ⟨rfl,rfl,dc h oC,trivial⟩)) fun sX=>aj (ag ?_));refine af (aw rfl (fun h=>bd (ap ⟨rfl,rfl,dc h oC,trivial⟩)) fun yc=>aj (ag ?_));refine af (aw rfl (fun h=>bd (ap ⟨rfl,rfl,dc h oC,trivial⟩)) fun C=>aj (ag ?_));refine af (aw rfl (fun h=>bd (ap ⟨rfl,rfl,dc h oC,trivial⟩)) fun F9=>aj (ag ?_));refine af (aw rfl (fun h=>bd (ap ⟨rfl,rfl,dc h oC,trivial⟩)) fun Ga=>aj (ag ?_));refine af (aw rfl (fun h=>bd (ap ⟨rfl,rfl,dc h oC,trivial⟩)) fun M=>lm (ag ?_));refine af (ap ⟨rfl,rfl,?_,trivial⟩);show D.s (.bool (x.op==36))=_;simp[aU,pN,e2,e8,sX,yc,C,F9,Ga,M]
 refine aw rfl (fun h1=>?_) fun h1=>?_
 .refine az (aP ?_);exact af (aW (bG [(1,([x.a]).map I,3)] eH (l:=[(2,au ([x.a]))]) ⟨ly c3 rfl,trivial⟩) (aY (bO (aR (av (d:=au ([x.a])) rfl (congrArg au (by unfold cP;rw[if_pos h1])))))))
 refine eI (fun s=>Ghost prog s ⟨aD [(1,.pt (bu x)),(4,U8 x.op),(18,B (aU tm x.op))],fun _=>none,1⟩) (aj ?_) fun s hg=>⟨_,hg,?_⟩
 .refine ag ?_;refine af (aw rfl (fun h=>bd (ap ⟨rfl,rfl,dc h oC,trivial⟩)) fun e3=>aj (ag ?_));refine af (aw rfl (fun h=>bd (ap ⟨rfl,rfl,dc h oC,trivial⟩)) fun e4=>aj (ag ?_));refine af (aw rfl (fun h=>bd (ap ⟨rfl,rfl,dc h oC,trivial⟩)) fun e5=>aj (ag ?_));refine af (aw rfl (fun h=>bd (ap ⟨rfl,rfl,dc h oC,trivial⟩)) fun e6=>aj (ag ?_));refine af (aw rfl (fun h=>bd (ap ⟨rfl,rfl,dc h oC,trivial⟩)) fun e7=>aj (ag ?_));refine af (aw rfl (fun h=>bd (ap ⟨rfl,rfl,dc h oC,trivial⟩)) fun X=>aj (ag ?_));refine af (aw rfl (fun h=>bd (ap ⟨rfl,rfl,dc h oC,trivial⟩)) fun ye=>aj (ag ?_));refine af (aw rfl (fun h=>bd (ap ⟨rfl,rfl,dc h oC,trivial⟩)) fun yf=>aj (ag ?_));refine af (aw rfl (fun h=>bd (ap ⟨rfl,rfl,dc h oC,trivial⟩)) fun yg=>aj (ag ?_));refine af (aw rfl (fun h=>bd (ap ⟨rfl,rfl,dc h oC,trivial⟩)) fun yh=>aj (ag ?_));refine af (aw rfl (fun h=>bd (ap ⟨rfl,rfl,dc h oC,trivial⟩)) fun J=>aj (ag ?_));refine af (aw rfl (fun h=>bd (ap ⟨rfl,rfl,dc h oC,trivial⟩)) fun OL=>lm (ag ?_));refine af (ap ⟨rfl,rfl,?_,trivial⟩);show D.s (.bool (x.op==37))=_;simp[aU,tm,e3,e4,e5,e6,e7,X,ye,yf,yg,yh,J,OL]
 refine aw rfl (fun h2=>?_) fun h2=>?_
 .refine az (bB ?_);exact af (aW (bG [(1,([x.a,x.b]).map I,3)] eH (l:=[(2,au ([x.a,x.b]))]) ⟨ly c3 rfl,trivial⟩) (aY (bO (aR (av (d:=au ([x.a,x.b])) rfl (congrArg au (by unfold cP;rw[if_neg (by simp[h1]),if_pos h2])))))))
 refine ws (ag ?_);refine af (aw rfl (fun h3=>?_) fun h3=>?_)
 .have h3:x.op=10:=by simpa using h3
  have hl:=hx (.inl h3);have tV:(x.args.map I).take (x.args.length*1)=x.args.map I:=df oS;refine az (aN ?_);refine af (aW (bG [(2,x.args.map I,3)] eH (l:=[(2,au x.args)]) ⟨?_,trivial⟩) (aY (bO (aR (av (d:=au x.args) rfl ?_)))))
  .show uh _ [(2,_,3)] (.rs 2 0 (0+x.args.length))=_;refine(ly c3 (es:=x.args.map I) (df oS)).trans ?_;rw[Nat.zero_add]
  exact congrArg au (by unfold cP;rw[if_neg (by simp[h1]),if_neg (by simp[h2]),if_pos h3])
 have h3:¬ x.op=10:=by simpa using h3
 refine ws (ag ?_);refine af (aw rfl (fun h4=>?_) fun h4=>?_)
 .have h4:x.op=38:=by simpa using h4
  have hl:=hx (.inr h4);have tV:(x.args.map I).take (x.args.length*1)=x.args.map I:=df oS;refine az (aJ ?_);refine af (aW (bG [(2,(x.a::x.b::x.args).map I,3)] eH (l:=[(2,au (x.a::x.b::x.args))]) ⟨?_,trivial⟩) (aY (bO (aR (av (d:=au (x.a::x.b::x.args)) rfl ?_)))))
  .show uh _ [(2,_,3)] (.rs 2 0 (2+x.args.length))=_;refine(ly c3 (es:=(x.a::x.b::x.args).map I) (df oP)).trans ?_;rw[Nat.add_comm];rfl
  .exact congrArg au (by unfold cP;rw[if_neg (by simp[h1]),if_neg (by simp[h2]),if_neg h3,if_pos h4])
 have h4:¬ x.op=38:=by simpa using h4
 refine nI (az (SS ?_));exact af (aW (z6 (n0:=2) rfl) (av (d:=au []) rfl (congrArg au (by unfold cP;rw[if_neg (by simp[h1]),if_neg (by simp[h2]),if_neg h3,if_neg h4]))))
theorem It{x:Argus.End}(hx:x.kind=5->x.ins.op=10\/x.ins.op=38->x.ins.args.length<=1000)(hy:x.kind=6\/x.kind=7->x.args.length<=1000):PCall prog 128 [.agg (bh x)] (au (cK x)):=by
 have C:∀ a∈[D.agg (bh x)],Tr a:=.cons (.agg (lR x)) .nil;refine bg ahz C (cL _) ?_;rw[ahA];refine az (ag ?_);refine af (aW (bG [(0,bh x,69)] eH (l:=[(1,.pt (bh x))]) eH) (aB (aj (ag ?_))));refine af (oD (eI (fun s=>Ghost prog s ⟨aD [(1,.pt (bh x)),(4,U8 x.kind),(5,B (aU [2,8,9] x.kind))],fun _=>none,1⟩) (aj ?_) fun s hg=>⟨_,hg,?_⟩))
 .refine ag ?_;refine af (aw rfl (fun h=>bd (ap ⟨rfl,rfl,dc h oC,trivial⟩)) fun e2=>aj (ag ?_));refine af (aw rfl (fun h=>bd (ap ⟨rfl,rfl,dc h oC,trivial⟩)) fun e8=>lm (ag ?_));refine af (ap ⟨rfl,rfl,?_,trivial⟩);show D.s (.bool (x.kind==9))=_;simp[aU,e2,e8]
 refine aw rfl (fun h1=>?_) fun h1=>?_
 .refine az (aP ?_);exact af (aW (bG [(1,([x.a]).map I,3)] eH (l:=[(2,au ([x.a]))]) ⟨ly c3 rfl,trivial⟩) (aY (bO (aR (av (d:=au ([x.a])) rfl (congrArg au (by unfold cK;rw[if_pos h1])))))))
 refine ws (ag ?_);refine af (aw rfl (fun h2=>?_) fun h2=>?_)
 .have h2:x.kind=3:=by simpa using h2
  refine aB (aj (aq ?_));refine af (cx rfl (fun h3=>?_) fun h3=>bP (az ?_))
  .have h3:x.a= -1:=by simpa using h3
   refine aB (az (SS ?_));exact af (aW (z6 (n0:=2) rfl) (bX (bO (aR (av (d:=au []) rfl (congrArg au (by unfold cK;rw[if_neg (by simp[h1]),if_pos h2,if_neg (by simp[h3])])))))))
  .have h3:¬ x.a= -1:=by simpa using h3
   refine aP ?_;exact af (aW (bG [(1,([x.a]).map I,3)] eH (l:=[(2,au ([x.a]))]) ⟨ly c3 rfl,trivial⟩) (aY (bO (aR (av (d:=au ([x.a])) rfl (congrArg au (by unfold cK;rw[if_neg (by simp[h1]),if_pos h2,if_pos h3])))))))
 have h2:¬ x.kind=3:=by simpa using h2
 refine ws (ag ?_);refine af (aw rfl (fun h3=>?_) fun h3=>?_)
 .have h3:x.kind=5:=by simpa using h3
  have zh:=zh (x:=x.ins) (hx h3);refine ws (ag ?_);refine cl zh (SS ?_);exact af (aY (bO (aR (av (d:=au (cP x.ins)) rfl (congrArg au (by unfold cK;rw[if_neg (by simp[h1]),if_neg h2,if_pos h3]))))))
 have h3:¬ x.kind=5:=by simpa using h3
 refine eI (fun s=>Ghost prog s ⟨aD [(1,.pt (bh x)),(4,U8 x.kind),(25,B (aU [6,7] x.kind))],fun _=>none,1⟩) (aj ?_) fun s hg=>⟨_,hg,?_⟩
 .refine ag ?_;refine af (aw rfl (fun h=>bd (ap ⟨rfl,rfl,dc h oC,trivial⟩)) fun e6=>lm (ag ?_));refine af (ap ⟨rfl,rfl,?_,trivial⟩);show D.s (.bool (x.kind==7))=_;simp[aU,e6]
 refine aw rfl (fun h4=>?_) fun h4=>?_
 .have h5:x.kind=6\/x.kind=7:=by simpa[aU] using h4
  have hl:=hy h5;have tV:(x.args.map I).take (x.args.length*1)=x.args.map I:=df oS;refine az (aN ?_);refine af (aW (bG [(2,x.args.map I,3)] eH (l:=[(2,au x.args)]) ⟨?_,trivial⟩) (aY (bO (aR (av (d:=au x.args) rfl ?_)))))
  .show uh _ [(2,_,3)] (.rs 2 0 (0+x.args.length))=_;refine(ly c3 (es:=x.args.map I) (df oS)).trans ?_;rw[Nat.zero_add]
  exact congrArg au (by unfold cK;rw[if_neg (by simp[h1]),if_neg h2,if_neg h3,if_pos h4])
 refine nI (az (SS ?_));exact af (aW (z6 (n0:=2) rfl) (av (d:=au []) rfl (congrArg au (by unfold cK;rw[if_neg (by simp[h1]),if_neg h2,if_neg h3,if_neg (by simp[h4])]))))
end Go.Proofs.Tryz.K
end
namespace Go.Argus
open Go Go.Abs
open Go.Proofs.Tryz.K (nextR)
structure Iv(R n:Nat)(x:bE):Prop where
 r:∀ r∈cP x,∃ i:Nat,i<R/\r=i
 s:x.op=17->∃ i:Nat,R+i<n/\x.n=i
 p:x.op=19->∀ r∈x.args,∃ i:Nat,i<R/\r=i
theorem lP{l:List Int}{r:Int}(h:jA l r):∃ i:Nat,i<l.length/\r=i:=⟨r.toNat,by unfold jA at h;omega,by unfold jA at h;omega⟩
theorem SP{f:aG}{b ah:Int}{x:bE}(hs:∀ k∈f.aZ,k≠0)(h:eD f b ah x=true):AO f.al.length (f.al.length+f.aZ.length) x/\Iv f.al.length (f.al.length+f.aZ.length) x/\(x.op=19->(x.args.length:Int)=ah):=by
 have k1:∀ {r:Int},bp f r 119=true->∃ i:Nat,i<f.al.length/\r=i:=fun {r} h=>lP (lj fun e=>by rw[ve,e] at h;simp[aX] at h);have M:∀ {r:Int},bp f r 114=true->∃ i:Nat,i<f.al.length/\r=i:=fun {r} h=>lP (lj fun e=>by rw[Ay,e] at h;simp[aX] at h);have k3:∀ {r:Int},bp f r 105=true->∃ i:Nat,i<f.al.length/\r=i:=fun {r} h=>lP (lj fun e=>by rw[ER,e] at h;simp[aX] at h);have k4:∀ {r:Int},bp f r 118=true->∃ i:Nat,i<f.al.length/\r=i:=fun {r} h=>lP (pJ h)
 have X:∀ {a b:Int},kL f a b=true->(∃ i:Nat,i<f.al.length/\a=i)/\∃ i:Nat,i<f.al.length/\b=i:=fun {a b} h=>by
  simp only[kL,aO] at h;exact⟨lP (pJ h.1),lP (pJ h.2.1)⟩
 have k6:∀ {l:List Int},gX f.al l=true->∀ r∈l,∃ i:Nat,i<f.al.length/\r=i:=fun {l} h r hr=>lP (z5 h r hr)
 have k7:∀ {r n:Int},mT f.al f.aZ r n=true->(∃ i:Nat,i<f.al.length/\r=i)/\∃ i:Nat,f.al.length+i<f.al.length+f.aZ.length/\n=i:=fun {r n} h=>by
  obtain⟨h1,h2,h3⟩:=KW hs h;exact⟨lP h1,n.toNat,oG,oG⟩
 obtain⟨op,to,a,C,n,args⟩:=x;unfold eD at h;dsimp only at h
 have fin:∀ {W:Prop} {Rs:List Int},(dL ⟨op,to,a,C,n,args⟩= -1\/∃ i:Nat,i<f.al.length/\dL ⟨op,to,a,C,n,args⟩=i)->cP ⟨op,to,a,C,n,args⟩=Rs->(∀ r∈Rs,∃ i:Nat,i<f.al.length/\r=i)->
  op≠17->op≠18->op≠19->AO f.al.length (f.al.length+f.aZ.length) ⟨op,to,a,C,n,args⟩/\Iv f.al.length (f.al.length+f.aZ.length) ⟨op,to,a,C,n,args⟩/\(op=19->(args.length:Int)=ah):=fun {W Rs} h1 h2 h3 e1 e2 e3=>
  ⟨⟨h1,fun e=>absurd e e2⟩,⟨by rw[h2];exact h3,fun e=>absurd e e1,fun e=>absurd e e3⟩,fun e=>absurd e e3⟩
 by_cases h1:op=1
 .subst h1;simp[aO] at h;exact fin (W:=True) (Rs:=[]) (.inr (k1 h.2.1)) rfl oS oC oC oC
 by_cases h2:op=2
 .subst h2;simp[aO] at h;exact fin (W:=True) (Rs:=[a]) (.inr (X h.2).1) rfl (by simpa using(X h.2).2) oC oC oC
 by_cases h3:op=3\/op=4\/op=6\/op=7
 .have J:bp f to 119=true/\bp f a 119=true/\bp f C 119=true:=by
   rcases h3 with rfl|rfl|rfl|rfl<;>(simp[aU,aO] at h;exact h.2)
  have hr:∀ r∈[a,C],∃ i:Nat,i<f.al.length/\r=i:=by
   intro r hr;simp at hr;rcases hr with rfl|rfl
   .exact k1 J.2.1
   .exact k1 J.2.2
  rcases h3 with rfl|rfl|rfl|rfl<;>exact fin (W:=True) (Rs:=[a,C]) (.inr (k1 J.1)) rfl hr oC oC oC
 by_cases h5:op=5
 .subst h5;simp[aU,aO] at h;refine fin (W:=True) (Rs:=[a,C]) (.inr (k1 h.2.1)) rfl ?_ oC oC oC;intro r hr;simp at hr;rcases hr with rfl|rfl
  .exact(X h.2.2).1
  .exact(X h.2.2).2
 by_cases h8:op=8
 .subst h8;simp[aU,aO] at h;exact fin (W:=True) (Rs:=[a]) (.inr (k1 h.2.1)) rfl (by simpa using k1 h.2.2) oC oC oC
 by_cases h9:op=9
 .subst h9;simp[aU,aO] at h;exact fin (W:=True) (Rs:=[]) (.inr (M h.2.1)) rfl oS oC oC oC
 by_cases ou:op=10
 .subst ou;simp[aU,aO] at h;exact fin (W:=True) (Rs:=args) (.inr (M h.2.1)) rfl (k6 h.2.2.2.2) oC oC oC
 by_cases kZ:op=11
 .subst kZ;simp[aU,aO] at h;exact fin (W:=True) (Rs:=[a]) (.inr (k4 h.2.1)) rfl (by simpa using M h.2.2.1) oC oC oC
 by_cases wc:op=12
 .subst wc;simp[aU,aO] at h;refine fin (W:=True) (Rs:=[a,C]) (.inl rfl) rfl ?_ oC oC oC;intro r hr;simp at hr;rcases hr with rfl|rfl
  .exact M h.2.1
  .exact k4 h.2.2.1
 by_cases yi:op=13\/op=14
 .have J:bp f to 119=true/\bp f a 114=true:=by
   rcases yi with rfl|rfl<;>(simp[aU,aO] at h;exact h.2)
  rcases yi with rfl|rfl<;>exact fin (W:=True) (Rs:=[a]) (.inr (k1 J.1)) rfl (by simpa using M J.2) oC oC oC
 by_cases YP:op=15
 .subst YP;simp[aU,aO] at h;exact fin (W:=True) (Rs:=[a]) (.inl rfl) rfl (by simpa using k1 h.2) oC oC oC
 by_cases rQ:op=16
 .subst rQ;simp[aU,aO] at h;exact fin (W:=True) (Rs:=[a]) (.inl rfl) rfl (by simpa using k3 h.2) oC oC oC
 by_cases iR:op=17
 .subst iR;simp[aU,aO] at h;exact⟨⟨.inr (k7 h.2).1,fun e=>by simp at e⟩,⟨by simp[cP,aU,pN,tm],fun _=>(k7 h.2).2,fun e=>by simp at e⟩,fun e=>by simp at e⟩
 by_cases eR:op=18
 .subst eR;simp[aU,aO] at h;exact⟨⟨.inl rfl,fun _=>(k7 h.2).2⟩,⟨by simpa[cP,aU,pN] using(k7 h.2).1,fun e=>by simp at e,fun e=>by simp at e⟩,fun e=>by simp at e⟩
 by_cases fF:op=19
 .subst fF;simp[aU,aO] at h;refine⟨⟨.inr (k4 h.2.2.1),fun e=>by simp at e⟩,⟨by simp[cP,aU,pN,tm],fun e=>by simp at e,fun _ r hr=>(X (h.2.2.2.2 r hr)).2⟩,fun _=>?_⟩;simpa[aX] using h.2.2.2.1
 .rw[if_neg h1,if_neg h2,if_neg (by simp[aU];omega),if_neg h5,if_neg h8,if_neg h9,if_neg ou,if_neg kZ,if_neg wc,if_neg (by simp[aU];omega),if_neg YP,if_neg rQ,if_neg iR,if_neg eR,if_neg fF] at h;cases h
theorem SQ{f:aG}{x:bE}(h:lG f x=true):(dL x= -1\/∃ i:Nat,i<f.al.length/\dL x=i)/\∀ r∈cP x,∃ i:Nat,i<f.al.length/\r=i:=by
 have k1:∀ {r:Int},bp f r 119=true->∃ i:Nat,i<f.al.length/\r=i:=fun {r} h=>lP (lj fun e=>by rw[ve,e] at h;simp[aX] at h);have J:∀ {r:Int},bp f r 114=true->∃ i:Nat,i<f.al.length/\r=i:=fun {r} h=>lP (lj fun e=>by rw[Ay,e] at h;simp[aX] at h);have X:∀ {r:Int},bp f r 118=true->∃ i:Nat,i<f.al.length/\r=i:=fun {r} h=>lP (pJ h);have k6:∀ {l:List Int},gX f.al l=true->∀ r∈l,∃ i:Nat,i<f.al.length/\r=i:=fun {l} h r hr=>lP (z5 h r hr);obtain⟨op,to,a,C,n,args⟩:=x;unfold lG at h;dsimp only at h;by_cases h0:op=30\/op=31\/op=32\/op=33\/op=34
 .have M:bp f to 119=true/\bp f a 119=true/\bp f C 119=true:=by
   rcases h0 with rfl|rfl|rfl|rfl|rfl<;>(simp[aU,aO] at h;exact h.2)
  have hr:∀ r∈[a,C],∃ i:Nat,i<f.al.length/\r=i:=by
   intro r hr;simp at hr;rcases hr with rfl|rfl
   .exact k1 M.2.1
   .exact k1 M.2.2
  rcases h0 with rfl|rfl|rfl|rfl|rfl<;>exact⟨.inr (k1 M.1),hr⟩
 by_cases h5:op=35
 .subst h5;simp[aU,aO] at h;refine⟨.inl rfl,?_⟩;show ∀ r∈[a,C],_;intro r hr;simp at hr;rcases hr with rfl|rfl
  .exact J h.2.1
  .exact X h.2.2
 by_cases h6:op=36
 .subst h6;simp[aU,aO] at h;refine⟨.inr (X h.2.1),?_⟩;show ∀ r∈[a],_;simpa using J h.2.2
 by_cases h7:op=37
 .subst h7;simp[aU,aO] at h;refine⟨.inr (X h.2.1),?_⟩;show ∀ r∈[a,C],_;intro r hr;simp at hr;rcases hr with rfl|rfl
  .exact J h.2.2.1
  .exact k1 h.2.2.2
 by_cases h8:op=38
 .subst h8;simp[aU,aO] at h;refine⟨.inl rfl,?_⟩;show ∀ r∈a::C::args,_;intro r hr;rcases List.mem_cons.1 hr with rfl|hr
  .exact J h.2.1
  .rcases List.mem_cons.1 hr with rfl|hr
   .exact k1 h.2.2.1
   .exact k6 h.2.2.2.2 r hr
 .exfalso;simp[aU,h5,h6,h7,h8] at h;omega
theorem K0{f:aG}{x:End}(h:ic f x=true):(eS x= -1\/∃ i:Nat,i<f.al.length/\eS x=i)/\(∀ r∈cK x,∃ i:Nat,i<f.al.length/\r=i)/\(x.kind=7->∃ i:Nat,i<f.al.length/\x.a=i):=by
 have k1:∀ {r:Int},bp f r 119=true->∃ i:Nat,i<f.al.length/\r=i:=fun {r} h=>lP (lj fun e=>by rw[ve,e] at h;simp[aX] at h);have k3:∀ {r:Int},bp f r 105=true->∃ i:Nat,i<f.al.length/\r=i:=fun {r} h=>lP (lj fun e=>by rw[ER,e] at h;simp[aX] at h);have C:∀ {r:Int},bp f r 118=true->∃ i:Nat,i<f.al.length/\r=i:=fun {r} h=>lP (pJ h);have X:∀ {l:List Int},gX f.al l=true->∀ r∈l,∃ i:Nat,i<f.al.length/\r=i:=fun {l} h r hr=>lP (z5 h r hr);obtain⟨kind,a,b,to,gD,name,ins,args,aL,cX⟩:=x;unfold ic at h;dsimp only at h;by_cases h1:kind=1
 .subst h1;exact⟨.inl rfl,by simp[cK,aU],fun e=>by simp at e⟩
 by_cases h2:kind=2
 .subst h2;simp[aO] at h;refine⟨.inl rfl,?_,fun e=>by simp at e⟩;show ∀ r∈[a],_;simpa using k1 h.2.1
 by_cases h3:kind=3
 .subst h3;rw[if_neg oC,if_neg oC,if_pos rfl] at h;refine⟨.inl rfl,?_,fun e=>by simp at e⟩;intro r hr;simp[cK,aU] at hr;obtain⟨e,rfl⟩:=hr;by_cases hc:f.iter=true\/f.result=0
  .rw[if_pos hc,aO,oF] at h;exact absurd h.2 e
  .rw[if_neg hc,aO,aO] at h;exact C h.2.1
 by_cases h4:kind=4
 .subst h4;exact⟨.inl rfl,by simp[cK,aU],fun e=>by simp at e⟩
 by_cases h5:kind=5
 .subst h5;simp[aO] at h;exact⟨(SQ h.2.1).1,(SQ h.2.1).2,fun e=>by simp at e⟩
 by_cases J:kind=6
 .subst J;simp[aO] at h;refine⟨?_,X h.2.2.2.1,fun e=>by simp at e⟩;show a= -1\/∃ i:Nat,_/\a=_;rcases h.2.2.2.2.1 with e|e
  .exact .inl (by simpa[aX] using e)
  .exact .inr (C e)
 by_cases M:kind=7
 .subst M;simp[aO] at h;exact⟨.inr (k3 h.2.2.2.2.1),X h.2.2.2.1,fun _=>k3 h.2.2.2.2.1⟩
 by_cases h8:kind=8
 .subst h8;simp[aO] at h;refine⟨.inr (C h.2.2.1),?_,fun e=>by simp at e⟩;show ∀ r∈[a],_;simpa using k3 h.2.1
 by_cases h9:kind=9
 .subst h9;simp[aO] at h;refine⟨.inl rfl,?_,fun e=>by simp at e⟩;show ∀ r∈[a],_;simpa using C h.2.2.1
 .simp[h1,h2,h3,h4,h5,J,M,h8,h9] at h
end Go.Argus
section
open Go Go.Abs Go.Proofs Go.Argus
namespace Go.Argus
open Go.Proofs.Tryz.K (nextR)
theorem Rx{f:aG}{x:End}(h:j8 f x=true):qV x=nextR x:=by
 refine SM (DE .nil).1 (JR x) fun t=>?_;rw[Qq,GM h,nextR,Gq]
theorem J2{f:aG}{bs:List b7}(h:∀ b∈bs,j8 f b.fin=true)(k:Nat):lY bs k=bH bs k:=by
 induction k with
 |zero=>rfl
 |succ k ih=>
  unfold lY bH at ih ⊢;rw[List.range_succ,List.foldl_append,List.foldl_append,ih];show DV bs _ k=qQ bs _ k;unfold DV qQ;cases hx:bs[k]? with
  |none=>rfl
  |some x=>dsimp only;rw[Rx (h x (bU hx))]
end Go.Argus
end
namespace Go.Argus
open Go Go.Abs
open Go.Proofs.Tryz.K (nextR)
def sy(f:aG):Bool:=oJ f&&(sc f&&oK f)
def Hn(f:aG):Bool:=f.blocks.all fun x=>(dW x.fin).all (cu f)
def wT(f:aG)(b:Nat)(l:List bE)(j:Nat):Bool:=eD f b (lY f.blocks f.blocks.length b).length (l.getD j eB)&& !(cr (l.getD j eB)&&(decide (0<j)&& !cr (l.getD (j - 1) eB)))
def sO(f:aG)(b:Nat):Bool:=
 let x:=f.blocks.getD b ki
 !decide ((200:Int)<x.ins.length)&&((range x.ins.length).all (wT f b x.ins)&&(ic f x.fin&& !(x.fin.kind==7&&(lS f.blocks b).any (·==x.fin.a))))
def wy(f:aG):Bool:=sy f&&(Hn f&&(range f.blocks.length).all (sO f))
theorem Gx(f:aG)(b:Int)(x:bE)(p:Bool)(C:Int):jN f b x p C=(jN f b x true C&&(!cr x||p)):=by
 unfold jN cr;by_cases rQ:x.op=16
 .simp[rQ]
 .by_cases X:x.op=17
  .simp[X]
  .by_cases J:x.op=18
   .simp[J]
   .by_cases M:x.op=19
    .simp[M,Bool.and_comm]
    .simp[rQ,X,J,M]
theorem ac7(l:List bE):(∀ j,j<l.length->cr (l.getD j eB)=true->0<j->cr (l.getD (j - 1) eB)=true)↔∀ j,j<l.length->cr (l.getD j eB)=true->(l.take (j+1)).all cr=true:=by
 have hg:∀ {j},j<l.length->∀ y,l[j]? =some y->l.getD j eB=y:=fun _ y hy=>getD_some hy;constructor
 .intro h j
  induction j with
  |zero=>
   intro hj hp;have hx:l[0]? =some l[0]:=aM hj;rw[getD_some hx] at hp;rw[List.take_add_one,hx];simpa using hp
  |succ j ih=>
   intro hj hp;have hx:l[j+1]? =some l[j+1]:=aM hj;have h1:=h (j+1) hj hp oG;have h2:=ih oG (by simpa using h1);rw[List.take_add_one,List.all_append,h2,hx];rw[getD_some hx] at hp;simpa using hp
 .intro h j hj hp h0;have h1:=h j hj hp;have hx:l[j - 1]? =some l[j - 1]:=aM oG;rw[getD_some hx];refine bj.1 h1 _ (bU (i:=j - 1) ?_);rw[List.getElem?_take,if_pos oG,hx]
theorem ael{n:Nat}{p q:Nat->Bool}:(range n).all (fun j=>p j&&q j)=((range n).all p&&(range n).all q):=by
 rw[Bool.eq_iff_iff];simp only[bj,aO,List.mem_range];exact⟨fun h=>⟨fun j hj=>(h j hj).1,fun j hj=>(h j hj).2⟩,fun h j hj=>⟨h.1 j hj,h.2 j hj⟩⟩
theorem PN{f:aG}:wy f=jx f:=by
 have hH:jx f=(sy f&&((range f.blocks.length).all (j7 f)&&(range f.blocks.length).all (tl f))):=by
  unfold jx sy;simp only[Bool.and_assoc]
 rw[hH];unfold wy;cases hh:sy f with
 |false=>rfl
 |true=>
  rw[Bool.true_and,Bool.true_and,Bool.eq_iff_iff,aO,aO,bj,bj,bj];unfold sy at hh;simp only[aO] at hh;obtain⟨h1,h2,_⟩:=hh
  have J:r5 f=true:=by
   unfold oJ at h1;simp only[aO] at h1;exact h1.2.2.1
  have lF:f.al.length<=1200:=by
   unfold oJ at h1;simp only[aO,Bool.not_eq_true',decide_eq_false_iff_not] at h1;omega
  have fO:∀ k∈f.aZ,k=1\/k=2:=fun k hk=>by
   unfold sc at h2;simp only[aO] at h2;have h3:=h2.2.2.1;simp only[fx,Bool.not_eq_true',List.any_eq_false] at h3;have:=h3 k hk;simp[nB] at this;omega
  have jm:∀ {k:Nat},k<f.blocks.length->∃ x,f.blocks[k]? =some x/\f.blocks.getD k ki=x/\x∈f.blocks:=fun {k} hk=>by
   have hx:f.blocks[k]? =some f.blocks[k]:=aM hk;exact⟨_,hx,getD_some hx,cy _⟩
  have qe:(∀ b∈f.blocks,j8 f b.fin=true)->∀ k,k<f.blocks.length->(sO f k=true↔j7 f k=true/\tl f k=true):=fun he k hk=>by
   obtain⟨x,hx,hg,hm⟩:=jm hk;have hah:=J2 he f.blocks.length;unfold sO j7 tl wT wo;simp only[hg,K6 J,he x hm,hah,Bool.true_and,aO,bj,List.mem_range];have h3:∀ j,eD f k (bH f.blocks f.blocks.length k).length (x.ins.getD j eB)=jN f k (x.ins.getD j eB) true (bH f.blocks f.blocks.length k).length:=fun j=>SN fO;have Xy:=ac7 x.ins;simp only[h3];constructor
   .rintro⟨M,C,X⟩;refine⟨⟨M,X⟩,fun j hj=>?_⟩;rw[Gx,aO];refine⟨(C j hj).1,?_⟩;have:=Xy.1 (fun j hj hp h0=>by have:=(C j hj).2;rw[hp] at this;simpa[h0] using this) j hj;cases hp:cr (x.ins.getD j eB) with
    |false=>rfl
    |true=>rw[this hp];rfl
   .rintro⟨⟨M,X⟩,C⟩;refine⟨M,fun j hj=>?_,X⟩
    have h4:∀ j,j<x.ins.length->cr (x.ins.getD j eB)=true->(x.ins.take (j+1)).all cr=true:=fun j hj hp=>by
     have:=C j hj;rw[Gx,aO,hp] at this;simpa using this.2
    have h5:=C j hj;rw[Gx,aO] at h5;refine⟨h5.1,?_⟩;have h6:=Xy.2 h4 j hj;cases hp:cr (x.ins.getD j eB) with
    |false=>rfl
    |true=>
     by_cases h0:0<j
     .rw[h6 hp h0];simp
     .simp[h0]
  constructor
  .rintro⟨h3,h4⟩
   have he:∀ b∈f.blocks,j8 f b.fin=true:=fun b hb=>by
    obtain⟨k,hk⟩:=cC hb;have:=h4 k (by simpa using(bw.1 hk).1);unfold sO at this;simp only[getD_some hk,aO,K6 J] at this;exact this.2.2.1
   exact⟨fun k hk=>((qe he k (by simpa using hk)).1 (h4 k hk)).1,fun k hk=>((qe he k (by simpa using hk)).1 (h4 k hk)).2⟩
  .rintro⟨h3,h4⟩
   have he:∀ b∈f.blocks,j8 f b.fin=true:=fun b hb=>by
    obtain⟨k,hk⟩:=cC hb;have:=h3 k (by simpa using(bw.1 hk).1);unfold j7 at this;simp only[getD_some hk,aO] at this;exact this.1
   refine⟨bj.2 fun x hx=>bj.2 fun t ht=>?_,fun k hk=>(qe he k (by simpa using hk)).2 ⟨h3 k hk,h4 k hk⟩⟩;rw[GM (he x hx)] at ht;have:=(Kp lF J (he x hx)).to t ht;rw[cu,lh];omega
def opsV(R:Nat)(c:Cert)(x:bE):Bool:=(x.op !=17||c.is.getD ((R:Int)+x.n).toNat false)&&ta c (cP x)
def q0(f:aG)(s:CS)(b:Nat)(x:bE)(k:Nat):Bool:=
 let p:=((bH f.blocks f.blocks.length b).getD k 0).toNat
 let c:=cF f.al.length (f.al.length+f.aZ.length) s p
 c.any||(nV (f.blocks.getD p ki).fin b (fB f.al.length (f.blocks.getD p ki).ins c)).is.getD (x.args.getD k 0).toNat false
def CL(f:aG)(s:CS)(b:Nat)(x:bE):Bool:= !cr x||(range x.args.length).all (q0 f s b x)
def AP(f:aG)(s:CS)(b:Nat)(l:List bE)(c:Cert)(j:Nat):Bool:=opsV f.al.length (fB f.al.length (l.take j) c) (l.getD j eB)&&CL f s b (l.getD j eB)
def qZ(f:aG)(s:CS)(b:Nat):Bool:=
 let c:=cF f.al.length (f.al.length+f.aZ.length) s b
 let l:=(f.blocks.getD b ki).ins
 c.any||((range l.length).all (AP f s b l c)&&ta (fB f.al.length l c) (cK (f.blocks.getD b ki).fin))
def Lm(f:aG):Int:=if wy f=true then(if(range f.blocks.length).all (qZ f (iW f.blocks f.args.toNat))=true then 0 else 81) else 80
theorem Lt{R n:Nat}(J:R<=n){w:List Int}(C:gp w):∀ {rs:List Int} {ok:Bool},(∀ r∈rs,∃ i:Nat,i<R/\r=i)->jK w ok rs=(ok&&ta ⟨false,cD R n w⟩ rs)
 |[],ok,_=>by simp[jK,ta]
 |r::rs,ok,h=>by
  obtain⟨i,hi,e⟩:=h r oS;have ih:=Lt J C (rs:=rs) (ok:=ok&&na w r.toNat) fun r hr=>h r (by simp[hr])
  have h1:(cD R n w).getD r.toNat false=na w r.toNat:=by
   rw[e,bN,getD_some (uT oG),KA C.all];unfold gN;rw[if_pos hi]
  unfold jK ta at ih ⊢;rw[List.foldl_cons,ih,List.all_cons,h1,Bool.and_assoc]
theorem SU{R n:Nat}(hR:R<=1200)(hn:n<=R+60)(C:R<=n):∀ {l:List bE} (_:∀ x∈l,AO R n x/\Iv R n x) {w:List Int} {ok:Bool} (_:gp w) (_:mX R n w),
 (l.foldl oW (w,ok)).2=(ok&&(range l.length).all fun j=>opsV R (fB R (l.take j) ⟨false,cD R n w⟩) (l.getD j eB))
 |[],_,w,ok,_,_=>by simp
 |x::l,h,w,ok,hw,ho=>by
  obtain⟨X,J⟩:=h x oS;obtain⟨h1,h2,h3⟩:=Rv hR hn C X hw ho;have ih:=SU hR hn C (l:=l) (ok:=(oW (w,ok) x).2) (fun y hy=>h y (by simp[hy])) h2 h3;rw[List.foldl_cons];show(l.foldl oW (yL w x,(oW (w,ok) x).2)).2=_;rw[ih,List.length_cons,List.range_succ_eq_map,List.all_cons,List.all_map]
  have h0:(oW (w,ok) x).2=(ok&&opsV R ⟨false,cD R n w⟩ x):=by
   show(jK w ok (cP x)&&_)=_;rw[Lt C hw J.r,Bool.and_assoc];congr 1;unfold opsV;rw[Bool.and_comm];congr 1;by_cases M:x.op=17
   .obtain⟨i,hi,e⟩:=J.s M;have e1:((R:Int)+x.n).toNat=R+i:=by omega
    have e2:(k8 x.n).toNat=gN R (R+i):=by unfold k8 gN;rw[if_neg oG];omega
    rw[e1,e2,getD_some (uT oG),KA hw.all]
   .have:(x.op !=17)=true:=by simpa using M
    rw[this];rfl
  rw[h0,Bool.and_assoc];congr 2;refine List.all_congr rfl fun j=>?_;show _=opsV R (fB R ((x::l).take (j+1)) _) ((x::l).getD (j+1) eB);unfold fB;rw[List.take_succ_cons,List.foldl_cons,h1];rfl
theorem ac8{l:List bE}{P:bE->Bool}(h:∀ j,j<l.length->cr (l.getD j eB)=true->(l.take (j+1)).all cr=true):(range l.length).all (fun j=> !cr (l.getD j eB)||P (l.getD j eB))=(l.takeWhile cr).all P:=by
 rw[Bool.eq_iff_iff,bj,bj];constructor
 .intro ha y hy;have C:y∈l:=List.takeWhile_sublist _ |>.subset hy;have hp:cr y=true:=bj.1 List.all_takeWhile y hy;obtain⟨j,hj⟩:=cC C;have:=ha j (by simpa using(bw.1 hj).1);rw[getD_some hj,hp] at this;simpa using this
 .intro ha j hj;have ao:j<l.length:=by simpa using hj
  have hx:l[j]? =some l[j]:=aM ao;have h1:=h j ao;rw[getD_some hx] at h1 ⊢;cases hp:cr l[j] with
  |false=>rfl
  |true=>
   have h2:=bj.1 (h1 hp)
   have J:l.takeWhile cr=l.take (j+1)++(l.drop (j+1)).takeWhile cr:=by
    conv=>lhs;rw[<- List.take_append_drop (j+1) l]
    exact List.takeWhile_append_of_pos h2
   have:P l[j]=true:=ha _ (by
    rw[J,List.mem_append];left
    exact bU (i:=j) (by rw[List.getElem?_take,if_pos oG,hx]))
   rw[this];rfl
structure tO(f:aG):Prop where
 ok:qR f
 sl:f.aZ.length<=60
 ins:∀ b∈f.blocks,∀ x∈b.ins,AO f.al.length (f.al.length+f.aZ.length) x/\Iv f.al.length (f.al.length+f.aZ.length) x
 Ja:∀ (k:Nat) b,f.blocks[k]? =some b->∀ (j:Nat) x,b.ins[j]? =some x->cr x=true->x.args.length=(bH f.blocks f.blocks.length k).length/\(b.ins.take (j+1)).all cr=true
 wr:∀ b∈f.blocks,eS b.fin= -1\/∃ i:Nat,i<f.al.length/\eS b.fin=i
 rd:∀ b∈f.blocks,∀ r∈cK b.fin,∃ i:Nat,i<f.al.length/\r=i
 ed:∀ b∈f.blocks,dW b.fin=dp b.fin/\qV b.fin=nextR b.fin
 ar:∃ a:Nat,f.args=a/\a<=f.al.length
theorem EJ{f:aG}(h:jx f=true):tO f:=by
 have C:=tE h;have hd:=h;unfold jx at hd;simp only[aO] at hd;obtain⟨h1,h2,_,h4,_⟩:=hd
 have X:r5 f=true:=by
  unfold oJ at h1;simp only[aO] at h1;exact h1.2.2.1
 have xY:∃ a:Nat,f.args=a/\a<=f.al.length:=by
  unfold oJ at h1;simp only[aO,lh] at h1;have:=h1.2.1;refine⟨f.args.toNat,oG,?_⟩;have:=this.2;split at this<;>omega
 have fO:∀ k∈f.aZ,k=1\/k=2:=fun k hk=>by
  unfold sc at h2;simp only[aO] at h2;have h3:=h2.2.2.1;simp only[fx,Bool.not_eq_true',List.any_eq_false] at h3;have:=h3 k hk;simp[nB] at this;omega
 have he:∀ b∈f.blocks,j8 f b.fin=true:=fun b hb=>by
  obtain⟨k,hk⟩:=cC hb;have:=bj.1 h4 k (by simpa using(bw.1 hk).1);unfold j7 at this;simp only[getD_some hk,aO] at this;exact this.1
 have J:∀ (k:Nat) b,f.blocks[k]? =some b->∀ (j:Nat) x,b.ins[j]? =some x->eD f k (bH f.blocks f.blocks.length k).length x=true/\(cr x=true->(b.ins.take (j+1)).all cr=true):=fun k b hb j x hx=>by
  have:=C.right k b hb j x hx;rw[Gx,aO] at this;refine⟨by rw[SN fO];exact this.1,fun hp=>?_⟩;have h3:=this.2;rw[hp] at h3;simpa using h3
 have M:∀ b∈f.blocks,ic f b.fin=true:=fun b hb=>by rw[K6 X];exact he b hb
 refine⟨C,C.aZ.2,fun b hb x hx=>?_,fun k b hb j x hx hp=>?_,fun b hb=>(K0 (M b hb)).1,fun b hb=>(K0 (M b hb)).2.1,fun b hb=>⟨GM (he b hb),Rx (he b hb)⟩,xY⟩
 .obtain⟨k,hk⟩:=cC hb;obtain⟨j,hj⟩:=cC hx;have:=SP C.aZ.1 (J k b hk j x hj).1;exact⟨this.1,this.2.1⟩
 .have:=SP C.aZ.1 (J k b hb j x hx).1;have h3:=this.2.2 (by simpa[cr] using hp);exact⟨oG,(J k b hb j x hx).2 hp⟩
theorem abB{f:aG}(h:tO f):qY f.al.length (f.al.length+f.aZ.length) f.blocks.length (iW f.blocks f.args.toNat):=by
 obtain⟨a,ha,ui⟩:=h.ar;have hR:=h.ok.al;have hS:=h.sl;have hi:=Qs (R:=f.al.length) (n:=f.al.length+f.aZ.length) (args:=a) hR oG oG h.ok.pos ui;rw[ha,bN];unfold iW;refine(Rr (J:=qY f.al.length (f.al.length+f.aZ.length) f.blocks.length) h.ok.blk (fun s hs hj=>ac2 (J:=qY f.al.length (f.al.length+f.aZ.length) f.blocks.length) h.ok.blk (fun s h=>R6 h false) (fun s k hs hj=>?_) hs hj) _ _ hi.1.ok hi.1 (Nat.lt_succ_self _)).2.2;refine aef (J:=qY f.al.length (f.al.length+f.aZ.length) f.blocks.length) h.ok.blk hs hj fun x hx hr u hu po t ht=>?_;have hk:k<f.blocks.length:=(bw.1 hx).1;have C:=bU hx;have M:=(h.ok.blk x C).to t ht;obtain⟨t,rfl⟩:=cU M.1;obtain⟨_,X,p3⟩:=DM hR oG oG (ok:=true) (fun y hy=>(h.ins x C y hy).1) (hs.ns hk) (hj.yes k hk hr);exact(R7 hR oG oG po (h.ed x C).1 (h.wr x C) oG X p3).1
theorem Ry{f:aG}(h:tO f){b:Nat}(hb:b<f.blocks.length):qZ f (iW f.blocks f.args.toNat) b=tk f.blocks (iW f.blocks f.args.toNat) b:=by
 have M:=abB h;have hR:=h.ok.al;have hS:=h.sl;generalize iW f.blocks f.args.toNat=s at M ⊢;have hx:f.blocks[b]? =some f.blocks[b]:=aM hb;have J:f.blocks[b]∈f.blocks:=cy _;unfold qZ tk;simp only[getD_some hx];have AI:=h.Ja b _ hx;generalize f.blocks[b]=x at hx J AI;cases qD:s.re.getD b false with
 |false=>
  have:cF f.al.length (f.al.length+f.aZ.length) s b=⟨true,replicate (f.al.length+f.aZ.length) false⟩:=by unfold cF;rw[qD];rfl
  rw[this];rfl
 |true=>
  have hc:cF f.al.length (f.al.length+f.aZ.length) s b=⟨false,cD f.al.length (f.al.length+f.aZ.length) (s.ws.getD b [])⟩:=by unfold cF;rw[qD];rfl
  have hw:=M.ok.ns hb;have ho:=M.yes b hb qD;rw[hc];generalize s.ws.getD b []=w at hw ho;have h1:=SU hR oG oG (h.ins x J) (ok:=true) hw ho;obtain⟨h2,h3,h4⟩:=DM hR oG oG (ok:=true) (fun y hy=>(h.ins x J y hy).1) hw ho;have h5:=Lt (R:=f.al.length) (n:=f.al.length+f.aZ.length) oG h3 (ok:=(x.ins.foldl oW (w,true)).2) (h.rd x J)
  have h6:∀ j,j<x.ins.length->cr (x.ins.getD j eB)=true->(x.ins.take (j+1)).all cr=true:=fun j hj hp=>by
   have hy:x.ins[j]? =some x.ins[j]:=aM hj;rw[getD_some hy] at hp;exact(AI j _ hy hp).2
  have h7:=ac8 (l:=x.ins) (P:=fun y=>(range y.args.length).all (q0 f s b y)) h6
  have h8:(x.ins.takeWhile cr).all (fun y=>(range y.args.length).all (q0 f s b y))=(x.ins.takeWhile cr).all (wR f.blocks s b):=by
   rw[Bool.eq_iff_iff,bj,bj]
   have jF:∀ y∈x.ins.takeWhile cr,(range y.args.length).all (q0 f s b y)=wR f.blocks s b y:=fun y hy=>by
    have Jl:y∈x.ins:=List.takeWhile_sublist _ |>.subset hy;have hp:cr y=true:=bj.1 List.all_takeWhile y hy;obtain⟨j,hj⟩:=cC Jl;have hlen:=(AI j y hj hp).1;unfold wR;rw[hlen,Bool.eq_iff_iff,bj,bj]
    have:∀ k∈range (bH f.blocks f.blocks.length b).length,q0 f s b y k=uO f.blocks s b y k:=fun k hk=>by
     have hk:k<(bH f.blocks f.blocks.length b).length:=by simpa using hk
     have Yp:(bH f.blocks f.blocks.length b)[k]? =some (bH f.blocks f.blocks.length b)[k]:=aM hk;unfold q0 uO;simp only[getD_some Yp]
     have X:(bH f.blocks f.blocks.length b)[k].toNat<f.blocks.length:=by
      have ala:=(JM (fun b hb t ht=>((h.ok.blk b hb).to t ht).1) f.blocks.length b).2 _ (cy hk);have:=h.ok.pos;omega
     generalize (bH f.blocks f.blocks.length b)[k].toNat=p at X;have vX:f.blocks[p]? =some f.blocks[p]:=aM X;have rj:f.blocks[p]∈f.blocks:=cy _;rw[getD_some vX];generalize f.blocks[p]=z at vX rj;have A6:y.args[k]? =some y.args[k]:=aM oG;have gE:=(h.ins x J y Jl).2.p (by simpa[cr] using hp) _ (cy (h:=by omega):y.args[k]∈y.args);rw[getD_some A6];obtain⟨i,hi,e⟩:=gE;rw[e,bN];cases AZ:s.re.getD p false with
     |false=>
      have:cF f.al.length (f.al.length+f.aZ.length) s p=⟨true,replicate (f.al.length+f.aZ.length) false⟩:=by unfold cF;rw[AZ];rfl
      rw[this];rfl
     |true=>
      have Bk:cF f.al.length (f.al.length+f.aZ.length) s p=⟨false,cD f.al.length (f.al.length+f.aZ.length) (s.ws.getD p [])⟩:=by unfold cF;rw[AZ];rfl
      obtain⟨q2,q3,q4⟩:=DM hR oG oG (ok:=true) (fun y hy=>(h.ins z rj y hy).1) (M.ok.ns X) (M.yes p X AZ);obtain⟨r2,r3,r4⟩:=Rw hR oG oG (h.ed z rj).1 (h.wr z rj) (to:=(b:Int)) q3 q4;rw[Bk,q2,r2,getD_some (uT (show i<f.al.length+f.aZ.length by omega))];have iN:gN f.al.length i=i:=by unfold gN;rw[if_pos hi]
      rw[iN];show(false||eY _ i)=(!true||na _ i)
      rw[<- KA r3.all];rfl
    exact⟨fun h k hk=>by rw[<- this k hk];exact h k hk,fun h k hk=>by rw[this k hk];exact h k hk⟩
   exact⟨fun h y hy=>by rw[<- jF y hy];exact h y hy,fun h y hy=>by rw[jF y hy];exact h y hy⟩
  have h9:(range x.ins.length).all (AP f s b x.ins ⟨false,cD f.al.length (f.al.length+f.aZ.length) w⟩)=((range x.ins.length).all (fun j=>opsV f.al.length (fB f.al.length (x.ins.take j) ⟨false,cD f.al.length (f.al.length+f.aZ.length) w⟩) (x.ins.getD j eB))&&(range x.ins.length).all fun j=> !cr (x.ins.getD j eB)||(range (x.ins.getD j eB).args.length).all (q0 f s b (x.ins.getD j eB))):=by
   rw[<- ael];rfl
  have ou:(jJ x w).2=jK (x.ins.foldl oW (w,true)).1 (x.ins.foldl oW (w,true)).2 (cK x.fin):=rfl;rw[h9,h7,h8,h2,ou,h5,h1];simp only[Bool.true_and,Bool.false_or,Bool.not_true];generalize (range x.ins.length).all _=A;generalize (x.ins.takeWhile cr).all _=B;generalize ta _ _=C;cases A<;>cases B<;>cases C<;>rfl
theorem abo(f:aG):Lm f=dG f:=by
 unfold Lm dG;rw[PN];split
 .rename_i h;have hf:=EJ h
  have:(range f.blocks.length).all (qZ f (iW f.blocks f.args.toNat))=yw f.blocks f.args.toNat:=by
   unfold yw;rw[Bool.eq_iff_iff,bj,bj];exact⟨fun h k hk=>by rw[<- Ry hf (by simpa using hk)];exact h k hk,fun h k hk=>by rw[Ry hf (by simpa using hk)];exact h k hk⟩
  rw[this]
 .rfl
end Go.Argus
namespace Go.Argus
open Go.Abs
structure yT(f:aG):Prop where
 NN:0<=f.result
 nm:f.name.size<=maxLen
 sg:∀ s∈f.signals,s.size<=maxLen
 en:∀ b∈f.blocks,b.fin.name.size<=maxLen/\∀ w∈b.fin.aL,w.name.size<=maxLen
theorem afh(x:An.val)(h:An.ok x):yT (T8 x):=by
 obtain⟨h1,_,_,h4,_,_,J,h8,_⟩:=h;refine⟨?_,h1,fun s hs=>?_,fun b hb=>?_⟩
 .have:(Lit.int .u8 x.2.2.2.1).wf=true:=h4;simp only[Lit.wf,aO] at this;exact of_decide_eq_true this.1
 .exact J s hs
 .obtain⟨y,hy,rfl⟩:=List.mem_map.1 hb;obtain⟨_,C,_⟩:=h8 y hy;obtain⟨_,_,_,_,_,e6,_,_,e9,_,_⟩:=C;refine⟨e6,fun w M=>?_⟩;obtain⟨z,X,rfl⟩:=List.mem_map.1 M;exact(e9 z X).1
end Go.Argus
section
open Go Go.Abs Go.Proofs Go.Argus
namespace Go.Argus
def y0(f:aG):Bool:=lX f.name&&(!decide ((1200:Int)<f.al.length)&&(!decide ((60:Int)<f.aZ.length)&&(dg f.args 0 (if(f.al.length:Int)<6 then(f.al.length:Int) else 6)&&(!decide (2<f.result)&&(!(f.iter&&decide (f.result=0))&&(!decide ((6:Int)<f.signals.length)&&dg f.blocks.length 1 1200))))))
def uX(a:Int)(j:Nat)(x:Int):Bool:=nB 3 x||(decide ((j:Int)<a)&&decide (x=3))
theorem Zv{f:aG}(h:y0 f=false):sy f=false:=by
 unfold y0 at h;unfold sy oJ sc r5;revert h;generalize lX f.name=a;generalize dg f.args 0 _=b;generalize dg f.blocks.length 1 1200=c;generalize oK f=d;generalize fx f.al 3=e;generalize fx (f.al.take f.args.toNat) 2=g;generalize fx f.aZ 2=i;generalize f.signals.any _=j;grind
theorem Z1{f:aG}(h:y0 f=true)(hr:0<=f.result):oJ f=true/\f.signals.length<=6/\f.al.length<=1200/\f.aZ.length<=60/\0<=f.args/\f.args<=f.al.length:=by
 unfold y0 at h;simp only[aO,Bool.not_eq_true',decide_eq_false_iff_not,lh] at h;obtain⟨h1,h2,h3,h4,h5,C,J,h8⟩:=h;have ha:f.args<=f.al.length:=by have:=h4.2;split at this<;>omega
 refine⟨?_,oG,oG,oG,h4.1,ha⟩;unfold oJ r5;simp only[aO,Bool.not_eq_true',decide_eq_false_iff_not,lh];refine⟨h1,h4,?_,h2,h3,h8⟩;have:f.result=0\/f.result=1\/f.result=2:=by omega
 rcases this with e|e|e
 .simp[e] at C ⊢;exact C
 .simp[e]
 .simp[e]
end Go.Argus
namespace Go.Proofs.Tryz.K
theorem CG{f:aG}(hs:yT f):PCall prog 169 [.agg (aH f)] (B (sy f)):=by
 have AM:=AM hs.nm;have hZ:∀ {n a b:Int},PCall prog 212 [I n,I a,I b] (B (dg n a b)):=fun {n a b}=>hZ;refine bg ahB (.cons (.agg (iq f)) .nil) (Tr.s _) ?_;rw[ahC];refine az (ag ?_);refine af (aW (bG [(0,aH f,26)] eH (l:=[(1,.pt (aH f))]) eH) (aB (aj (ag ?_))));refine cl AM (aJ ?_);refine bK ?_;refine ag ?_;refine bt rfl rfl (Uf rfl rfl) (fun hc=>⟨ak,rfl⟩) (gc hZ (aJ ?_));refine aJ ?_;refine bK ?_;refine gc hZ (ag ?_);refine af (cx rfl (fun h=>?_) fun h=>bP (aB (az ?_)))
 .refine aB (aj (SS ?_));refine af (bX (av (d:=B false) rfl ?_))
  have:y0 f=false:=by
   revert h;unfold y0;generalize lX f.name=a;generalize dg f.args 0 _=b;generalize dg f.blocks.length 1 1200=c;generalize f.iter=d;grind
  rw[Zv this]
 have hA:y0 f=true:=by
  revert h;unfold y0;generalize lX f.name=a;generalize dg f.args 0 _=b;generalize dg f.blocks.length 1 1200=c;generalize f.iter=d;grind
 obtain⟨h1,h6,hR,hS,FL,haR⟩:=Z1 hA hs.NN;clear h hA;obtain⟨a,ha⟩:=cU FL
 have hV:sy f=(fx f.al 3&&(fx (f.al.take a) 2&&(fx f.aZ 2&&((!f.signals.any fun s=> !isName s)&&oK f)))):=by
  rw[sy,h1,sc,ha,bN,show decide ((6:Int)<f.signals.length)=false from decide_eq_false oG];simp only[Bool.true_and,Bool.not_false,Bool.and_assoc]
 rw[hV];clear hV h1
 have Vw:∀ (j:Nat) x,f.al[j]? =some x->uX a j x=true->(fx f.al 3&&(fx (f.al.take a) 2&&(fx f.aZ 2&&((!f.signals.any fun s=> !isName s)&&oK f))))=false:=fun j x hx hb=>by
  unfold uX at hb;rw[Bool.or_eq_true] at hb;rcases hb with hb|hb
  .have:fx f.al 3=false:=by
    unfold fx;rw[List.any_eq_true.2 ⟨x,bU hx,hb⟩];rfl
   rw[this];rfl
  .have hb:j<a/\x=3:=by simpa using hb
   have:fx (f.al.take a) 2=false:=by
    unfold fx;rw[List.any_eq_true.2 ⟨x,bU (i:=j) (by rw[List.getElem?_take,if_pos hb.1,hx]),by rw[hb.2];rfl⟩];rfl
   rw[this,Bool.false_and,Bool.and_false]
 have TG:(∀ (j:Nat) x,f.al[j]? =some x->uX a j x=false)->fx f.al 3=true/\fx (f.al.take a) 2=true:=fun h=>by
  constructor
  .unfold fx;rw[Bool.not_eq_true',List.any_eq_false];intro x hx;obtain⟨j,hj⟩:=cC hx;have:=h j x hj;unfold uX at this;rw[Bool.or_eq_false_iff] at this;rw[this.1];simp
  .unfold fx;rw[Bool.not_eq_true',List.any_eq_false];intro x hx;obtain⟨j,hj⟩:=cC hx;have wa:j<a:=by have:=(bw.1 hj).1;simp at this;omega
   rw[List.getElem?_take,if_pos wa] at hj;have:=h j x hj;unfold uX nB at this;simp[wa] at this;simp[nB];omega
 refine SS ?_
 refine af (bR (fun s=>Ghost prog s ⟨aD [(1,.pt (aH f))],fun _=>none,1⟩/\fx f.al 3=true/\fx (f.al.take a) 2=true) (cQ (α:=Nat) (fun k=>⟨aD [(1,.pt (aH f)),(3,I k)],fun _=>none,1⟩)
  (fun k=>k<=f.al.length/\∀ j x,j<k->f.al[j]? =some x->uX a j x=false) (fun k=>f.al.length - k) 0 (ap eH) ⟨oG,fun j y hj=>by omega⟩ ?_) ?_)
 .rintro k ⟨hk,hinv⟩;refine aN ?_;refine af ⟨_,rfl,fun h=>?_,fun h=>?_⟩
  .have ao:k<f.al.length:=by simpa using h
   have hx:f.al[k]? =some f.al[k]:=aM ao;have cq:=Vw k _ hx
   have pD:uX a k f.al[k]=false->∀ j y,j<k+1->f.al[j]? =some y->uX a j y=false:=fun h j y hj hy=>by
    by_cases e:j=k
    .subst e;rw[hx] at hy;cases hy;exact h
    .exact hinv j y oG hy
   generalize f.al[k]=x at hx cq pD;refine ws (aJ ?_);refine aJ ?_;refine bK ?_;refine ag ?_;refine af (aw rfl (fun hp=>?_) fun hp=>?_)
   .refine ws (SS ?_);refine af (aY (br (aR (av (d:=B false) rfl ?_))));rw[cq (by revert hp;unfold uX nB;rw[ha];grind)]
   .refine bS (aq ?_);refine af (aK (k+1) (ap eH) ⟨oG,pD (by revert hp;unfold uX nB;rw[ha];grind)⟩ oG)
  .have a9:¬ k<f.al.length:=by simpa using h
   exact⟨ap eH,TG fun j x hx=>hinv j x (by have:=(bw.1 hx).1;omega) hx⟩
 rintro s ⟨hg,e1,e2⟩;clear Vw TG;rw[e1,e2,Bool.true_and,Bool.true_and];refine⟨_,hg,aB (az ?_)⟩;refine SS ?_
 refine af (bR (fun s=>Ghost prog s ⟨aD [(1,.pt (aH f))],fun _=>none,1⟩/\fx f.aZ 2=true) (cQ (α:=Nat) (fun k=>⟨aD [(1,.pt (aH f)),(4,I k)],fun _=>none,1⟩)
  (fun k=>k<=f.aZ.length/\∀ (j:Nat) x,j<k->f.aZ[j]? =some x->nB 2 x=false) (fun k=>f.aZ.length - k) 0 (ap eH) ⟨oG,fun j y hj=>by omega⟩ ?_) ?_)
 .rintro k ⟨hk,hinv⟩;refine aN ?_;refine af ⟨_,rfl,fun h=>?_,fun h=>?_⟩
  .have ao:k<f.aZ.length:=by simpa using h
   have hx:f.aZ[k]? =some f.aZ[k]:=aM ao;generalize f.aZ[k]=x at hx;refine ws (aJ ?_);refine aN ?_;refine af (aw rfl (fun hp=>?_) fun hp=>?_)
   .refine ws (SS ?_);refine af (aY (br (aR (av (d:=B false) rfl ?_))))
    have:fx f.aZ 2=false:=by
     unfold fx;rw[List.any_eq_true.2 ⟨x,bU hx,by revert hp;unfold nB;grind⟩];rfl
    rw[this];rfl
   .refine bS (aq ?_);refine af (aK (k+1) (ap eH) ⟨oG,fun j y hj hy=>?_⟩ oG);by_cases e:j=k
    .subst e;rw[hx] at hy;cases hy;revert hp;unfold nB;grind
    .exact hinv j y oG hy
  .have a9:¬ k<f.aZ.length:=by simpa using h
   refine⟨ap eH,?_⟩;unfold fx;rw[Bool.not_eq_true',List.any_eq_false];intro x hx;obtain⟨j,hj⟩:=cC hx;rw[hinv j x (by have:=(bw.1 hj).1;omega) hj];simp
 rintro s ⟨hg,e3⟩;rw[e3,Bool.true_and];clear e1 e2 e3;have W6:∀ b:Bool,b=(!(f.signals.any fun s=> !isName s)&&oK f)->b=((!f.signals.any fun s=> !isName s)&&oK f):=fun b h=>h
 have C:∀ (j:Nat) x,f.signals[j]? =some x->isName x=false->((!f.signals.any fun s=> !isName s)&&oK f)=false:=fun j x hx hb=>by
  rw[List.any_eq_true.2 ⟨x,bU hx,by rw[hb];rfl⟩];rfl
 have J:∀ (j:Nat) x y,f.signals[j]? =some x->f.signals[j+1]? =some y->Op.bytesLess x.toList y.toList=false->((!f.signals.any fun s=> !isName s)&&oK f)=false:=fun j x y hx hy hb=>by
  have:oK f=false:=by
   unfold oK;refine j5 (k:=j) (by have:=(bw.1 hy).1;omega) ?_;unfold uP;rw[getD_some hx,getD_some hy,hb]
  rw[this,Bool.and_false]
 refine⟨_,hg,aB (az ?_)⟩;refine SS ?_
 refine af (bR (fun s=>Ghost prog s ⟨aD [],fun _=>none,1⟩/\((!f.signals.any fun s=> !isName s)&&oK f)=true) (cQ (α:=Nat) (fun k=>⟨aD [(1,.pt (aH f)),(5,I k)],fun _=>none,1⟩)
  (fun k=>k<=f.signals.length/\(∀ (j:Nat) x,j<k->f.signals[j]? =some x->isName x=true)/\∀ (j:Nat) x y,j+1<k->f.signals[j]? =some x->f.signals[j+1]? =some y->Op.bytesLess x.toList y.toList=true) (fun k=>f.signals.length - k) 0 (ap eH) ⟨oG,fun j y hj=>by omega,fun j x y hj=>by omega⟩ ?_) ?_)
 .rintro k ⟨hk,hinv,Vx⟩;refine aN ?_;refine af ⟨_,rfl,fun h=>?_,fun h=>?_⟩
  .have ao:k<f.signals.length:=by simpa using h
   have hx:f.signals[k]? =some f.signals[k]:=aM ao;have o8:=o8 (hs.sg _ (cy ao));generalize f.signals[k]=x at hx o8
   have X:isName x=true->∀ (j:Nat) y,j<k+1->f.signals[j]? =some y->isName y=true:=fun hq j y hj hy=>by
    by_cases e:j=k
    .subst e;rw[hx] at hy;cases hy;exact hq
    .exact hinv j y oG hy
   have py:=C k x hx;generalize isName x=nb at o8 X py;refine dE Z2 ?_;cases nb with
   |false=>
    refine aN ?_;refine cl o8 (aJ ?_);(iterate 2 refine z fun _ _=>?_);refine aN ?_;(iterate 2 refine z fun _ _=>?_);refine SS ?_;refine a8 bc (aw rfl (fun hp=>?_) fun hp=>(by cases hp));refine ws (SS ?_);refine af (aY (br (aR (av (d:=B false) rfl ?_))));rw[py rfl]
   |true=>
    cases k with
    |zero=>
     have eM:decide ((0:Int)<((0:Nat):Int))=false:=rfl;refine aN ?_;refine cl o8 (aJ ?_);(iterate 2 refine z fun _ _=>?_);refine aN ?_;refine z fun _ _=>ag ?_;refine a8 bc (aw rfl (fun hp=>(by cases hp)) fun hp=>bS ?_);refine aq ?_;refine af (aK 1 (ap eH) ⟨oG,X rfl,fun j x y hj=>by omega⟩ oG)
    |succ i=>
     have eM:decide ((0:Int)<((i+1:Nat):Int))=true:=decide_eq_true oG;have m9:((i+1:Nat):Int) - 1=(i:Int)/\ -9223372036854775808<=(i:Int)/\(i:Int)<=9223372036854775807:=by omega
     have hy:f.signals[i]? =some f.signals[i]:=aM oG;generalize f.signals[i]=y at hy;have cZ:=J i y x hy hx
     have AV:Op.bytesLess y.toList x.toList=true->∀ (j:Nat) x y,j+1<i+1+1->f.signals[j]? =some x->f.signals[j+1]? =some y->Op.bytesLess x.toList y.toList=true:=fun hq j u v hj M hv=>by
      by_cases e:j=i
      .subst e;rw[hy] at M;cases M;rw[hx] at hv;cases hv;exact hq
      .exact Vx j u v oG M hv
     refine aN ?_;refine cl o8 (aJ ?_);refine dz ?_;refine bt rfl rfl (S4 rfl rfl) (fun hc=>⟨ak,trivial⟩) (ag ?_);refine a8 bc (aw rfl (fun hp=>?_) fun hp=>?_)
     .refine ws (SS ?_);refine af (aY (br (aR (av (d:=B false) rfl ?_))));rw[cZ (by revert hp;generalize Op.bytesLess y.toList x.toList=q;cases q<;>simp)]
     .refine bS (aq ?_);refine af (aK (i+1+1) (ap eH) ⟨oG,X rfl,AV (by revert hp;generalize Op.bytesLess y.toList x.toList=q;cases q<;>simp)⟩ oG)
  .have a9:¬ k<f.signals.length:=by simpa using h
   refine⟨.forget _ _ _ _ fun _=>.inr rfl,?_⟩;rw[aO];constructor
   .rw[Bool.not_eq_true',List.any_eq_false];intro x hx;obtain⟨j,hj⟩:=cC hx;rw[hinv j x (by have:=(bw.1 hj).1;omega) hj];simp
   .unfold oK;refine bj.2 fun j hj=>?_;have hj:j<f.signals.length - 1:=by simpa using hj
    have h1:f.signals[j]? =some f.signals[j]:=aM oG;have h2:f.signals[j+1]? =some f.signals[j+1]:=aM oG;unfold uP;rw[getD_some h1,getD_some h2];exact Vx j _ _ oG h1 h2
 rintro s ⟨hg,e4⟩;rw[e4];refine⟨_,hg,aj ?_⟩;refine SS ?_;exact af (av rfl rfl)
end Go.Proofs.Tryz.K
end
